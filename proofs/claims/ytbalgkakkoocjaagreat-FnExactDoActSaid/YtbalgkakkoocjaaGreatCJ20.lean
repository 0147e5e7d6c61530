/- A part of the proof of the statement in the last file of this claim: texts on the language of the program and on its functions. No condition. -/
import Derived.Test.YtbalgkakkoocjaaGreatCJ6
import Derived.Test.YtbalgkakkoocjaaGreatCJ5
import Derived.Test.YtbalgkakkoocjaaGreatCJ19
import Derived.Test.YtbalgkakkoocjaaGreatCJ4
import Derived.Test.YtbalgkakkoocjaaGreatCJ10
import Derived.Test.YtbalgkakkoocjaaGreatCJ7
import Derived.Test.YtbalgkakkoocjaaGreatCJ11
import Derived.Test.YtbalgkakkoocjaaGreatCJ12
import Derived.Test.YtbalgkakkoocjaaGreatCJ16
import Derived.Test.YtbalgkakkoocjaaGreatCJ17
import Derived.Test.YtbalgkakkoocjaaGreatCJ13
import Derived.Test.YtbalgkakkoocjaaGreatCJ1
set_option linter.unusedVariables false
set_option linter.unusedSimpArgs false
set_option linter.unusedSectionVars false
open Option renaming some->ZA,none->ZB
open Bool renaming true->ZC,false->ZD
open Decidable renaming decide->ZE
open Go.Proofs.Tryz
set_option maxHeartbeats 40000000
namespace Go.Proofs.YtbalgkakkoocjaaGreat
open List renaming getElem?_eq_getElem->VF,getElem?_eq_some_iff->VH,mem_of_getElem?->VI,length_take->V3,getElem?_append_left->Wi,getElem?_append_right->V9,length_cons->VL,length_nil->VO,length_append->VV,mem_append->WD,mem_singleton->V8,map_cons->Wh,sum_cons->WB
open Option renaming bind_some->VE
open Bool renaming not_true->VK,and_eq_true->VN,not_eq_true'->V7
open _root_.Int renaming reduceEq->Yg,le_refl->Wp
set_option maxRecDepth 10000
open Go.RowKit
variable {a:ZJ}{g:ZI}{l l':List aU}{p:aM}{α:Type}{os:List α}
def dT(o:ZI)(a:ZJ):Option (ZI×Int):=
 (cP o).bind λy1=>
 (oA o).bind λy2=>
 cond (!y2)
 (ZA (y1,1))
 ((gM a).bind λy3=>
 cond (!y3)
 (ZA (y1,1))
 (cond (ZE (150<=(o.aE.length:Int)))
 (ZA (y1,5))
 (cond (ZE (a.kind=1))
 ((nG [16,3,4,5,6,7,8,9,10,11,12,13,14,15]).bind λ_=>
 (oF y1 a.av).bind λy4=>
 cond (!decide (y4.1=0))
 ((cP o).bind λy5=>
 ZA (y5,y4.1))
 ((ee a).bind λy6=>
 (dg (bB ((y4.2.aE:List ZJ).length+([y6]:List ZJ).length) 136)).bind λ_=>
 ZA ((⟨y4.2.world,y4.2.aP,y4.2.aR,y4.2.aF,y4.2.aG,y4.2.lines,((y4.2.aE:List ZJ)++[y6])⟩:ZI),0)))
 (cond (ZE (a.kind=2))
 (cond (ZE (a.kind=2))
 ((nG [16,3,4,5,6,7,8,9,10,11,12,13,14,15]).bind λ_=>
 (ko y1 a).bind λy7=>
 cond (!decide (y7.1=0))
 ((cP o).bind λy8=>
 ZA (y8,y7.1))
 ((ee a).bind λy9=>
 (dg (bB ((y7.2.aE:List ZJ).length+([y9]:List ZJ).length) 136)).bind λ_=>
 ZA ((⟨y7.2.world,y7.2.aP,y7.2.aR,y7.2.aF,y7.2.aG,y7.2.lines,((y7.2.aE:List ZJ)++[y9])⟩:ZI),0)))
 ((nG [16,3,4,5,6,7,8,9,10,11,12,13,14,15]).bind λ_=>
 (lJ y1 a).bind λeE=>
 cond (!decide (eE.1=0))
 ((cP o).bind λoq=>
 ZA (oq,eE.1))
 ((ee a).bind λsj=>
 (dg (bB ((eE.2.aE:List ZJ).length+([sj]:List ZJ).length) 136)).bind λ_=>
 ZA ((⟨eE.2.world,eE.2.aP,eE.2.aR,eE.2.aF,eE.2.aG,eE.2.lines,((eE.2.aE:List ZJ)++[sj])⟩:ZI),0))))
 (cond (ZE (a.kind=6))
 ((nG [16,3,4,5,6,7,8,9,10,11,12,13,14,15]).bind λ_=>
 (ko y1 a).bind λre=>
 cond (!decide (re.1=0))
 ((cP o).bind λpx=>
 ZA (px,re.1))
 ((ee a).bind λtl=>
 (dg (bB ((re.2.aE:List ZJ).length+([tl]:List ZJ).length) 136)).bind λ_=>
 ZA ((⟨re.2.world,re.2.aP,re.2.aR,re.2.aF,re.2.aG,re.2.lines,((re.2.aE:List ZJ)++[tl])⟩:ZI),0)))
 ((nG [16,3,4,5,6,7,8,9,10,11,12,13,14,15]).bind λ_=>
 (lJ y1 a).bind λsB=>
 cond (!decide (sB.1=0))
 ((cP o).bind λxr=>
 ZA (xr,sB.1))
 ((ee a).bind λF1=>
 (dg (bB ((sB.2.aE:List ZJ).length+([F1]:List ZJ).length) 136)).bind λ_=>
 ZA ((⟨sB.2.world,sB.2.aP,sB.2.aR,sB.2.aF,sB.2.aG,sB.2.lines,((sB.2.aE:List ZJ)++[F1])⟩:ZI),0))))))))
instance (o:ZI)(a:ZJ):CT prog (dT o a):=⟨8,[.ag (ZM o),.ag (ZK a)],[],λr=>.tu [.ag [.ms 0,.ms 1,vi r.1.world.aa.change,.ms 2,.ms 3,.ms 4,vi r.1.world.now,.ms 5,.ms 6,vi r.1.world.aT,.ms 7,.ms 8,.ms 9,.ms 10,.ms 11,.ms 12],vi r.2],λr=>[ZA ⟨.of 174,6,r.1.world.aa.aB.map br⟩,ZA ⟨.of 3,1,r.1.world.aa.off.map aI⟩,ZA ⟨⟨155,ZA 46⟩,11,r.1.world.ae.map aY⟩,ZA ⟨.of 177,4,r.1.world.aq.map aC⟩,ZA ⟨.of 46,2,r.1.world.ah.map aS⟩,ZA ⟨.of 181,6,r.1.world.aJ.map bt⟩,ZA ⟨.of 3,1,r.1.world.skip.map aI⟩,ZA ⟨.of 104,2,r.1.aP.map b6⟩,ZA ⟨.of 107,4,r.1.aR.map b9⟩,ZA ⟨.of 3,1,r.1.aF.map aI⟩,ZA ⟨⟨44,ZA 3⟩,7,r.1.aG.map bq⟩,ZA ⟨.of 111,4,r.1.lines.map bD⟩,ZA ⟨⟨48,ZA 3⟩,13,r.1.aE.map ZK⟩],ck (dT.eq_1 ..) func8 ntmps8 results8⟩
structure PF(p:aM):Prop where
 aX:p.label.aX.size<=AN
 ar:p.ar.size<=AN
 bb:p.bb.length<=1048576
structure OF(o:ZI):Prop where
 world:wH o.world
 aP:yb o.aP
 aR:o.aR.length<=1048576
 xV:o.aF.length<=1048576
 lines:o.lines.length<=1048576
 aG:o.aG.length<=1048576
 aE:o.aE.length<=1048576
 pf:∀p∈o.aG,PF p
 af:∀a∈o.aE,PF a.av
theorem PF.fit(h:PF p):p.label.aX.size<=AN/\p.ar.size<=AN/\p.bb.length<NN:=⟨h.aX,h.ar,by have:=h.bb;unfold NN;omega⟩
theorem OF.fit{o:ZI}(h:OF o):Zme o:=⟨h.world,h.aP,h.aR,h.xV,h.lines,h.aG,h.aE,λp hp=>(h.pf p hp).fit,λa ha=>(h.af a ha).fit⟩
theorem Mk(h:PF p):fm p=ZA p:=by
 unfold fm;rw[eK (by have:=h.bb;simpa using this) YG];rfl
theorem GN(h:PF p):gy p=ZA p:=by
 unfold gy;rw[BV h.bb];rfl
theorem U1(h:PF a.av):ee a=ZA a:=by
 unfold ee;rw[Mk h];rfl
theorem Dn{xs:List α}{body:Int×List α->Option ((Int×List α)⊕List α)}(h1:∀(i:Nat) x,xs[i]?=ZA x->body ((i:Int),xs.take i)=ZA (.inl (((i+1:Nat):Int),xs.take i++[x])))
 (h2:body ((xs.length:Int),xs)=ZA (.inr xs)) (hN:xs.length<NN):aD body NN (0,[])=ZA xs:=by
 refine oz (λi=>(((i:Nat):Int),xs.take i)) (n:=xs.length) (λi hi=>?_) (by rw[List.take_length];exact h2) NN hN
 have hx:=VF hi;rw[h1 i _ hx,List.take_add_one,hx];rfl
theorem Am{x:α}{n c:Nat}(h:n<=1048576)(hc:c<=1024):dg (bB (n+([x]:List α).length) c)=ZA ():=pD (by unfold bB;rw[YE,show([x]:List α).length=1 from rfl];exact⟨YG,Nat.le_trans (Nat.mul_le_mul (show n+1<=1048577 by omega) hc) YG⟩)
section
variable {o:ZI} (h:OF o)
include h
theorem U3:cP o=ZA o:=by
 have e0:∀y1 y2,aD (gr o y1 y2) NN (0,[])=ZA o.aG:=λy1 y2=>by
  refine Dn (λi x hx=>?_) (by unfold gr;simp) (by have:=h.aG;unfold NN;omega)
  have bO:=(VH.1 hx).1;have hp:=h.aG;unfold gr;simp only[Yp (show(i:Int)<o.aG.length by omega),YC,aQ,hx,VE,Mk (h.pf x (VI hx)),bI bO YG]
  rw[Am Zg YG];rfl
 have e1:∀y1 y2 o0,aD (gu o y1 y2 o0) NN (0,[])=ZA o.aE:=λy1 y2 o0=>by
  refine Dn (λi x hx=>?_) (by unfold gu;simp) (by have:=h.aE;unfold NN;omega)
  have bO:=(VH.1 hx).1;have hp:=h.aE;unfold gu;simp only[Yp (show(i:Int)<o.aE.length by omega),YC,aQ,hx,VE,U1 (h.af x (VI hx)),bI bO YG]
  rw[Am Zg YG];rfl
 unfold cP;show(dC o.world).bind _=_;rw[CF h.world,VE,eK (by have:=h.aP.1;simpa using this) YG,VE,eK (by have:=h.aR;simpa using this) YG,VE,eK (by have:=h.xV;simpa using this) YG,VE,Dr h.lines,VE,e0,VE,e1]
 rfl
theorem U4:iS o=ZA o:=by
 have e0:∀y1 y2 y3,aD (jU o y1 y2 y3) NN (0,[])=ZA o.aG:=λy1 y2 y3=>by
  refine Dn (λi x hx=>?_) (by unfold jU;simp) (by have:=h.aG;unfold NN;omega)
  have bO:=(VH.1 hx).1;have hp:=h.aG;unfold jU;simp only[Yp (show(i:Int)<o.aG.length by omega),YC,aQ,hx,VE,GN (h.pf x (VI hx)),bI bO YG]
  rw[Am Zg YG];rfl
 have e1:∀y1 y2 y3 o0,aD (jV o y1 y2 y3 o0) NN (0,[])=ZA o.aE:=λy1 y2 y3 o0=>by
  refine Dn (λi x hx=>?_) (by unfold jV;simp) (by have:=h.aE;unfold NN;omega)
  have bO:=(VH.1 hx).1;have hp:=h.aE;unfold jV;simp only[Yp (show(i:Int)<o.aE.length by omega),YC,aQ,hx,VE,GN (h.af x (VI hx)),bI bO YG]
  rw[Am Zg YG];rfl
 unfold iS;show(eV o.world).bind _=_;rw[CG h.world,VE,eK (by have:=h.aP.1;simpa using this) YG,VE,eK (by have:=h.aR;simpa using this) YG,VE,BV h.xV,VE,Ds h.lines,VE,e0,VE,e1]
 rfl
end
structure UN(o:ZI)(p:aM)(x:ZI):Prop where
 nK:∃v aK ys ec,gY o.aP o.aR p=ZA (v,ZC)/\¬v=0/\Zdl o.world p.ar p.label.aX p.label.ax p.ab (x.world,(o.world.ae.length:Int)+1,ZC) aK ys ec/\wP o.lines ((o.world.ae.length:Int)+1) v o.world.now=(x.lines,0)/\fo o.world p.ar p.label.aX p.label.ax p.ab=ZA (x.world,(o.world.ae.length:Int)+1,ZC)
 aP:x.aP=o.aP
 aR:x.aR=o.aR
 xV:x.aF=o.aF
 aG:x.aG=o.aG++[p]
 aE:x.aE=o.aE
theorem ZgO(w:az)(o:ay)(ys:List aj):(Cs w o ys).now=w.now:=rfl
section
variable {o:ZI} (h:OF o) (hv:gf o.world=ZC)
include h hv
theorem Zc3(hp:PF p):∃r,oF o p=ZA r/\l7 o p=ZA r/\(¬r.1=0/\r.2=o\/r.1=0/\UN o p r.2):=by
 have hw:tC o.world:=⟨h.world,hv⟩;obtain⟨e,v,e'⟩:=Jw h.aP h.aR hp.fit.1 hp.fit.2.1 hp.fit.2.2;unfold oF l7;rw[e,e',VE,VE];obtain⟨v,ok⟩:=v
 cases ok with
 |false=>exact⟨_,rfl,rfl,.inl ⟨by simp,rfl⟩⟩
 |true=>
 by_cases hz:v=0
 ·simp only[hz]
  exact⟨_,rfl,rfl,.inl ⟨by simp,rfl⟩⟩
 simp only[VK,YD,Yz hz];obtain⟨r,a1,a2,hr⟩:=Ot hw p.ar p.label.aX p.label.ax p.ab;show ∃r,(fc _ _ _ _ _).bind _=_/\(fo _ _ _ _ _).bind _=_/\_;rw[a1,a2,VE,VE]
 rcases hr with⟨rfl,_⟩ |⟨aK,ys,ec,hT⟩
 ·exact⟨_,rfl,rfl,.inl ⟨by simp,rfl⟩⟩
 have Gl:=hT.res;have IS:r.1.now=o.world.now:=by rw[Gl];exact ZgO _ _ _
 have hid:r.2.1=(o.world.ae.length:Int)+1:=by rw[Gl]
 have ji:r.2.2=true:=by rw[Gl]
 simp only[ji,VK,YD,hid,IS,ZdF h.lines,ZdG h.lines,VE,Mk hp,GN hp]
 by_cases hc:(wP o.lines ((o.world.ae.length:Int)+1) v o.world.now).2=0
 ·rw[Yp hc,VK,YD,Am h.aG YG,VE]
  refine⟨_,rfl,rfl,.inr ⟨rfl,⟨v,aK,ys,ec,e',hz,?_,?_,?_⟩,rfl,rfl,rfl,rfl,rfl⟩⟩
  ·have:r=(r.1,(o.world.ae.length:Int)+1,ZC):=by rw[Gl]
   rw[<-this];exact hT
  ·rw[<-hc]
  ·rw[a2,Gl]
 ·rw[Yz hc]
  exact⟨_,rfl,rfl,.inl ⟨by simp,rfl⟩⟩
def On(o:ZI)(a:ZJ)(x:ZI):Prop:=∃l y,x=⟨o.world,o.aP,o.aR,o.aF,o.aG,l,o.aE⟩/\1<=a.order/\aA o.world.ae (a.order-1)=ZA y/\
 (¬a.kind=6/\QJ o.lines a.order a.bh o.world.now=(l,0)\/a.kind=6/\y.state=3/\xd o.lines a.order y.ec y.bK o.aF o.world.now=(l,0))
theorem Tv(hl:o.aG.length=o.world.ae.length)(h1:1<=a.order):∃r,ko o a=ZA r/\iV o a=ZA r/\(¬r.1=0/\r.2=o\/r.1=0/\On o a r.2):=by
 have ho:=h.world.ae;unfold ko iV;rw[dG,hl,VE]
 by_cases h2:(o.world.ae.length:Int)<a.order
 ·rw[Yp h2,Yz (show ¬a.order<=(o.world.ae.length:Int)by omega),Bool.and_false]
  exact⟨_,rfl,rfl,.inl ⟨by simp,rfl⟩⟩
 have hw:aH (a.order-1)=a.order-1:=aL YG;obtain⟨y,hy⟩:∃y,aA o.world.ae (a.order-1)=ZA y:=by
  obtain⟨k,hk⟩:∃k:Nat,a.order-1=(k:Int):=⟨(a.order-1).toNat,YG⟩;rw[hk,aQ];exact⟨_,VF (show k<o.world.ae.length by omega)⟩
 rw[Yz h2,Yp h1,Yp (show a.order<=(o.world.ae.length:Int)by omega)]
 simp only[Bool.and_self,VK,YD,hw,hy,VE,ZnN h.lines,ZnO h.lines,Zf3 h.lines h.xV,Zf4 h.lines h.xV]
 by_cases hk:a.kind=6
 ·simp only[Yp hk,YC]
  by_cases hs:y.state=3
  ·simp only[Yp hs,VK,YD]
   by_cases hc:(xd o.lines a.order y.ec y.bK o.aF o.world.now).2=0
   ·simp only[Yp hc,VK,YD]
    exact⟨_,rfl,rfl,.inr ⟨rfl,_,y,rfl,h1,hy,.inr ⟨hk,hs,by rw[<-hc]⟩⟩⟩
   ·simp only[Yz hc]
    exact⟨_,rfl,rfl,.inl ⟨by simp,rfl⟩⟩
  ·simp only[Yz hs]
   exact⟨_,rfl,rfl,.inl ⟨by simp,rfl⟩⟩
 ·simp only[Yz hk,YD]
  by_cases hc:(QJ o.lines a.order a.bh o.world.now).2=0
  ·simp only[Yp hc,VK,YD]
   exact⟨_,rfl,rfl,.inr ⟨rfl,_,y,rfl,h1,hy,.inl ⟨hk,by rw[<-hc]⟩⟩⟩
  ·simp only[Yz hc]
   exact⟨_,rfl,rfl,.inl ⟨by simp,rfl⟩⟩
def Hp(o:ZI)(a:ZJ)(x:ZI):Prop:=∃w,x=⟨w,o.aP,o.aR,o.aF,o.aG,o.lines,o.aE⟩/\
 (a.kind=3/\o.world.now<a.bn/\w=Ov o.world a.bn\/a.kind=4/\eh o.world a.aV=ZA (w,ZC)/\Shut o.world a.aV w\/a.kind=5/\∃n:Nat,¬n=0/\et o.world=ZA (w,(n:Int))/\L9 o.world w n)
theorem Zce(hk:a.kind=3/\a.bn<=100000\/a.kind=4\/a.kind=5):∃r,lJ o a=ZA r/\(¬r.1=0/\r.2=o\/r.1=0/\Hp o a r.2)/\
 (cond (ZE (a.kind=3)) (cond (ZE (a.bn<=o.world.now)) (ZA (6,o)) ((AX 8 []).bind λ_=>(fp o.world a.bn).bind λy3=>ZA (0,(⟨y3,o.aP,o.aR,o.aF,o.aG,o.lines,o.aE⟩:ZI))))
  (cond (ZE (a.kind=4)) ((AX 8 []).bind λ_=>(eh o.world a.aV).bind λy4=>cond (!y4.2) (ZA (6,o)) (ZA (0,(⟨y4.1,o.aP,o.aR,o.aF,o.aG,o.lines,o.aE⟩:ZI))))
  ((et o.world).bind λy5=>cond (ZE (y5.2=0)) (ZA (6,o)) (ZA (0,(⟨y5.1,o.aP,o.aR,o.aF,o.aG,o.lines,o.aE⟩:ZI))))):Option (Int×ZI))=ZA r:=by
 have hw:tC o.world:=⟨h.world,hv⟩;unfold lJ
 rcases hk with⟨hk,hu⟩ |hk|hk
 ·simp only[hk,decide_true,YC]
  by_cases hc:a.bn<=o.world.now
  ·simp only[Yp hc,YC]
   exact⟨_,rfl,.inl ⟨by simp,rfl⟩,rfl⟩
  ·have hif:gf o.world=ZC/\o.world.now<=a.bn/\a.bn<=100000:=⟨hv,YG,hu⟩
   simp only[Yz hc,YD,ZaT h.world,if_pos hif,VE];refine⟨_,rfl,.inr ⟨rfl,_,rfl,.inl ⟨hk,YG,rfl⟩⟩,?_⟩;show(fp o.world a.bn).bind _=_;rw[ZaU h.world,if_pos hif];rfl
 ·simp only[hk,show ZE ((4:Int)=3)=ZD from rfl,decide_true,YC,YD]
  obtain⟨r,e1,e2,hr⟩:=ZcW hw a.aV;rw[e1,VE]
  rcases hr with rfl|⟨x,rfl,hS⟩
  ·refine⟨_,rfl,.inl ⟨by simp,rfl⟩,?_⟩
   show(eh o.world a.aV).bind _=_;rw[e2];rfl
  ·refine⟨_,rfl,.inr ⟨rfl,_,rfl,.inr (.inl ⟨hk,e2,hS⟩)⟩,?_⟩
   show(eh o.world a.aV).bind _=_;rw[e2];rfl
 ·simp only[hk,show ZE ((5:Int)=3)=ZD from rfl,show ZE ((5:Int)=4)=ZD from rfl,decide_true,YC,YD]
  obtain⟨x,n,e1,e2,hR⟩:=Uh hw;have CM:=e2;rw[e1,CM];simp only[VE]
  by_cases hn:n=0
  ·subst hn
   exact⟨_,rfl,.inl ⟨by simp,rfl⟩,rfl⟩
  ·simp only[Yz (show ¬((n:Int)=0)by omega),YD]
   exact⟨_,rfl,.inr ⟨rfl,_,rfl,.inr (.inr ⟨hk,n,hn,e2,hR⟩)⟩,rfl⟩
end
theorem Zaq{ρ:List Nat}{f:Unit->Option α}:(nG ρ).bind f=f ():=rfl
theorem Ou(h1:a.av.label.aX.size<=AN)(h2:a.av.ar.size<=AN)(h3:a.av.bb.length<NN)(h:gM a=ZA ZC):
 (a.kind=1\/(a.kind=2\/a.kind=6)/\1<=a.order\/(a.kind=3/\a.bn<=100000\/a.kind=4\/a.kind=5)):=by
 obtain⟨e1,b1,uQ⟩:=AG h1 h2 h3;unfold gM at h
 simp only[nH,iu,e1,uQ,dG,VE]at h
 by_cases k1:a.kind=1
 ·exact .inl k1
 by_cases k2:a.kind=2
 ·simp only[k2,Yg,decide_true,decide_false,YC,YD,Zdx,VE,bm]at h
  cases ha:(ZE (1<=a.order)&&ZE (a.order<=9999))<;>rw[ha]at h
  ·cases h
  ·simp at ha;exact .inr (.inl ⟨.inl k2,ha.1⟩)
 by_cases k3:a.kind=3
 ·simp only[k3,Yg,decide_true,decide_false,YC,YD,Zdx,VE,bm]at h
  cases ha:(ZE (0<=a.bn)&&ZE (a.bn<=100000))<;>rw[ha]at h
  ·cases h
  ·simp at ha;exact .inr (.inr (.inl ⟨k3,ha.2⟩))
 by_cases k4:a.kind=4
 ·exact .inr (.inr (.inr (.inl k4)))
 by_cases k5:a.kind=5
 ·exact .inr (.inr (.inr (.inr k5)))
 by_cases k6:a.kind=6
 ·simp only[k6,Yg,decide_true,decide_false,YC,YD,Zdx,VE,bm]at h
  cases ha:(ZE (1<=a.order)&&ZE (a.order<=9999))<;>rw[ha]at h
  ·cases h
  ·simp at ha;exact .inr (.inl ⟨.inr k6,ha.1⟩)
 ·simp only[k1,k2,k3,k4,k5,k6,decide_false,YD,VE,bm]at h
  cases h
theorem qH{o:ZI}(h:gC o=ZC):gf o.world=ZC/\wF o.aP=ZC/\xo o.aR (o.aP.length:Int)=ZC/\td o.aF=ZC/\gE (o.lines.map cM)=ZC/\o.aG.length=o.world.ae.length/\o.aE.length<=150/\allI (mM o) 0 o.aG=ZC/\allI (wV o) 0 o.lines=ZC/\allI Ht 0 o.aE=true:=by
 unfold gC at h
 simp only[VN,decide_eq_true_eq,V7,YF]at h
 obtain⟨a,b,c,d,e,f,g,i,j,k⟩:=h;exact⟨a,b,c,d,e,YG,YG,i,j,k⟩
theorem AF{o:ZI}(a:gf o.world=ZC)(b:wF o.aP=ZC)(c:xo o.aR (o.aP.length:Int)=ZC)(d:td o.aF=ZC)(e:gE (o.lines.map cM)=ZC)(f:o.aG.length=o.world.ae.length)(g:o.aE.length<=150)(i:allI (mM o) 0 o.aG=ZC)(j:allI (wV o) 0 o.lines=ZC)(k:allI Ht 0 o.aE=ZC):gC o=true:=by
 unfold gC;rw[a,b,c,d,e,i,j,k,Yp (show(o.aG.length:Int)=(o.world.ae.length:Int)by omega),Yz (show ¬150<(o.aE.length:Int)by omega)]
 rfl
def RU(y:ZI)(j:List ZJ):ZI:=⟨y.world,y.aP,y.aR,y.aF,y.aG,y.lines,j⟩
structure ZjQ(o:ZI)(a:ZJ)(x:ZI):Prop where
 ok:gC o=ZC
 act:gM a=ZA ZC
 few:o.aE.length<150
 how:∃y,x=RU y (o.aE++[a])/\(a.kind=1/\UN o a.av y\/(a.kind=2\/a.kind=6)/\On o a y\/(a.kind=3\/a.kind=4\/a.kind=5)/\Hp o a y)
theorem U8{o:ZI}(h:OF o)(ha:PF a.av):∃x c,dT o a=ZA (x,c)/\ju o a=ZA (x,c)/\(¬c=0/\x=o\/c=0/\ZjQ o a x):=by
 obtain⟨b,b1,b2⟩:=Mb ha.fit.1 ha.fit.2.1 ha.fit.2.2;unfold dT ju;simp only[U3 h,U4 h,PS h.fit,Rp h.fit,b1,b2,VE,Zaq]
 cases hv:gC o with
 |false=>exact⟨_,_,rfl,rfl,.inl ⟨by simp,rfl⟩⟩
 |true=>
 cases b with
 |false=>exact⟨_,_,rfl,rfl,.inl ⟨by simp,rfl⟩⟩
 |true=>
 by_cases hj:150<=o.aE.length
 ·rw[Yp (show(150:Int)<=o.aE.length by omega)]
  exact⟨_,_,rfl,rfl,.inl ⟨by simp,rfl⟩⟩
 rw[Yz (show ¬(150:Int)<=o.aE.length by omega)]
 simp only[VK,YD,U1 ha,GN ha,VE];have hp:=qH hv;have fin:∀{r:Int×ZI} {Q:ZI->Prop},(¬r.1=0/\r.2=o\/r.1=0/\Q r.2)->(∀y,Q y->y.aE=o.aE)->(∀y,Q y->(a.kind=1/\UN o a.av y\/(a.kind=2\/a.kind=6)/\On o a y\/(a.kind=3\/a.kind=4\/a.kind=5)/\Hp o a y))->
  ∃x c,(cond (!decide (r.1=0)) (ZA (o,r.1)) ((dg (bB ((r.2.aE:List ZJ).length+([a]:List ZJ).length) 136)).bind λ_=>ZA (RU r.2 (r.2.aE++[a]),0)))=ZA (x,c)/\
   (cond (!decide (r.1=0)) (ZA (o,r.1)) ((dg (bB ((r.2.aE:List ZJ).length+([a]:List ZJ).length) 136)).bind λ_=>ZA (RU r.2 (r.2.aE++[a]),r.1)))=ZA (x,c)/\(¬c=0/\x=o\/c=0/\ZjQ o a x):=λ{r Q} hr hQ hD=>by
  rcases hr with⟨hc,_⟩ |⟨hc,hq⟩
  ·rw[Yz hc]
   exact⟨_,_,rfl,rfl,.inl ⟨hc,rfl⟩⟩
  ·rw[Yp hc,hQ _ hq,Am YG YG,hc]
   exact⟨_,_,rfl,rfl,.inr ⟨rfl,hv,b1,YG,r.2,rfl,hD _ hq⟩⟩
 rcases Ou ha.fit.1 ha.fit.2.1 ha.fit.2.2 b1 with hk|⟨hk,ho⟩ |hk
 ·obtain⟨r,e1,e2,hr⟩:=Zc3 h hp.1 ha
  unfold lM;simp only[Yp hk,YC,e1,e2,VE,Zaq];exact fin hr (λy hy=>hy.aE) λy hy=>.inl ⟨hk,hy⟩
 ·obtain⟨r,e1,e2,hr⟩:=Tv h hp.1 hp.2.2.2.2.2.1 ho
  have hq:=fin hr (λy hy=>by obtain⟨l,z,rfl,_⟩:=hy;rfl) λy hy=>.inr (.inl ⟨hk,hy⟩)
  unfold lM
  rcases hk with hk|hk
  ·simp only[Yz (show ¬a.kind=1 by omega),Yp hk,YC,YD,e1,e2,VE,Zaq]
   exact hq
  ·simp only[Yz (show ¬a.kind=1 by omega),Yz (show ¬a.kind=2 by omega),Yp hk,YC,YD,e1,e2,VE,Zaq]
   exact hq
 ·obtain⟨r,e1,hr,e2⟩:=Zce h hp.1 hk
  have hk':a.kind=3\/a.kind=4\/a.kind=5:=YG;have hq:=fin hr (λy hy=>by obtain⟨w,rfl,_⟩:=hy;rfl) λy hy=>.inr (.inr ⟨hk',hy⟩)
  unfold lM;rw[e2];rw[Yz (show ¬a.kind=1 by omega),Yz (show ¬a.kind=2 by omega),Yz (show ¬a.kind=6 by omega)]
  simp only[YD,e1,VE];exact hq
theorem Ai{c:Nat->α->Bool}{xs:List α}{x:α}(h:allI c 0 xs=ZC)(hx:c xs.length x=ZC):allI c 0 (xs++[x])=true:=by
 rw[cJ]at h⊢
 intro j y hy
 rcases Nat.lt_or_ge j xs.length with hj|hj
 ·rw[Wi hj]at hy;exact h j y hy
 ·rw[V9 hj]at hy
  have:j-xs.length=0:=by have:=(VH.1 hy).1;simp only[VL,VO]at this;omega
  rw[this]at hy
  obtain rfl:=Option.some.inj hy;rw[show 0+j=xs.length by omega];exact hx
def Zgj(z z':ay):Prop:=z'.ar=z.ar/\z'.aX=z.aX/\z'.ax=z.ax/\z'.ab=z.ab
theorem yj{o y:ZI}{i:Nat}(hz:y.aP=o.aP)(hr:y.aR=o.aR)(hs:eI (y.lines.map cM) (((i+1:Nat):Int)) 1=eI (o.lines.map cM) (((i+1:Nat):Int)) 1)
 (ho:∀z,o.world.ae[i]?=ZA z->∃z',y.world.ae[i]?=ZA z'/\Zgj z z') (h:mM o i p=ZC):mM y i p=true:=by
 unfold mM at h⊢
 rw[hz,hr]
 cases hi:o.world.ae[i]? with
 |none=>rw[hi]at h;cases h
 |some z=>
  obtain⟨z',e,e1,e2,e3,e4⟩:=ho z hi;rw[hi]at h
  rw[e];rw[yi]at h⊢
  rw[e1,e2,e3,e4,hs];exact h
structure Zmc(w w':az):Prop where
 ok:tC w'
 now:w.now<=w'.now
 len:w'.ae.length=w.ae.length
 fv:w'.aa=w.aa
 ord:∀(i:Nat) (z:ay),w.ae[i]?=ZA z->∃z',w'.ae[i]?=ZA z'/\Zgj z z'
theorem LF{n:ak}{z z':ay}(h:ye n z z'):Zgj z z':=by
 rcases h with rfl|⟨more,_,rfl⟩<;>exact⟨rfl,rfl,rfl,rfl⟩
theorem Tw{o x:ZI}(hw:tC o.world)(hu:a.kind=3->a.bn<=100000)(h:Hp o a x):Zmc o.world x.world:=by
 obtain⟨w,rfl,h⟩:=h
 rcases h with⟨hk,hn,rfl⟩ |⟨_,_,hS⟩ |⟨_,n,_,_,hR⟩
 ·obtain⟨a1,a2,_⟩:=ZjW hw (Int.le_of_lt hn) (hu hk)
  refine⟨a1,Int.le_of_lt hn,a2.len,a2.aa,λi z hz=>?_⟩
  have hi:=(VH.1 hz).1;have vF:=VF (show i<(Ov o.world a.bn).ae.length by rw[a2.len];exact hi)
  have hs:=a2.ord i z _ hz vF;exact⟨_,vF,hs.ar,hs.aX,hs.ax,hs.ab⟩
 ·exact⟨hS.ok,by rw[hS.same.now];exact Wp _,hS.same.len,hS.same.aa,λi z hz=>by
   obtain⟨z',b1,_,b2⟩:=hS.ord i z hz;exact⟨z',b1,LF b2⟩⟩
 ·exact⟨hR.ok,by rw[hR.same.now];exact Wp _,hR.same.len,hR.same.aa,λi z hz=>by
   obtain⟨z',b1,b2,_⟩:=hR.ord i z hz;exact⟨z',b1,LF b2⟩⟩
theorem EE{o y:ZI}(hp:o.aG.length<=y.aG.length)(hn:o.world.now<=y.world.now)(h:allI (wV o) 0 o.lines=ZC):allI (wV y) 0 o.lines=true:=by
 rw[cJ]at h⊢
 intro j x hx;have:=h j x hx;unfold wV at this⊢
 simp only[VN,V7,YF]at this⊢
 omega
theorem Zmh(ha:PF a.av)(h:gM a=ZA ZC)(i:Nat):Ht i a=true:=by
 obtain⟨b,b1,b2⟩:=Mb ha.fit.1 ha.fit.2.1 ha.fit.2.2;rw[h]at b1
 unfold Ht;rw[b2,<-Option.some.inj b1];rfl
theorem NQ{x:aU}(h:yN l x=(l',0)):l'=l++[x]/\gE ((l++[x]).map cM)=ZC/\l.length<200:=by
 unfold yN at h
 split at h
 ·simp at h
 ·split at h
  ·rename_i h1 h2
   simp only[Prod.mk.injEq,and_true]at h
   exact⟨h.symm,h2,YG⟩
  ·simp at h
theorem Zlj{o a t:Int}(h:QJ l o a t=(l',0)):yN l ⟨o,2,a,t⟩=(l',0)/\¬Jm (l.map cM) o<a/\gE (l.map cM)=true:=by
 unfold QJ at h
 split at h;· simp at h
 split at h;· simp at h
 split at h;· simp at h
 split at h;· simp at h
 rename_i h1 _ _ h2;exact⟨h,by simpa using h2,by simpa using h1⟩
theorem Za2{o a t:Int}(h:wP l o a t=(l',0)):yN l ⟨o,1,a,t⟩=(l',0)/\eI (l.map cM) o 1=0/\(1<=a/\a<=100000)/\gE (l.map cM)=true:=by
 unfold wP at h
 split at h;· simp at h
 split at h;· simp at h
 split at h;· simp at h
 rename_i h1 h2 h3;have h1:gE (l.map cM)=true:=by simpa using h1
 have h3:¬0<eI (l.map cM) o 1:=by simpa using h3
 have h2:uE o 1 a t=true:=by simpa using h2
 exact⟨h,by have:=(ZlH h1 o 1).1;omega,KH (x:=⟨o,1,a,t⟩) h2,h1⟩
theorem ZcM{o du en t:Int}{ps:List Int}(h:xd l o du en ps t=(l',0)):yN l ⟨o,3,yw (eI (l.map cM) o 1) du en ps,t⟩=(l',0)/\gE (l.map cM)=true:=by
 unfold xd at h
 split at h;· simp at h
 split at h;· simp at h
 split at h;· simp at h
 split at h;· simp at h
 split at h;· simp at h
 split at h;· simp at h
 split at h;· simp at h
 split at h;· simp at h
 rename_i h1 _ _ _ _ _ _ _;exact⟨h,by simpa using h1⟩
theorem Ja(l:List aU)(x:aU):(l++[x]).map cM=l.map cM++[cM x]:=by rw[List.map_append];rfl
theorem Zcq{o x:ZI}(h:On o a x):∃z:aU,x=⟨o.world,o.aP,o.aR,o.aF,o.aG,o.lines++[z],o.aE⟩/\z.order=a.order/\¬z.kind=1/\z.aO=o.world.now/\gE ((o.lines++[z]).map cM)=ZC/\o.lines.length<200/\1<=a.order/\a.order<=o.world.ae.length:=by
 obtain⟨l,y,rfl,h1,hy,h⟩:=h;have bO:a.order<=o.world.ae.length:=by have:=(mO hy).1;have:=(VH.1 (mO hy).2).1;omega
 rcases h with⟨_,h⟩ |⟨_,_,h⟩
 ·obtain⟨rfl,b,c⟩:=NQ (Zlj h).1
  exact⟨_,rfl,rfl,by simp,rfl,b,c,h1,bO⟩
 ·obtain⟨rfl,b,c⟩:=NQ (ZcM h).1
  exact⟨_,rfl,rfl,by simp,rfl,b,c,h1,bO⟩
theorem J0{o:ZI}(ha:PF a.av)(hc:gM a=ZA ZC){y:ZI}(hy:OF y)(hv:gC y=ZC)(hj:y.aE=o.aE)(hf:o.aE.length<150):OF (RU y (o.aE++[a]))/\gC (RU y (o.aE++[a]))=true:=by
 obtain⟨p1,p2,p3,p4,p5,p6,p7,p8,p9,p10⟩:=qH hv;refine⟨⟨hy.world,hy.aP,hy.aR,hy.xV,hy.lines,hy.aG,?_,hy.pf,λb hb=>?_⟩,AF p1 p2 p3 p4 p5 p6 ?_ p8 p9 ?_⟩
 ·show(o.aE++[a]).length<=_
  rw[VV];simp only[VL,VO];omega
 ·have hb:b∈o.aE++[a]:=hb
  rcases WD.1 hb with hb|hb
  ·exact hy.af b (by rw[hj];exact hb)
  ·rw[V8.1 hb];exact ha
 ·show(o.aE++[a]).length<=_
  rw[VV];simp only[VL,VO];omega
 ·rw[hj]at p10
  exact Ai p10 (Zmh ha hc _)
theorem Zfu{o y:ZI}(h:OF o)(hv:gC o=ZC)(hu:a.kind=3->a.bn<=100000)(hm:Hp o a y):OF y/\gC y=true:=by
 obtain⟨p1,p2,p3,p4,p5,p6,p7,p8,p9,p10⟩:=qH hv;have hk:=Tw ⟨h.world,p1⟩ hu hm;obtain⟨w,rfl,_⟩:=hm;refine⟨⟨hk.ok.fit,h.aP,h.aR,h.xV,h.lines,h.aG,h.aE,h.pf,h.af⟩,AF hk.ok.ok p2 p3 p4 p5 (p6.trans hk.len.symm) p7 ?_ (EE (o:=o) (y:=⟨w,o.aP,o.aR,o.aF,o.aG,o.lines,o.aE⟩) (Nat.le_refl _) hk.now p9) p10⟩;rw[cJ]at p8⊢
 exact λj p hp=>yj (o:=o) rfl rfl rfl (hk.ord _) (p8 j p hp)
theorem Zio{o y:ZI}(h:OF o)(hv:gC o=ZC)(hm:On o a y):OF y/\gC y=true:=by
 obtain⟨p1,p2,p3,p4,p5,p6,p7,p8,p9,p10⟩:=qH hv;obtain⟨z,rfl,z1,z2,z3,z4,z5,z6,z7⟩:=Zcq hm;refine⟨⟨h.world,h.aP,h.aR,h.xV,?_,h.aG,h.aE,h.pf,h.af⟩,AF p1 p2 p3 p4 z4 p6 p7 ?_ (Ai (EE (o:=o) (y:=⟨o.world,o.aP,o.aR,o.aF,o.aG,o.lines++[z],o.aE⟩) (Nat.le_refl _) (Wp _) p9) ?_) p10⟩
 ·show(o.lines++[z]).length<=_
  rw[VV];simp only[VL,VO];omega
 ·rw[cJ]at p8⊢
  refine λj p hp=>yj (o:=o) rfl rfl ?_ (λz hz=>⟨z,hz,rfl,rfl,rfl,rfl⟩) (p8 j p hp)
  rw[Ja];exact LR λhh=>z2 hh.2
 ·unfold wV
  simp only[VN,V7,YF];omega
theorem Zjb{o y:ZI}(h:OF o)(hv:gC o=ZC)(hp:PF p)(hm:UN o p y):OF y/\gC y=true:=by
 obtain⟨p1,p2,p3,p4,p5,p6,p7,p8,p9,p10⟩:=qH hv;obtain⟨v,aK,ys,ec,q1,q2,q3,q4,_⟩:=hm.nK;have hw:tC o.world:=⟨h.world,p1⟩;have hpr:=hw.parts;have Gl:y.world=Cs o.world (pA o.world p.ar p.label.aX p.label.ax p.ab ec aK) ys:=congrArg (·.1) q3.res
 have ZkP:y.world.ae=o.world.ae++[pA o.world p.ar p.label.aX p.label.ax p.ab ec aK]:=by rw[Gl];rfl
 have IS:y.world.now=o.world.now:=by rw[Gl];rfl
 have ji:tC y.world:=by rw[Gl];exact q3.ok
 obtain⟨c1,c2,c3,c4⟩:=Za2 q4;obtain⟨d1,d2,d3⟩:=NQ c1;have hl:y.aG.length=o.aG.length+1:=by rw[hm.aG,VV];rfl
 have MD:=h.aG;refine⟨⟨ji.fit,by rw[hm.aP];exact h.aP,by rw[hm.aR];exact h.aR,by rw[hm.xV];exact h.xV,?_,YG,by rw[hm.aE];exact h.aE,λq hq=>?_,by rw[hm.aE];exact h.af⟩,AF ji.ok (by rw[hm.aP];exact p2) (by rw[hm.aP,hm.aR];exact p3) (by rw[hm.xV];exact p4) (by rw[d1];exact d2) ?_ (by rw[hm.aE];exact p7) ?_ ?_ (by rw[hm.aE];exact p10)⟩
 ·rw[d1,VV];simp only[VL,VO];omega
 ·rw[hm.aG]at hq
  rcases WD.1 hq with hq|hq
  ·exact h.pf q hq
  ·rw[V8.1 hq];exact hp
 ·rw[hl,ZkP,VV,p6];rfl
 ·rw[hm.aG]
  refine Ai ?_ ?_
  ·rw[cJ]at p8⊢
   intro j q hq;have hj:=(VH.1 hq).1;refine yj hm.aP hm.aR ?_ (λz hz=>⟨z,?_,rfl,rfl,rfl,rfl⟩) (p8 j q hq)
   ·rw[d1,Ja]
    refine LR λhh=>?_
    have:=hh.1;simp only[cM]at this
    omega
   ·rw[ZkP,Wi (VH.1 hz).1];exact hz
  ·unfold mM
   rw[hm.aP,hm.aR,q1,ZkP,p6,V9 (Nat.le_refl _),Nat.sub_self];show Il y _ p _ (ZA _)=ZC;have hs:eI (o.lines.map cM++[cM (⟨(o.world.ae.length:Int)+1,1,v,o.world.now⟩:aU)]) (((o.world.ae.length+1:Nat):Int)) 1=v:=by
    rw[show(((o.world.ae.length+1:Nat):Int))=(o.world.ae.length:Int)+1 by omega,Zgw (o:=(o.world.ae.length:Int)+1) (k:=1) (x:=cM (⟨(o.world.ae.length:Int)+1,1,v,o.world.now⟩:aU)) rfl rfl,c2]
    show wrap64 (0+v)=v;rw[<-rG,aL YG];omega
   rw[yi,d1,Ja,hs];simp[pA]
 ·rw[d1]
  refine Ai (EE YG YG p9) ?_;unfold wV;simp only[VN,V7,YF];omega
theorem U9{o x:ZI}(h:OF o)(ha:PF a.av)(hd:ZjQ o a x):OF x/\gC x=true:=by
 obtain⟨y,rfl,hy⟩:=hd.how;have hu:a.kind=3->a.bn<=100000:=λhk=>by
  have:=Ou ha.fit.1 ha.fit.2.1 ha.fit.2.2 hd.act;omega
 rcases hy with⟨_,hy⟩ |⟨_,hy⟩ |⟨_,hy⟩
 ·obtain⟨b1,b2⟩:=Zjb h hd.ok ha hy
  exact J0 ha hd.act b1 b2 hy.aE hd.few
 ·obtain⟨b1,b2⟩:=Zio h hd.ok hy
  exact J0 ha hd.act b1 b2 (by obtain⟨l,z,rfl,_⟩:=hy;rfl) hd.few
 ·obtain⟨b1,b2⟩:=Zfu h hd.ok hu hy
  exact J0 ha hd.act b1 b2 (by obtain⟨w,rfl,_⟩:=hy;rfl) hd.few
set_option maxRecDepth 100000
theorem Vz:∀(os:List aM) (k:Int),vo k os=k+6*(os.length:Int)+((os.map λo=>o.bb.length).sum:Nat)
 | [],k=>by simp[vo]
 |o::os,k=>by
  rw[vo,Vz os];simp only[VL,Wh,WB];omega
theorem Ng:∀(os:List ZJ) (k:Int),tn k os=k+12*(os.length:Int)+((os.map λo=>o.av.bb.length).sum:Nat)
 | [],k=>by simp[tn]
 |o::os,k=>by
  rw[tn,Ng os];simp only[VL,Wh,WB];omega
theorem JU{f:α->Nat}(h:∀o∈os,f o<=1048576):(os.map f).sum<=1048576*os.length:=by
 induction os with
 |nil=>simp
 |cons o os ih=>
  have:=ih λx hx=>h x (List.mem_cons_of_mem _ hx)
  have:=h o List.mem_cons_self;simp only[Wh,WB,VL];omega
theorem DT{f t:α->Nat}(h:∀o,f o<=t o):(os.map f).sum<=(os.map t).sum:=by
 induction os with
 |nil=>simp
 |cons o os ih=>
  have:=h o;simp only[Wh,WB];omega
theorem Lp(h:OF g)(hw:(g.world.ae.map λo=>o.aK.length).sum<=31457280)(hp:(g.aG.map λo=>o.bb.length).sum<=157286400)(hj:(g.aE.map λo=>o.av.bb.length).sum<=157286400):gJ g 1:=by
 have h0:=Zfp h.world hw;have t0:k6W g.world 1<=200000000:=by
  have h1:=h.world.fv.aB;have h2:=h.world.fv.off;have h3:=h.world.ae;have h4:=h.world.aq;have h5:=h.world.ah;have h6:=h.world.aJ;have h7:=h.world.skip;unfold k6W k5W k4W k3W Tk;rw[Ni];unfold Li;omega
 have h1:=h.aP.1;have h2:=h.aR;have h3:=h.xV;have h4:=h.aG;have h5:=h.lines;have h6:=h.aE;refine⟨h0,h1,h2,h3,h4,λp hp=>(h.pf p hp).bb,h5,h6,λa ha=>(h.af a ha).bb,?_⟩
 unfold yc;rw[Ng];unfold kO5 kO4;rw[Vz];unfold kO3 kO2 kO1 kO0;omega
theorem OF.Vy(h:OF g)(hv:gC g=ZC):gJ g 1:=by
 obtain⟨a,_,_,_,_,b,c,_⟩:=qH hv;have hw:tC g.world:=⟨h.world,a⟩;have h2:=hw.parts.2.1;have h3:=Zi4 h.world.aK;have h4:=JU λp hp=>(h.pf p hp).bb
 have h5:=JU λp hp=>(h.af p hp).bb
 exact Lp h YG YG YG
theorem Cc(h:cS p<=1048576):PF p:=by
 have e2:cS p=wk p.label+p.ar.size+p.bb.length:=rfl;have e3:wk p.label=p.label.aX.size:=rfl;exact⟨by unfold AN;omega,by unfold AN;omega,YG⟩
theorem Jh{o:ZI}(h:dZ o<=1048576):OF o:=by
 unfold dZ at h
 have h1:=gB om o.aP;have h2:=gB cS o.aG;have h3:=gB eJ o.aE;refine⟨Zjf YG,⟨YG,λz hz=>?_⟩,YG,YG,YG,YG,YG,λp hp=>?_,λa ha=>?_⟩
 ·have:=ml om hz
  have e:om z=z.first.size+z.last.size:=rfl
  unfold AN;omega
 ·have:=ml cS hp
  exact Cc YG
 ·have:=ml eJ ha
  have e:eJ a=cS a.av:=rfl;exact Cc YG
theorem OF.Vx{o:ZI}(h:dZ o<=1048576):gJ o 1:=by
 have hf:=Jh h;unfold dZ jz at h
 have h1:qJ gA o.world.ae=o.world.ae.length+(o.world.ae.map gA).sum:=rfl;have h2:qJ cS o.aG=o.aG.length+(o.aG.map cS).sum:=rfl;have h3:qJ eJ o.aE=o.aE.length+(o.aE.map eJ).sum:=rfl;have k1:=DT (f:=λo:ay=>o.aK.length) (t:=gA) (os:=o.world.ae) λo=>by unfold gA;omega
 have k2:=DT (f:=λo:aM=>o.bb.length) (t:=cS) (os:=o.aG) λo=>by unfold cS;omega
 have k3:=DT (f:=λo:ZJ=>o.av.bb.length) (t:=eJ) (os:=o.aE) λo=>by unfold eJ cS;omega
 exact Lp hf YG YG YG
theorem ZmK(h:PF p):iy p p=ZA true:=by
 have:=CN p.bb h.bb;simp[iy,sP,this]
theorem Zke(h:PF a.av):fB a a=ZA true:=by
 have:=ZmK h;have:=zn a.aV;simp[fB, *]
theorem Zej(h:OF g):bJ g g=ZA true:=by
 have e0:=ZoT h.world;have e1:=ZbB g.aP h.aP.1 (λy _=>by simp[o4])
 have e2:=Zbz g.aR h.aR (λy _=>by simp[oY])
 have e3:=CN g.aF h.xV;have e4:=Pp g.aG h.aG (λy hy=>ZmK (h.pf y hy))
 have e5:=Zby g.lines h.lines (λy _=>by simp[oW])
 have e6:=Pn g.aE h.aE (λy hy=>Zke (h.af y hy))
 simp[bJ,e0,e1,e2,e3,e4,e5,e6]
theorem Zed{x:ZI}(hx:dZ x<=1048576)(ha:eJ a<=1048576):∃(g:ZI) (c:Int),dT x a=ZA (g,c)/\ju x a=ZA (g,c)/\bJ g g=ZA ZC/\gJ g 1:=by
 have hf:=Jh hx;have hp:PF a.av:=Cc ha;obtain⟨g,c,h1,h2,h3⟩:=U8 hf hp
 rcases h3 with⟨_,rfl⟩ |⟨_,hd⟩
 ·exact⟨_,_,h1,h2,Zej hf,OF.Vx hx⟩
 ·obtain⟨k1,k2⟩:=U9 hf hp hd
  exact⟨_,_,h1,h2,Zej k1,k1.Vy k2⟩
theorem Ve{o:ZI}(ok:okOffice o):fT o 1048576=ZA (-1)\/∃y,fT o 1048576=ZA y/\¬y<0/\y<=1048576/\dZ o<=1048576:=by
 rw[Zc1 o YG YG ok]
 by_cases h:kz 1048576 (dZ o)<0
 ·left
  unfold kz at *
  split at h
  ·rw[if_pos YO]
  ·omega
 ·right
  obtain⟨h1,h2⟩:=N5 h YG;exact⟨_,rfl,h,YG,YG⟩
theorem Zhq(ok:okAct a){y:Int}(h0:¬y<0)(h1:y<=1048576):gQ a y=ZA (-1)\/∃z,gQ a y=ZA z/\¬z<0/\eJ a<=1048576:=by
 rw[UC a YG YG ok]
 by_cases h:kz y (eJ a)<0
 ·left
  unfold kz at *
  split at h
  ·rw[if_pos YO]
  ·omega
 ·right
  obtain⟨h1,h2⟩:=N5 h YG;exact⟨_,rfl,h,YG⟩
end Go.Proofs.YtbalgkakkoocjaaGreat
