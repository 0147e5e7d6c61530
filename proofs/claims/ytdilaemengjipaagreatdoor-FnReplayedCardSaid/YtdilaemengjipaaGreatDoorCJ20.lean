/- A part of the proof of the statement in the last file of this claim: texts on the language of the program and on its functions. No condition. -/
import Derived.Test.YtdilaemengjipaaGreatDoorCJ18
import Derived.Test.YtdilaemengjipaaGreatDoorCJ11
import Derived.Test.YtdilaemengjipaaGreatDoorCJ4
import Derived.Test.YtdilaemengjipaaGreatDoorCJ7
import Derived.Test.YtdilaemengjipaaGreatDoorCJ10
import Derived.Test.YtdilaemengjipaaGreatDoorCJ14
import Derived.Test.YtdilaemengjipaaGreatDoorCJ12
import Derived.Test.YtdilaemengjipaaGreatDoorCJ6
import Derived.Test.YtdilaemengjipaaGreatDoorCJ16
import Derived.Test.YtdilaemengjipaaGreatDoorCJ1
set_option linter.unusedVariables false
set_option linter.unusedSimpArgs false
set_option linter.unusedSectionVars false
open Option renaming some->YW,none->YX
open Bool renaming true->YY,false->YZ
open Decidable renaming decide->Y0
open Go.Proofs.Tryz
set_option maxHeartbeats 40000000
namespace Go.Proofs.YtdilaemengjipaaGreatDoor
open Option renaming bind_some->VT
open Bool renaming not_true->V3,and_eq_true->Wd
open List renaming getElem_mem->Wp,getElem?_eq_some_iff->VU,getElem_of_mem->Wf,getElem?_eq_getElem->VV,mem_of_getElem?->VW
open Nat renaming pos_of_ne_zero->Xn
set_option maxRecDepth 10000
open Go.RowKit
variable {aS k:Int}{aT:List bF}{i:Nat}{l:List ct}{n:ah}{o:az}{p:aL}{s:ByteArray}{t:av}{α:Type}
theorem Jh{σ τ ο:Type}{f:σ->Option (σ⊕ο)}{g:τ->Option (τ⊕ο)}(φ:σ->τ)(h:∀s,g (φ s)=(f s).bind (bh (λs'=>YW (.inl (φ s'))) (λr=>YW (.inr r)))):∀(N:Nat) (s:σ),aE g N (φ s)=aE f N s
 |0,s=>rfl
 |N+1,s=>by
  simp only[aE,h]
  cases f s with
  |none=>rfl
  |some o=>
   cases o with
   |inl s'=>exact Jh φ h N s'
   |inr r=>rfl
theorem KF(h:cU n)(ht:dN n t=YW YY):∃y,aB n.aA t.bH=YW y:=by
 unfold dN kl at ht
 obtain⟨_,b,hb⟩:=j4 h;obtain⟨_,b2,xJ⟩:=rC h t.bH t.day;rw[hb]at ht
 simp only[VT,xJ]at ht
 cases b with
 |false=>grind
 |true=>
  simp at ht
  subst ht;exact vQ h xJ
theorem qm{y:bP}(h:aB n.aA t.bH=YW y):∃v,bt n t=YW v:=by
 unfold bt;simp_all
theorem Pw(h:cU n)(s:br):pC n s=cH n s:=by
 unfold pC cH;rw[(j4 h).1,gY,(dH h).1,(re h s.bk).1,ql,r8,rj]
theorem AI(h:cU n)(s:br):∃b,cH n s=YW b:=by
 obtain⟨_,b,hb⟩:=j4 h;have hp:=(dH h).2;have xL:=fv n;have hl:=h.aA;obtain⟨_,b2,xJ⟩:=re h s.bk;unfold cH;rw[hb,hp,xJ];simp only[VT,cN,o4 (show(ak n).length<=4194304 by omega)]
 cases b with
 |false=>simp
 |true=>
  cases Y0 (1<=s.bz)&&Y0 (s.bz<=9999)<;>try exact⟨_,rfl⟩
  cases Y0 (0<=s.aQ)&&Y0 (s.aQ<=100000)<;>try exact⟨_,rfl⟩
  cases Y0 (0<=bf (ak n) s.place)
  all_goals
   cases b2 with
   |false=>cases Y0 (s.kind=1)<;>cases Y0 (s.kind=3)<;>cases Y0 (s.kind=2)<;>cases Y0 (s.kind=4)<;>cases Y0 (s.place=⟨#[]⟩)<;>exact⟨_,rfl⟩
   |true=>
    obtain⟨y,hy⟩:=KF h xJ;obtain⟨v1,hv1⟩:=qm hy;obtain⟨v2,hv2⟩:=oZ hy;rw[hv1,hv2]
    cases Y0 (s.kind=1)<;>cases Y0 (s.kind=3)<;>cases Y0 (s.kind=2)<;>cases Y0 (s.kind=4)<;>cases Y0 (s.place=⟨#[]⟩)<;>exact⟨_,rfl⟩
theorem SR(h:cU n)(aK:List av)(a b:ByteArray)(t:Int):qG n aK a b t=eW n aK a b t:=by
 have e:aE (pR n aK b) NN (t,a,0)=aE (dA n aK b) NN (a,t,0):=by
  refine Jh (f:=dA n aK b) (λs:ByteArray×Int×Int=>(s.2.1,s.1,s.2.2)) (λs=>?_) NN (a,t,0)
  unfold pR dA;simp only
  cases Y0 (s.2.2<(aK.length:Int))with
  |false=>rfl
  |true=>
   simp only[Yj]
   cases hg:aB aK s.2.2 with
   |none=>rfl
   |some y=>
    simp only[VT,(re h y).1,ql,r8]
    cases dN n y with
    |none=>rfl
    |some c=>
     cases c with
     |false=>rfl
     |true=>
      simp only[VT,V3,Yk]
      cases aB n.aA y.bH with
      |none=>rfl
      |some g=>
       simp only[VT]
       grind
 unfold qG eW;rw[(j4 h).1,(dH h).1,rj,e]
theorem xm(h:cU n){aK:List av}(hw:aK.length<=1048576)(a b:ByteArray)(t:Int):∃r,eW n aK a b t=YW r:=by
 obtain⟨_,b1,hb⟩:=j4 h;have hp:=(dH h).2;have xL:=fv n;have hl:=h.aA;have e:∃o,aE (dA n aK b) NN (a,t,0)=YW o:=by
  refine vF (λk s=>∃i:Nat,i+k=aK.length/\s.2.2=(i:Int)) ?_ NN aK.length _ ⟨0,Yn,rfl⟩ Ys
  rintro k ⟨p,r,s⟩ ⟨i,hi,hs⟩;simp only at hs
  subst hs;unfold dA
  rcases Nat.lt_or_ge i aK.length with bX|ze
  ·have hw:=bG bX Yn
   have hg:aB aK (i:Int)=YW aK[i]:=by rw[aP];simp
   obtain⟨_,c,hc⟩:=re h aK[i];simp only[Ya (show(i:Int)<aK.length by omega),Yj,hg,VT,hc,hw]
   cases c with
   |false=>simp
   |true=>
    obtain⟨y,hy⟩:=KF h hc;obtain⟨v1,hv1⟩:=qm hy;obtain⟨v2,hv2⟩:=oZ hy;simp only[hy,hv1,hv2,VT,V3,Yk]
    cases Y0 (y.ar=p)with
    |false=>simp
    |true=>
     simp only[V3,Yk]
     cases Y0 (v1<r)with
     |true=>simp
     |false=>exact⟨_,rfl,λs' e=>by cases e;exact⟨k-1,Yn,i+1,Yn,rfl⟩⟩
  ·simp only[Yg (show ¬(i:Int)<aK.length by omega),Yk]
   simp
 obtain⟨o,ho⟩:=e;unfold eW;rw[hp,hb];simp only[VT,o4 (show(ak n).length<=4194304 by omega),ho]
 grind
def l7(w:ax)(s0:Int):Option (Int⊕(Unit⊕Bool)):=
 cond (Y0 (s0<(w.ae.length:Int)))
 ((aB w.ae s0).bind λy4=>
 (aB w.ae s0).bind λy5=>
 (cJ w.aa y4.bH y5.day).bind λy6=>
 cond (!y6)
 (YW (.inr (.inr YZ)))
 ((cr (fJ 0 s0 w.ae.length)).bind λ_=>
 (aB w.ae s0).bind λy7=>
 (dB (cM w.ae 0 s0) y7).bind λy8=>
 cond y8
 (YW (.inr (.inr YZ)))
 (YW (.inl (aM (s0+1))))))
 (YW (.inr (.inl ())))
instance (w:ax):bp (l7 w):=⟨λs0=>(.un::.be 0 0 0::.un::vi s0::(U 135 [])),λs0=>[YW ⟨.of 33,10,[[.sl (w.aa.aA.map bo),.sl (w.aa.off.map aG),vi w.aa.change,.sl (w.aj.map aZ),.sl (w.au.map aC),.sl (w.ae.map aU),vi w.now,.sl (w.aN.map bw),.sl (w.skip.map aG),vi w.bg]]⟩]⟩
def l8(w:ax)(s1:Int):Option (Int⊕(Unit⊕Bool)):=
 cond (Y0 (s1<(w.aN.length:Int)))
 ((aB w.aN s1).bind λy9=>
 (cH w.aa y9).bind λeh=>
 cond (!eh)
 (YW (.inr (.inr YZ)))
 ((aB w.aN s1).bind λlr=>
 cond (Y0 (w.now<lr.aQ))
 (YW (.inr (.inr YZ)))
 (YW (.inl (aM (s1+1))))))
 (YW (.inr (.inl ())))
instance (w:ax):bp (l8 w):=⟨λs1=>(.un::.be 0 0 0::.un::.un::vi s1::(U 134 [])),λs1=>[YW ⟨.of 33,10,[[.sl (w.aa.aA.map bo),.sl (w.aa.off.map aG),vi w.aa.change,.sl (w.aj.map aZ),.sl (w.au.map aC),.sl (w.ae.map aU),vi w.now,.sl (w.aN.map bw),.sl (w.skip.map aG),vi w.bg]]⟩]⟩
def l9(w:ax)(s2:Int×Int):Option ((Int×Int)⊕(Int⊕Bool)):=
 cond (Y0 (s2.2<(w.aj.length:Int)))
 ((nV w s2.2).bind λoV=>
 cond (!oV)
 (YW (.inr (.inr YZ)))
 ((aB w.aj s2.2).bind λoD=>
 YW (.inl ((aM (s2.1+(oD.aK.length:Int))),(aM (s2.2+1))))))
 (YW (.inr (.inl s2.1)))
instance (w:ax):bp (l9 w):=⟨λs2=>(.un::.be 0 0 0::(U 3 (vi s2.1::vi s2.2::(U 132 [])))),λs2=>[YW ⟨.of 33,10,[[.sl (w.aa.aA.map bo),.sl (w.aa.off.map aG),vi w.aa.change,.sl (w.aj.map aZ),.sl (w.au.map aC),.sl (w.ae.map aU),vi w.now,.sl (w.aN.map bw),.sl (w.skip.map aG),vi w.bg]]⟩]⟩
def fT(w:ax):Option Bool:=
 (eT w.aa w.au).bind λy1=>
 cond (!y1)
 (YW YZ)
 ((bb w.now 0 100000).bind λy2=>
 cond (!y2)
 (YW YZ)
 (cond (Y0 (30<(w.aj.length:Int)))
 (YW YZ)
 (cond (Y0 (20<(w.ae.length:Int)))
 (YW YZ)
 (cond (Y0 (200<(w.aN.length:Int)))
 (YW YZ)
 (cond (Y0 (50<(w.skip.length:Int)))
 (YW YZ)
 ((bb w.bg (w.aN.length:Int) 1000000000).bind λy3=>
 cond (!y3)
 (YW YZ)
 ((aE (l7 w) NN 0).bind (bh (λo0=>
 (aE (l8 w) NN 0).bind (bh (λo1=>
 (aE (l9 w) NN (0,0)).bind (bh (λo2=>
 YW (Y0 (o2=(w.au.length:Int)))) (λr=>YW r))) (λr=>YW r))) (λr=>YW r)))))))))
instance (w:ax):CT prog (fT w):=⟨169,[.ag (gK w)],[],λr=>vb r,λr=>[],cw (fT.eq_1 ..) func169 ntmps169 results169⟩
def allI{α:Type}(c:Nat->α->Bool):Nat->List α->Bool
 |_,[]=>YY
 |i,x::xs=>c i x&&allI c (i+1) xs
theorem cP{α:Type}{c:Nat->α->Bool}:∀{xs:List α} {i:Nat},allI c i xs=YY↔∀(j:Nat) (x:α),xs[j]?=YW x->c (i+j) x=YY
 | [],i=>by simp[allI]
 |x::xs,i=>by
  simp only[allI,Wd,cP];constructor
  ·grind
  ·intro h
   exact⟨h 0 x rfl,λj y hj=>by have:=h (j+1) y Yr;grind⟩
theorem HD{α:Type}(c d:Nat->α->Bool):∀(xs:List α) (i:Nat),allI (λi x=>c i x&&d i x) i xs=(allI c i xs&&allI d i xs)
 | [],i=>rfl
 |x::xs,i=>by
  simp only[allI,HD c d xs (i+1)]
  grind
theorem K9{c d:Nat->α->Bool}{xs:List α}(h:∀(j:Nat) (x:α),xs[j]?=YW x->c (i+j) x=d (i+j) x):allI c i xs=allI d i xs:=by
 rw[Bool.eq_iff_iff,cP,cP]
 grind
theorem fW{A α σ γ:Type}{xs:List α}{body:σ->Option (σ⊕(γ⊕Bool))}(mk:A->Int->σ)(c:Nat->α->Bool)(f:A->α->A)(g:A->γ)
 (h1:∀a (i:Nat) x,xs[i]?=YW x->body (mk a i)=YW (if c i x=YY then .inl (mk (f a x) ((i+1:Nat):Int))else .inr (.inr YZ)))
 (h2:∀a,body (mk a (xs.length:Int))=YW (.inr (.inl (g a)))) (hN:xs.length<NN) (a:A):aE body NN (mk a 0)=YW (if allI c 0 xs=YY then .inl (g (xs.foldl f a))else .inr YZ):=by
 rw[rf mk (λi a x=>YW (if c i x=YY then .inl (f a x)else .inr (.inr YZ))) (λa=>YW (.inl (g a))) (λa i x hx=>by grind) (λa=>by grind) hN a]
 have key:∀(xs:List α) (i:Nat) (a:A),uf (λi a x=>YW (if c i x=YY then(.inl (f a x):A⊕(γ⊕Bool))else .inr (.inr YZ))) (λa=>YW (.inl (g a))) i xs a=YW (if allI c i xs=YY then .inl (g (xs.foldl f a))else .inr YZ):=by
  intro xs
  induction xs with
  |nil=>intro i a;rfl
  |cons x xs ih=>
   simp only[uf,allI]
   grind
 grind
/-! The parts of an Zgp test. -/
def gy(n:ah)(t:av):Bool:=(cJ n t.bH t.day).getD YZ
def cq(n:ah)(t:av):ByteArray:=((aB n.aA t.bH).map (·.aY)).getD ⟨#[]⟩
def dF(l:List av)(t:av):Bool:=l.any λy=>Y0 (y=t)
theorem uO(h:cU n)(t:av):cJ n t.bH t.day=YW (gy n t):=by
 obtain⟨_,b,hb⟩:=rC h t.bH t.day;unfold gy;grind
theorem fp(h:cU n)(ht:gy n t=YY):∃y,aB n.aA t.bH=YW y/\y∈n.aA:=by
 have:=uO h t;rw[ht]at this
 obtain⟨y,hy⟩:=vQ h this;exact⟨y,hy,sE hy⟩
def uk(w:ax)(id:Int)(o:az)(i:Nat)(t:av):Bool:=gy w.aa t&&j3 w.au id t o.ab&&!(Y0 (cq w.aa t=o.aY)&&Y0 (i+1<o.aK.length))
def A1(n:ah)(o:az):ByteArray:=o.aK.foldl (λ_ t=>cq n t) o.ar
def bd(o:az):Int:=if o.state=2 then o.aO+1 else o.aO
def j9(w:ax)(i:Nat)(o:az):Bool:=
 !decide (bf (ak w.aa) o.ar<0)&&!decide (bf (ak w.aa) o.aY<0)&&!decide (o.ar=o.aY)&&(Y0 (1<=o.aw)&&Y0 (o.aw<=3))&&(Y0 (1<=o.ab)&&Y0 (o.ab<=30000))&&(Y0 (0<=o.aQ)&&Y0 (o.aQ<=w.now))&&(Y0 (0<=o.eJ)&&Y0 (o.eJ<=200000))&&(Y0 (0<=o.aO)&&Y0 (o.aO<=(o.aK.length:Int))) &&
  allI (uk w ((i+1:Nat):Int) o) 0 o.aK&&(eW w.aa o.aK o.ar (A1 w.aa o) (aM (o.aQ+1))).getD YZ&&(cd w.aa o w.now).getD YZ&&!((o.aK.drop (bd o).toNat).any (dF w.ae))
structure rF(w:ax):Prop where
 fC:cU w.aa
 aj:w.aj.length<=1048576
 au:w.au.length<=1048576
 ae:w.ae.length<=1048576
 aN:w.aN.length<=1048576
 skip:w.skip.length<=1048576
 aK:∀o∈w.aj,o.aK.length<=1048576
theorem DS(hg:0<=o.aO/\o.aO<=o.aK.length)(hl:o.aK.length<=1048576)(hw:∀t∈o.aK,∃y,aB n.aA t.bH=YW y)(now:Int):∃b,cd n o now=YW b:=by
 have zd:∀(i:Int),0<=i->i<o.aK.length->∃t y,aB o.aK i=YW t/\aB n.aA t.bH=YW y:=by
  intro i h0 h1;have bX:i.toNat<o.aK.length:=Yn;obtain⟨y,hy⟩:=hw o.aK[i.toNat] (Wp bX);exact⟨o.aK[i.toNat],y,by unfold aB;simp_all,hy⟩
 have zi:aM (o.aO-1)=o.aO-1:=aR Yn;have IW:o.aO<o.aK.length->∃t s e,aB o.aK o.aO=YW t/\bt n t=YW s/\bm n t=YW e:=by
  intro h1;obtain⟨t,y,ht,hy⟩:=zd o.aO hg.1 h1;obtain⟨s,hs⟩:=qm hy;obtain⟨e,he⟩:=oZ hy
  simp_all
 unfold cd;rw[zi]
 by_cases h0:0<o.aO
 ·rw[Ya h0,Yj]
  obtain⟨t,y,ht,hy⟩:=zd (o.aO-1) Yn Yn;obtain⟨e,he⟩:=oZ hy;simp only[ht,hy,he,VT]
  cases Y0 (now<e)with
  |true=>simp
  |false=>
   simp only[Yk]
   by_cases h1:o.aO<o.aK.length
   ·obtain⟨t2,s2,e2,ht2,CS,he2⟩:=IW h1
    simp only[ht2,CS,he2,VT]
    cases Y0 (o.state=1)<;>cases Y0 (o.state=2)<;>cases Y0 (o.state=3)<;>cases Y0 (o.place=y.aY)<;>cases Y0 (y.aY=o.aY)<;>cases Y0 (o.bQ=0)<;>cases Y0 (o.aO=(o.aK.length:Int))<;>cases Y0 (o.place=⟨#[]⟩)<;>cases Y0 (o.aO<(o.aK.length:Int))<;>cases Y0 (s2<=now)<;>cases Y0 (o.place=o.aY)<;>exact⟨_,rfl⟩
   ·rw[Ya (show o.aO=(o.aK.length:Int)by omega),Yg h1]
    cases Y0 (o.state=1)<;>cases Y0 (o.state=2)<;>cases Y0 (o.state=3)<;>cases Y0 (o.place=y.aY)<;>cases Y0 (y.aY=o.aY)<;>cases Y0 (o.bQ=0)<;>cases Y0 (o.place=⟨#[]⟩)<;>cases Y0 (o.place=o.aY)<;>exact⟨_,rfl⟩
 ·rw[Yg h0,Yk]
  by_cases h1:o.aO<o.aK.length
  ·obtain⟨t2,s2,e2,ht2,CS,he2⟩:=IW h1
   simp only[ht2,CS,he2,VT]
   cases Y0 (o.state=1)<;>cases Y0 (o.state=2)<;>cases Y0 (o.state=3)<;>cases Y0 (o.place=o.ar)<;>cases Y0 (o.ar=o.aY)<;>cases Y0 (o.bQ=0)<;>cases Y0 (o.aO=(o.aK.length:Int))<;>cases Y0 (o.place=⟨#[]⟩)<;>cases Y0 (o.aO<(o.aK.length:Int))<;>cases Y0 (s2<=now)<;>cases Y0 (o.place=o.aY)<;>exact⟨_,rfl⟩
  ·rw[Ya (show o.aO=(o.aK.length:Int)by omega),Yg h1]
   cases Y0 (o.state=1)<;>cases Y0 (o.state=2)<;>cases Y0 (o.state=3)<;>cases Y0 (o.place=o.ar)<;>cases Y0 (o.ar=o.aY)<;>cases Y0 (o.bQ=0)<;>cases Y0 (o.place=⟨#[]⟩)<;>cases Y0 (o.place=o.aY)<;>exact⟨_,rfl⟩
theorem Ib{w:ax}(hc:w.ae.length<=1048576)(hl:o.aK.length<=1048576)(h0:0<=k):aE (jh w o) NN k=YW (if(o.aK.drop k.toNat).any (dF w.ae)=YY then .inr YZ else .inl ()):=by
 have key:∀(ts:List av) (i N:Nat),o.aK.drop i=ts->ts.length<N->aE (jh w o) N (i:Int)=YW (if ts.any (dF w.ae)=YY then .inr YZ else .inl ()):=by
  intro ts
  induction ts with
  |nil=>
   intro i N hd hN
   cases N with
   |zero=>omega
   |succ N=>
    simp only[aE,jh]
    grind
  |cons t ts ih=>
   intro i N hd hN
   cases N with
   |zero=>omega
   |succ N=>
    have ht:o.aK[i]?=YW t:=by
     have:=congrArg (λl:List av=>l[0]?) hd
     grind
    have bX:=(VU.1 ht).1;have xg:o.aK.drop (i+1)=ts:=by
     have:=congrArg (List.drop 1) hd
     simpa using this
    have hg:aB o.aK (i:Int)=YW t:=by rw[aP];omega
    simp only[aE,jh];rw[Ya (show(i:Int)<o.aK.length by omega),hg]
    simp;rw[kh,jE hc,bG bX Yn];have Pf:(w.ae.any λy=>Y0 (y=t))=dF w.ae t:=rfl
    grind
 have:=key (o.aK.drop k.toNat) k.toNat NN rfl (by simp;unfold NN;omega)
 grind
theorem Av(cl:av->Bool)(k:Int):∀(ts:List av) (i:Nat),allI (λi t=>!(Y0 (k<=(i:Int))&&cl t)) i ts=!((ts.drop (k-i).toNat).any cl)
 | [],i=>by simp[allI]
 |t::ts,i=>by
  simp only[allI,Av cl k ts (i+1)]
  by_cases h:k<=(i:Int)
  ·rw[Ya h,show(k-(i:Int)).toNat=0 by omega,show(k-((i+1:Nat):Int)).toNat=0 by omega]
   simp
  ·obtain⟨m,hm⟩:∃m,(k-(i:Int)).toNat=m+1:=⟨(k-(i:Int)).toNat-1,Yn⟩
   grind
theorem s8(h:0<=o.aO/\o.aO<=o.aK.length)(hl:o.aK.length<=1048576):fo o=YW (bd o)/\0<=bd o/\ic o=YW (if(o.aK.length:Int)<bd o then(o.aK.length:Int)else bd o):=by
 unfold fo ic bd;have hw:aM (o.aO+1)=o.aO+1:=aR Yn
 grind
section
variable {w:ax} (hf:rF w) (hb:cu w.aa w.au=YY)
include hf hb
theorem UE(hl:o.aK.length<=1048576)(i:Nat)(hi:i<1048576):aE (kS w (i:Int) o) NN (o.ar,0)=YW (if allI (uk w ((i+1:Nat):Int) o) 0 o.aK=YY then .inl (A1 w.aa o)else .inr YZ):=by
 refine fW (A:=ByteArray) (λa i=>(a,i)) _ (λ_ t=>cq w.aa t) id (λa j t ht=>?_) (λa=>?_) Ys o.ar
 ·have bX:=(VU.1 ht).1
  have hg:aB o.aK (j:Int)=YW t:=by rw[aP];omega
  have hj:aM ((j:Int)+1)=((j+1:Nat):Int):=bG bX Yn;have hi1:aM ((i:Int)+1)=((i+1:Nat):Int):=by rw[aR Yn];omega
  unfold kS;simp only[Ya (show(j:Int)<o.aK.length by omega),hg,VT,uO hf.fC,Rv hf.au]
  unfold uk
  cases Hq:gy w.aa t with
  |false=>simp
  |true=>
   obtain⟨y,hy,_⟩:=fp hf.fC Hq;have Zda:cq w.aa t=y.aY:=by unfold cq;grind
   grind
 ·unfold kS
  simp
theorem UD(hl:o.aK.length<=1048576)(i:Nat)(hi:i<1048576)(ho:aB w.aj (i:Int)=YW o)(hg0:0<=o.aO/\o.aO<=o.aK.length):
 aE (lU w ((i+1:Nat):Int) o) NN (o.ar,0)=YW (if(allI (uk w ((i+1:Nat):Int) o) 0 o.aK&&!((o.aK.drop (bd o).toNat).any (dF w.ae)))=YY then .inl (A1 w.aa o)else .inr YZ):=by
 obtain⟨c1,c2,c3⟩:=s8 hg0 hl;have uo:(!((o.aK.drop (bd o).toNat).any (dF w.ae)))=allI (λj t=>!(Y0 ((if(o.aK.length:Int)<bd o then(o.aK.length:Int)else bd o)<=(j:Int))&&dF w.ae t)) 0 o.aK:=by
  rw[Av]
  split
  ·rw[List.drop_eq_nil_of_le Yn,List.drop_eq_nil_of_le Yn]
  simp
 rw[uo,<-HD];have uF:=(dQ hb).1;refine fW (A:=ByteArray) (λa i=>(a,i)) _ (λ_ t=>cq w.aa t) id (λa j t ht=>?_) (λa=>?_) Ys o.ar
 ·have bX:=(VU.1 ht).1
  have hg:aB o.aK (j:Int)=YW t:=by rw[aP];omega
  have hj:aM ((j:Int)+1)=((j+1:Nat):Int):=bG bX Yn;have zi:aM ((o.aK.length:Int)-1)=(o.aK.length:Int)-1:=aR Yn;have zg:aB w.aj (aM (((i+1:Nat):Int)-1))=YW o:=by rw[aR Yn,show((i+1:Nat):Int)-1=(i:Int)by omega];omega
  unfold lU;simp only[Ya (show(j:Int)<o.aK.length by omega),hg,VT,yv hf.fC uF,uO hf.fC,F9 hf.au (Ci hb) zg,c3,jE hf.ae]
  unfold uk
  cases Hq:gy w.aa t with
  |false=>simp
  |true=>
   obtain⟨y,hy,_⟩:=fp hf.fC Hq;have Zda:cq w.aa t=y.aY:=by unfold cq;grind
   cases j3 w.au ((i+1:Nat):Int) t o.ab with
   |false=>simp
   |true=>
    generalize (if(o.aK.length:Int)<bd o then(o.aK.length:Int)else bd o)=k
    have BA:dF w.ae t=w.ae.any λy=>Y0 (y=t):=rfl
    grind
 ·unfold lU
  simp
theorem FH(hl:o.aK.length<=1048576)(hg0:0<=o.aO/\o.aO<=o.aK.length)(h:allI (uk w ((i+1:Nat):Int) o) 0 o.aK=YY):cd w.aa o w.now=YW ((cd w.aa o w.now).getD YZ):=by
 obtain⟨b,Ga⟩:=DS (n:=w.aa) hg0 hl (λt ht=>by
  obtain⟨j,hj,rfl⟩:=Wf ht;have:=cP.1 h j _ (VV hj);unfold uk at this
  simp at this
  obtain⟨y,hy,_⟩:=fp hf.fC this.1.1
  grind) w.now
 grind
theorem ML(ho:aB w.aj (i:Int)=YW o):nV w (i:Int)=YW (j9 w i o):=by
 have hl:=hf.aK o (sE ho);have hi:i<1048576:=by have:=(VU.1 (by rw[<-aP];exact ho)).1;have:=hf.aj;omega
 have hp:=(dH hf.fC).2;have xL:=fv w.aa;have I0:=hf.fC.aA;unfold nV j9;rw[ho,hp];simp only[VT,cN,o4 (show(ak w.aa).length<=4194304 by omega)]
 cases Y0 (bf (ak w.aa) o.ar<0)with
 |true=>rfl
 |false=>
 cases Y0 (bf (ak w.aa) o.aY<0)with
 |true=>rfl
 |false=>
 cases Y0 (o.ar=o.aY)with
 |true=>rfl
 |false=>
 cases Y0 (1<=o.aw)&&Y0 (o.aw<=3)with
 |false=>rfl
 |true=>
 cases Y0 (1<=o.ab)&&Y0 (o.ab<=30000)with
 |false=>rfl
 |true=>
 cases Y0 (0<=o.aQ)&&Y0 (o.aQ<=w.now)with
 |false=>rfl
 |true=>
 cases Y0 (0<=o.eJ)&&Y0 (o.eJ<=200000)with
 |false=>rfl
 |true=>
 cases hg:Y0 (0<=o.aO)&&Y0 (o.aO<=(o.aK.length:Int))with
 |false=>rfl
 |true=>
 simp at hg
 obtain⟨c1,c2,c3⟩:=s8 hg hl;simp only[V3];rw[UE hf hb hl i hi]
 cases VO:allI (uk w ((i+1:Nat):Int) o) 0 o.aK with
 |false=>rfl
 |true=>
 have u0:=FH hf hb hl hg VO;obtain⟨r,hr⟩:=xm hf.fC hl o.ar (A1 w.aa o) (aM (o.aQ+1));simp only[if_true,VT,bh,hr]
 cases r with
 |false=>rfl
 |true=>
 rw[u0];simp
 cases(cd w.aa o w.now).getD YZ with
 |false=>rfl
 |true=>
 simp only[VT,c1,Ib hf.ae hl c2]
 grind
theorem LH(ho:aB w.aj (i:Int)=YW o):oJ w ((i+1:Nat):Int) (ak w.aa)=YW (j9 w i o):=by
 have hl:=hf.aK o (sE ho);have hi:i<1048576:=by have:=(VU.1 (by rw[<-aP];exact ho)).1;have:=hf.aj;omega
 have xL:=fv w.aa;have I0:=hf.fC.aA;have zg:aB w.aj (aM (((i+1:Nat):Int)-1))=YW o:=by rw[aR Yn,show((i+1:Nat):Int)-1=(i:Int)by omega];omega
 unfold oJ j9;rw[zg,gY,rj];simp only[VT,cN,o4 (show(ak w.aa).length<=4194304 by omega)]
 cases Y0 (o.ar=o.aY)with
 |true=>simp
 |false=>
 cases Y0 (bf (ak w.aa) o.ar<0)with
 |true=>rfl
 |false=>
 cases Y0 (bf (ak w.aa) o.aY<0)with
 |true=>rfl
 |false=>
 cases Y0 (1<=o.aw)&&Y0 (o.aw<=3)with
 |false=>rfl
 |true=>
 cases Y0 (1<=o.ab)&&Y0 (o.ab<=30000)with
 |false=>rfl
 |true=>
 cases Y0 (0<=o.aQ)&&Y0 (o.aQ<=w.now)with
 |false=>rfl
 |true=>
 cases Y0 (0<=o.eJ)&&Y0 (o.eJ<=200000)with
 |false=>rfl
 |true=>
 cases hg:Y0 (0<=o.aO)&&Y0 (o.aO<=(o.aK.length:Int))with
 |false=>rfl
 |true=>
 simp at hg
 simp only[V3];rw[UD hf hb hl i hi ho hg]
 cases VO:allI (uk w ((i+1:Nat):Int) o) 0 o.aK with
 |false=>rfl
 |true=>
 have u0:=FH hf hb hl hg VO;obtain⟨r,hr⟩:=xm hf.fC hl o.ar (A1 w.aa o) (aM (o.aQ+1));simp only[Bool.true_and];rw[hr]
 cases(o.aK.drop (bd o).toNat).any (dF w.ae)with
 |true=>simp
 |false=>
 simp only[SR hf.fC,Us]
 grind
end
def plB(s:ByteArray):Bool:=(bV s).getD YZ
theorem NW(h:s.size<=sy):bV s=YW (plB s):=by
 obtain⟨_,b,hb⟩:=np h;unfold plB;grind
theorem Tw(h:s.size<=sy):dT s=YW (plB s):=(np h).1.trans (NW h)
theorem Zbp(a b:ByteArray):MH a b=!qU b a:=by
 have h1:MH a b=(qU a b ||(a.toList==b.toList)):=rfl;rw[h1,baB]
 by_cases e:a=b
 ·have:=GY a
  grind
 ·cases h:qU a b with
  |true=>
   have:=Uf a b h
   grind
  |false=>
   have:=N4 (a:=a) (b:=b) Yr e
   grind
def Zcn(o:Option ct)(z:ct):Bool:=match o with
 |some y=>qU y.last z.first
 |none=>YZ
theorem Ov(y z:ct):Zcn (YW y) z=qU y.last z.first:=rfl
def KL(l:List ct)(i:Nat)(z:ct):Bool:=
 plB z.first&&(plB z.last&&(MH z.first z.last&&(Y0 (i=0) ||Zcn l[i-1]? z)))
def rU(l:List ct):Bool:=allI (KL l) 0 l&&Y0 ((l.length:Int)<=8)
def sQ(l:List ct):Prop:=l.length<=1048576/\∀z∈l,z.first.size<=sy/\z.last.size<=sy
theorem y0{i n:Nat}(h0:0<i)(hi:i<n)(hn:n<=1048576):aM ((i:Int)-1)=((i-1:Nat):Int):=by
 rw[aR Yn];omega
theorem Hm(hf:sQ l):jO l=YW (rU l):=by
 have e:aE (kL l) NN 0=YW (if allI (KL l) 0 l=YY then .inl ()else .inr YZ):=by
  refine fW (A:=Unit) (λ_ i=>i) _ (λa _=>a) (λ_=>()) (λa i z hz=>?_) (λa=>?_) (by have:=hf.1;unfold NN;omega) ()
  ·have bX:=(VU.1 hz).1
   have hl:=hf.1;obtain⟨p1,p2⟩:=hf.2 z (VW hz);have hg:aB l (i:Int)=YW z:=by rw[aP];omega
   have hi:aM ((i:Int)+1)=((i+1:Nat):Int):=bG bX Yn;unfold kL;simp only[mE,hg,VT,NW p1,NW p2];unfold KL
   by_cases h0:i=0
   ·grind
   ·have hp:=y0 (Xn h0) bX hl
    obtain⟨y,hy⟩:∃y,l[i-1]?=YW y:=⟨_,VV Yn⟩;have hgy:aB l ((i-1:Nat):Int)=YW y:=by rw[aP];omega
    rw[hp,hy,Ov]
    grind
  ·unfold kL
   simp
 unfold jO rU
 grind
theorem Hl(hf:sQ l):jM l=YW (rU l):=by
 have e:aE (kz l) NN 0=YW (if allI (KL l) 0 l=YY then .inl ()else .inr YZ):=by
  refine fW (A:=Unit) (λ_ i=>i) _ (λa _=>a) (λ_=>()) (λa i z hz=>?_) (λa=>?_) (by have:=hf.1;unfold NN;omega) ()
  ·have bX:=(VU.1 hz).1
   have hl:=hf.1;obtain⟨p1,p2⟩:=hf.2 z (VW hz);have hg:aB l (i:Int)=YW z:=by rw[aP];omega
   have hi:aM ((i:Int)+1)=((i+1:Nat):Int):=bG bX Yn;unfold kz;simp only[mE,hg,VT,Tw p1,Tw p2];unfold KL
   by_cases h0:i=0
   ·grind
   ·have hp:=y0 (Xn h0) bX hl
    obtain⟨y,hy⟩:∃y,l[i-1]?=YW y:=⟨_,VV Yn⟩;have hgy:aB l ((i-1:Nat):Int)=YW y:=by rw[aP];omega
    rw[hp,hgy,hy,Ov];simp only[VT,Zbp z.first y.last]
    grind
  ·unfold kz
   simp
 unfold jM rU
 grind
def uu(a b:bF):Bool:=Y0 (a.nG<b.nG) ||(Y0 (b.nG=a.nG)&&(Y0 (a.aw<b.aw) ||(Y0 (b.aw=a.aw)&&(Y0 (a.oi<b.oi)&&Y0 (a.mr<=b.mr)))))
theorem U2(a b:bF):oQ a b=YW (uu a b):=by
 unfold oQ uu
 grind
def T8(o:Option bF)(r:bF):Bool:=match o with
 |some y=>uu y r
 |none=>YZ
theorem GX(y r:bF):T8 (YW y) r=uu y r:=rfl
def Fj(l:List bF)(aS:Int)(i:Nat)(r:bF):Bool:=
 !decide (r.nG<0)&&(!decide (aS<=r.nG)&&((Y0 (1<=r.aw)&&Y0 (r.aw<=3))&&((Y0 (1<=r.oi)&&Y0 (r.oi<=1000000000))&&((Y0 (0<=r.mr)&&Y0 (r.mr<=100000))&&(Y0 (i=0) ||T8 l[i-1]? r)))))
def rT(l:List bF)(aS:Int):Bool:=allI (Fj l aS) 0 l&&Y0 ((l.length:Int)<=24)
theorem NZ{l:List bF}(hl:l.length<=1048576):lD l aS=YW (rT l aS):=by
 have e:aE (kK l aS) NN 0=YW (if allI (Fj l aS) 0 l=YY then .inl ()else .inr YZ):=by
  refine fW (A:=Unit) (λ_ i=>i) _ (λa _=>a) (λ_=>()) (λa i z hz=>?_) (λa=>?_) Ys ()
  ·have bX:=(VU.1 hz).1
   have hg:aB l (i:Int)=YW z:=by rw[aP];omega
   have hi:aM ((i:Int)+1)=((i+1:Nat):Int):=bG bX Yn;unfold kK;simp only[mE,hg,VT,cN];unfold Fj;generalize (Y0 (0<=z.mr)&&Y0 (z.mr<=100000))=c3
   by_cases h0:i=0
   ·grind
   ·have hp:=y0 (Xn h0) bX hl
    obtain⟨y,hy⟩:∃y,l[i-1]?=YW y:=⟨_,VV Yn⟩;have hgy:aB l ((i-1:Nat):Int)=YW y:=by rw[aP];omega
    rw[hp,hy,GX];simp only[U2]
    grind
  ·unfold kK
   simp
 unfold lD rT
 grind
theorem U0(a b:bF)(h:¬(0<=(if tG a.nG b.nG≠0 then tG a.nG b.nG else if tG a.aw b.aw≠0 then tG a.aw b.aw else tG a.oi b.oi))):uu a b=!(Y0 (a.nG=b.nG)&&(Y0 (a.aw=b.aw)&&Y0 (b.mr<a.mr))):=by
 unfold tG at h
 unfold uu
 grind
theorem U1(a b:bF)(h:0<=(if tG a.nG b.nG≠0 then tG a.nG b.nG else if tG a.aw b.aw≠0 then tG a.aw b.aw else tG a.oi b.oi)):uu a b=false:=by
 unfold tG at h
 unfold uu
 grind
theorem NY{l:List bF}(hl:l.length<=1048576):lu l aS=YW (rT l aS):=by
 have e:aE (ky l aS) NN 0=YW (if allI (Fj l aS) 0 l=YY then .inl ()else .inr YZ):=by
  refine fW (A:=Unit) (λ_ i=>i) _ (λa _=>a) (λ_=>()) (λa i z hz=>?_) (λa=>?_) Ys ()
  ·have bX:=(VU.1 hz).1
   have hg:aB l (i:Int)=YW z:=by rw[aP];omega
   have hi:aM ((i:Int)+1)=((i+1:Nat):Int):=bG bX Yn;unfold ky;simp only[mE,Ya (show(i:Int)<l.length by omega),hg,VT,um]
   unfold Fj;generalize (Y0 (0<=z.mr)&&Y0 (z.mr<=100000))=c3
   by_cases h0:i=0
   ·grind
   ·have hp:=y0 (Xn h0) bX hl
    obtain⟨y,hy⟩:∃y,l[i-1]?=YW y:=⟨_,VV Yn⟩;have hgy:aB l ((i-1:Nat):Int)=YW y:=by rw[aP];omega
    rw[Yg (show ¬((i:Int)=0)by omega),Yg h0,hp,hgy,hy,GX]
    simp only[VT,RE,R5]
    by_cases hc:0<=(if tG y.nG z.nG≠0 then tG y.nG z.nG else if tG y.aw z.aw≠0 then tG y.aw z.aw else tG y.oi z.oi)
    ·rw[Ya hc,U1 y z hc]
     simp
    ·rw[U0 y z hc]
     grind
  ·unfold ky
   simp
 unfold lu rT
 grind
theorem MV:@o8=@jg:=by
 funext l q i
 unfold o8 jg;simp only[mE]
 cases aB l i<;>rfl
theorem Hk(hl:l.length<=1048576)(q:ByteArray):∃o,aE (jg l q) NN 0=YW o:=by
 refine yy (n:=l.length) Ys (λi hi=>?_) ?_
 ·have hg:aB l (i:Int)=YW l[i]:=by rw[aP];simp
  have hw:aM ((i:Int)+1)=((i+1:Nat):Int):=bG hi Yn;unfold jg;simp only[mE,Ya (show(i:Int)<l.length by omega),hg,VT,hw]
  cases MH l[i].first q<;>cases MH q l[i].last
  all_goals simp
 ·unfold jg
  simp
theorem QP(hf:sQ l){q:ByteArray}(hq:q.size<=sy):pE l q=oa l q/\∃v,oa l q=YW v:=by
 unfold pE oa;rw[Hl hf,Hm hf,MV,Tw hq,NW hq];refine⟨rfl,?_⟩;obtain⟨o,ho⟩:=Hk hf.1 q;rw[ho]
 cases rU l<;>cases plB q<;>(try exact⟨_,rfl⟩)
 cases o<;>exact⟨_,rfl⟩
theorem QK{l:List Int}(h:l.length<NN):nN l=lG l/\∃v,lG l=YW v:=by
 unfold nN lG;rw[DW,BN h];refine⟨rfl,?_⟩
 cases ht:tB l with
 |false=>simp
 |true=>
  match l,Ao ht with
  | [x,y,z],_=>exact⟨_,rfl⟩
theorem OK(h1:p.label.aY.size<=sy)(h2:p.ar.size<=sy)(h3:p.bE.length<NN):iA p=gu p/\∃v,gu p=YW v:=by
 obtain⟨e1,b,hb⟩:=tZ h1 h2 h3;obtain⟨e2,v,hv⟩:=QK h3;unfold iA gu
 grind
theorem Qb{z:Int}(hc:iA p=gu p):om aT p z=iv aT p z:=by
 funext i
 unfold om iv;simp only[mE,hc]
 cases hg:aB aT i with
 |none=>simp
 |some y=>rfl
theorem Dv{aS:List ct}(hz:sQ aS)(hr:aT.length<=1048576)(h1:p.label.aY.size<=sy)(h2:p.ar.size<=sy)(h3:p.bE.length<NN):
 mH aS aT p=iu aS aT p/\∃v,iu aS aT p=YW v:=by
 obtain⟨e1,b,hb⟩:=tZ h1 h2 h3;obtain⟨e2,z,hv⟩:=QP hz h1;obtain⟨e3,cw,hcw⟩:=OK h1 h2 h3;have hL:∃o,aE (iv aT p z) NN 0=YW o:=by
  refine yy (n:=aT.length) Ys (λi hi=>?_) ?_
  ·have hg:aB aT (i:Int)=YW aT[i]:=by rw[aP];simp
   have hw:aM ((i:Int)+1)=((i+1:Nat):Int):=bG hi Yn;unfold iv;simp only[mE,Ya (show(i:Int)<aT.length by omega),hg,VT,hw,hcw]
   cases Y0 (aT[i].nG=z)<;>cases Y0 (aT[i].aw=p.label.aw)<;>cases Y0 (cw<=aT[i].oi)<;>(first|exact Od rfl|simp)
  ·unfold iv
   simp
 obtain⟨o,ho⟩:=hL;unfold mH iu;rw[Hl hz,Hm hz,NY hr,NZ hr,e1,e2,hb,hv];simp only[VT,Qb e3,ho];refine⟨trivial,?_⟩
 cases rU aS
 ·simp
 cases rT aT (aS.length:Int)
 ·simp
 cases b
 ·simp
 cases o<;>exact⟨_,rfl⟩
def rZ(w:ax)(i:Nat)(t:av):Bool:=gy w.aa t&&!dF (w.ae.take i) t
def wX(w:ax)(i:Nat)(s:br):Bool:=(cH w.aa s).getD YZ&&!decide (w.now<s.aQ)
def uP(w:ax):Int:=w.aj.foldl (λa o=>aM (a+(o.aK.length:Int))) 0
def fB(w:ax):Bool:=
 cu w.aa w.au&&(Y0 (0<=w.now)&&Y0 (w.now<=100000))&&!decide (30<(w.aj.length:Int))&&!decide (20<(w.ae.length:Int))&&!decide (200<(w.aN.length:Int))&&!decide (50<(w.skip.length:Int))&&(Y0 ((w.aN.length:Int)<=w.bg)&&Y0 (w.bg<=1000000000)) &&
  allI (rZ w) 0 w.ae&&allI (wX w) 0 w.aN&&allI (j9 w) 0 w.aj&&Y0 (uP w=(w.au.length:Int))
theorem ui(xs:List α)(i:Nat):cM xs 0 (i:Int)=xs.take i:=by rfl
section
variable {w:ax} (hf:rF w) (hb:cu w.aa w.au=YY)
include hf
theorem Uj(s:br):cH w.aa s=YW ((cH w.aa s).getD YZ):=by
 obtain⟨b,h⟩:=AI hf.fC s
 grind
theorem Ic:aE (l7 w) NN 0=YW (if allI (rZ w) 0 w.ae=YY then .inl ()else .inr YZ):=by
 refine fW (A:=Unit) (λ_ i=>i) _ (λa _=>a) id (λa i t ht=>?_) (λa=>?_) (by have:=hf.ae;unfold NN;omega) ()
 ·have bX:=(VU.1 ht).1
  have uo:=hf.ae;have hg:aB w.ae (i:Int)=YW t:=by rw[aP];omega
  have hi:aM ((i:Int)+1)=((i+1:Nat):Int):=bG bX Yn;have hs:cr (fJ 0 (i:Int) w.ae.length)=YW ():=ku YM;unfold l7;simp only[hg,VT,uO hf.fC,ui,kh,jE (show(w.ae.take i).length<=1048576 by grind)]
  unfold rZ;have Pf:((w.ae.take i).any λy=>Y0 (y=t))=dF (w.ae.take i) t:=rfl
  grind
 ·unfold l7
  simp
theorem Ia(hb:cu w.aa w.au=YY):aE (lN w) NN 0=YW (if allI (rZ w) 0 w.ae=YY then .inl ()else .inr YZ):=by
 have uF:=(dQ hb).1;refine fW (A:=Unit) (λ_ i=>i) _ (λa _=>a) id (λa i t ht=>?_) (λa=>?_) (by have:=hf.ae;unfold NN;omega) ()
 ·have bX:=(VU.1 ht).1
  have uo:=hf.ae;have hg:aB w.ae (i:Int)=YW t:=by rw[aP];omega
  have hi:aM ((i:Int)+1)=((i+1:Nat):Int):=bG bX Yn;have hs:cr (fJ 0 (i:Int) w.ae.length)=YW ():=ku YM;unfold lN;simp only[yv hf.fC uF,uO hf.fC,ui,jE (show(w.ae.take i).length<=1048576 by grind)]
  unfold rZ;have Pf:((w.ae.take i).any λy=>Y0 (y=t))=dF (w.ae.take i) t:=rfl
  grind
 ·unfold lN
  simp
theorem MK:aE (l8 w) NN 0=YW (if allI (wX w) 0 w.aN=YY then .inl ()else .inr YZ):=by
 refine fW (A:=Unit) (λ_ i=>i) _ (λa _=>a) id (λa i s hs=>?_) (λa=>?_) (by have:=hf.aN;unfold NN;omega) ()
 ·have bX:=(VU.1 hs).1
  have uo:=hf.aN;have hg:aB w.aN (i:Int)=YW s:=by rw[aP];omega
  have hi:aM ((i:Int)+1)=((i+1:Nat):Int):=bG bX Yn;unfold l8;rw[Ya (show(i:Int)<w.aN.length by omega),hg]
  simp;rw[Uj hf s];unfold wX
  grind
 ·unfold l8
  simp
theorem MJ:aE (lO w) NN 0=YW (if allI (wX w) 0 w.aN=YY then .inl ()else .inr YZ):=by
 refine fW (A:=Unit) (λ_ i=>i) _ (λa _=>a) id (λa i s hs=>?_) (λa=>?_) (by have:=hf.aN;unfold NN;omega) ()
 ·have bX:=(VU.1 hs).1
  have uo:=hf.aN;have hg:aB w.aN (i:Int)=YW s:=by rw[aP];omega
  have hi:aM ((i:Int)+1)=((i+1:Nat):Int):=bG bX Yn;unfold lO;rw[Ya (show(i:Int)<w.aN.length by omega),hg]
  simp;rw[Pw hf.fC,Uj hf s];unfold wX
  grind
 ·unfold lO
  simp
include hb
theorem JH:aE (l9 w) NN (0,0)=YW (if allI (j9 w) 0 w.aj=YY then .inl (uP w)else .inr YZ):=by
 refine fW (A:=Int) (λa i=>(a,i)) _ (λa (o:az)=>aM (a+(o.aK.length:Int))) id (λa i o ho=>?_) (λa=>?_) (by have:=hf.aj;unfold NN;omega) 0
 ·have bX:=(VU.1 ho).1
  have uo:=hf.aj;have hg:aB w.aj (i:Int)=YW o:=by rw[aP];omega
  have hi:aM ((i:Int)+1)=((i+1:Nat):Int):=bG bX Yn;unfold l9;simp only[ML hf hb hg]
  grind
 ·unfold l9
  simp
theorem JG:aE (lP w (ak w.aa)) NN (0,0)=YW (if allI (j9 w) 0 w.aj=YY then .inl (uP w)else .inr YZ):=by
 refine fW (A:=Int) (λa i=>(a,i)) _ (λa (o:az)=>aM (a+(o.aK.length:Int))) id (λa i o ho=>?_) (λa=>?_) (by have:=hf.aj;unfold NN;omega) 0
 ·have bX:=(VU.1 ho).1
  have uo:=hf.aj;have hg:aB w.aj (i:Int)=YW o:=by rw[aP];omega
  have hi:aM ((i:Int)+1)=((i+1:Nat):Int):=bG bX Yn;unfold lP;simp only[hi,LH hf hb hg]
  grind
 ·unfold lP
  simp
end
theorem qg{w:ax}(hf:rF w):fT w=YW (fB w):=by
 unfold fT fB;rw[iJ hf.fC hf.au];simp only[VT,cN]
 cases hb:cu w.aa w.au with
 |false=>rfl
 |true=>
 cases Y0 (0<=w.now)&&Y0 (w.now<=100000)with
 |false=>rfl
 |true=>
 cases Y0 (30<(w.aj.length:Int))with
 |true=>rfl
 |false=>
 cases Y0 (20<(w.ae.length:Int))with
 |true=>rfl
 |false=>
 cases Y0 (200<(w.aN.length:Int))with
 |true=>rfl
 |false=>
 cases Y0 (50<(w.skip.length:Int))with
 |true=>rfl
 |false=>
 cases Y0 ((w.aN.length:Int)<=w.bg)&&Y0 (w.bg<=1000000000)with
 |false=>rfl
 |true=>
 rw[Ic hf,MK hf,JH hf hb]
 grind
theorem sG{w:ax}(hf:rF w):ig w=YW (fB w):=by
 unfold ig fB;rw[vB hf.fC hf.au,gY];simp only[cN]
 cases hb:cu w.aa w.au with
 |false=>rfl
 |true=>
 cases Y0 (0<=w.now)&&Y0 (w.now<=100000)with
 |false=>rfl
 |true=>
 cases Y0 (30<(w.aj.length:Int))with
 |true=>rfl
 |false=>
 cases Y0 (20<(w.ae.length:Int))with
 |true=>rfl
 |false=>
 cases Y0 (200<(w.aN.length:Int))with
 |true=>rfl
 |false=>
 cases Y0 (50<(w.skip.length:Int))with
 |true=>rfl
 |false=>
 cases Y0 ((w.aN.length:Int)<=w.bg)&&Y0 (w.bg<=1000000000)with
 |false=>rfl
 |true=>
 rw[Ia hf hb,MJ hf,AG hf.fC];simp;rw[JG hf hb]
 grind
theorem qn{w:ax}(h:fB w=YY)(ho:w.aj[i]?=YW o):j9 w i o=true:=by
 unfold fB at h
 simp at h
 have:=cP.1 h.1.2 i o ho
 grind
theorem AX{w:ax}(h:fB w=YY):cu w.aa w.au=true:=by
 unfold fB at h
 grind
def iE(w:ax)(s0:Int×Int):Option ((Int×Int)⊕Int):=
 cond (Y0 (s0.1<(w.aj.length:Int)))
 ((aB w.aj s0.1).bind λy2=>
 cond (Y0 (y2.aO=(y2.aK.length:Int)))
 (YW (.inl ((aM (s0.1+1)),s0.2)))
 ((aB y2.aK y2.aO).bind λy3=>
 (bt w.aa y3).bind λy4=>
 cond (Y0 (y2.state=2))
 ((aB y2.aK y2.aO).bind λy5=>
 (bm w.aa y5).bind λy6=>
 cond (Y0 (s0.2<0))
 (YW (.inl ((aM (s0.1+1)),y6)))
 (cond (Y0 (y6<s0.2))
 (YW (.inl ((aM (s0.1+1)),y6)))
 (YW (.inl ((aM (s0.1+1)),s0.2)))))
 (cond (Y0 (s0.2<0))
 (YW (.inl ((aM (s0.1+1)),y4)))
 (cond (Y0 (y4<s0.2))
 (YW (.inl ((aM (s0.1+1)),y4)))
 (YW (.inl ((aM (s0.1+1)),s0.2)))))))
 (YW (.inr s0.2))
instance (w:ax):bp (iE w):=⟨λs0=>(.un::.be 0 0 0::.un::vi s0.2::vi s0.1::(U 54 [])),λs0=>[YW ⟨.of 33,10,[[.sl (w.aa.aA.map bo),.sl (w.aa.off.map aG),vi w.aa.change,.sl (w.aj.map aZ),.sl (w.au.map aC),.sl (w.ae.map aU),vi w.now,.sl (w.aN.map bw),.sl (w.skip.map aG),vi w.bg]]⟩]⟩
def mT(w:ax):Option Int:=
 (fT w).bind λy1=>
 cond (!y1)
 (YW (-1))
 ((aE (iE w) NN (0,(-1))).bind (λo0=>
 YW o0))
instance (w:ax):CT prog (mT w):=⟨227,[.ag (gK w)],[],λr=>vi r,λr=>[],cw (mT.eq_1 ..) func227 ntmps227 results227⟩
structure ZbR(l:bP):Prop where
 start:0<=l.start/\l.start<=1439
 nd:1<=l.nd/\l.nd<=4320
 jk:0<=l.jk/\l.jk<=1000000
theorem SQ{l:bP}(h:C5 l)(hv:fE l=YW YY):ZbR l:=by
 obtain⟨_,b1,s1⟩:=np (s:=l.ar) h.1;obtain⟨_,b2,s2⟩:=np (s:=l.aY) h.2;unfold fE at hv
 rw[s1,s2]at hv
 simp only[VT,cN]at hv
 cases b1 with
 |false=>grind
 |true=>
 cases b2 with
 |false=>grind
 |true=>
 cases h1:Y0 (l.ar=l.aY)with
 |true=>grind
 |false=>
 rw[h1]at hv
 cases h2:Y0 (0<=l.start)&&Y0 (l.start<=1439)with
 |false=>grind
 |true=>
 rw[h2]at hv
 cases h3:Y0 (1<=l.nd)&&Y0 (l.nd<=4320)with
 |false=>grind
 |true=>
 rw[h3]at hv
 cases h4:Y0 (1<=l.vt)&&Y0 (l.vt<=127)with
 |false=>grind
 |true=>
 rw[h4]at hv
 cases h5:Y0 (0<=l.jk)&&Y0 (l.jk<=1000000)with
 |false=>grind
 |true=>
 simp only[Wd,Yl]at h2 h3 h5
 exact⟨h2,h3,h5⟩
theorem yF(h:cU n)(hn:aW n=YW YY):∀l∈n.aA,ZbR l:=by
 have e:aE (bY n) NN 0=YW (if allI (λ_ l=>(fE l).getD YZ) 0 n.aA=YY then .inl ()else .inr YZ):=by
  refine fW (A:=Unit) (λ_ i=>i) _ (λa _=>a) id (λa i l hl=>?_) (λa=>?_) (by have:=h.aA;unfold NN;omega) ()
  ·have bX:=(VU.1 hl).1
   have uo:=h.aA;have hg:aB n.aA (i:Int)=YW l:=by rw[aP];omega
   have hi:aM ((i:Int)+1)=((i+1:Nat):Int):=bG bX Yn;obtain⟨_,b,hb⟩:=yr (h.bH l (VW hl));unfold bY
   grind
  ·unfold bY
   simp
 unfold aW at hn
 by_cases ha:allI (λ_ l=>(fE l).getD YZ) 0 n.aA=YY
 ·intro l hl
  obtain⟨i,hi,rfl⟩:=Wf hl;have:=cP.1 ha i _ (VV hi);obtain⟨_,b,hb⟩:=yr (h.bH _ (Wp hi));rw[hb]at this
  subst this;exact SQ (h.bH _ (Wp hi)) hb
 grind
theorem DX(ht:gy n t=YY):0<=t.day/\t.day<=60:=by
 unfold gy cJ at ht
 rw[cN,cN]at ht
 grind
def cS(n:ah)(t:av):Int:=(bt n t).getD 0
def dP(n:ah)(t:av):Int:=(bm n t).getD 0
theorem cY(h:cU n)(hn:aW n=YW YY)(ht:gy n t=YY):
 bt n t=YW (cS n t)/\bm n t=YW (dP n t)/\0<=cS n t/\cS n t<dP n t/\dP n t<=100000:=by
 obtain⟨y,hy,hm⟩:=fp h ht;obtain⟨d0,d1⟩:=DX ht;have hl:=yF h hn y hm;obtain⟨a0,a1⟩:=hl.start;obtain⟨b0,b1⟩:=hl.nd;have e1:bt n t=YW (t.day*1440+y.start):=by
  unfold bt;rw[hy];simp;rw[aR (n:=t.day*1440) Yn,aR Yn]
 have e2:bm n t=YW (t.day*1440+y.start+y.nd):=by
  unfold bm;rw[e1,hy];simp;rw[aR Yn]
 have s1:cS n t=t.day*1440+y.start:=by unfold cS;grind
 have s2:dP n t=t.day*1440+y.start+y.nd:=by unfold dP;grind
 grind
theorem Kx{now:Int}(h:cd n o now=YW YY):(o.state=1/\¬(o.place=o.aY))\/(o.state=2/\o.aO<o.aK.length)\/(o.state=3/\o.aO=o.aK.length/\0<o.aO):=by
 by_cases h1:o.state=1
 ·unfold cd at h
  cases h0:Y0 (0<o.aO)with
  |false=>
   grind
  |true=>
   rw[h0]at h
   simp at h
   cases hg:aB o.aK (aM (o.aO-1))with
   |none=>grind
   |some y1=>
    rw[hg]at h
    simp at h
    cases hl:aB n.aA y1.bH with
    |none=>grind
    |some y2=>
     rw[hl]at h
     simp at h
     cases he:bm n y1 with
     |none=>grind
     |some v=>
      grind
 ·by_cases h2:o.state=2
  ·rcases Classical.em (o.aO<o.aK.length)with bX|bX
   ·omega
   unfold cd at h
   rw[Yg bX]at h
   cases h0:Y0 (0<o.aO)with
   |false=>
    grind
   |true=>
    rw[h0]at h
    simp at h
    cases hg:aB o.aK (aM (o.aO-1))with
    |none=>grind
    |some y1=>
     rw[hg]at h
     simp at h
     cases hl:aB n.aA y1.bH with
     |none=>grind
     |some y2=>
      rw[hl]at h
      simp at h
      cases he:bm n y1 with
      |none=>grind
      |some v=>
       grind
  ·by_cases h3:o.state=3
   ·rcases Classical.em (o.aO=o.aK.length/\0<o.aO)with bX|bX
    ·omega
    unfold cd at h
    rw[Ya h3]at h
    cases h0:Y0 (0<o.aO)with
    |false=>
     grind
    |true=>
     have gZ:¬o.aO=(o.aK.length:Int):=λe=>bX ⟨e,Yh h0⟩
     rw[Yg gZ]at h
     simp at h
     cases hg:aB o.aK (aM (o.aO-1))with
     |none=>grind
     |some y1=>
      rw[hg]at h
      simp at h
      cases hl:aB n.aA y1.bH with
      |none=>grind
      |some y2=>
       rw[hl]at h
       simp at h
       cases he:bm n y1 with
       |none=>grind
       |some v=>
        grind
   ·unfold cd at h
    cases h0:Y0 (0<o.aO)with
    |false=>grind
    |true=>
     rw[h0]at h
     simp at h
     cases hg:aB o.aK (aM (o.aO-1))with
     |none=>grind
     |some y1=>
      rw[hg]at h
      simp at h
      cases hl:aB n.aA y1.bH with
      |none=>grind
      |some y2=>
       rw[hl]at h
       simp at h
       cases he:bm n y1 with
       |none=>grind
       |some v=>
        grind
structure FL(w:ax)(i:Nat)(o:az):Prop where
 aO:0<=o.aO/\o.aO<=o.aK.length
 bk:∀t∈o.aK,gy w.aa t=YY
 aK:allI (uk w ((i+1:Nat):Int) o) 0 o.aK=YY
 Zb9:eW w.aa o.aK o.ar (A1 w.aa o) (aM (o.aQ+1))=YW YY
 st:cd w.aa o w.now=YW YY
 cases:(o.state=1/\¬(o.place=o.aY))\/(o.state=2/\o.aO<o.aK.length)\/(o.state=3/\o.aO=o.aK.length/\0<o.aO)
 open_:((o.aK.drop (bd o).toNat).any (dF w.ae))=YZ
 ZcR:¬o.ar=o.aY
 aQ:0<=o.aQ/\o.aQ<=w.now
 eJ:0<=o.eJ/\o.eJ<=200000
theorem JF{w:ax}(hf:rF w)(hl:o.aK.length<=1048576)(h:j9 w i o=YY):FL w i o:=by
 unfold j9 at h
 simp only[Wd,Bool.not_eq_true',Yl,Ym]at h
 obtain⟨⟨⟨⟨⟨⟨⟨⟨⟨⟨⟨h1,h2⟩,h3⟩,h4⟩,h5⟩,h6⟩,h7⟩,h8⟩,h9⟩,zG⟩,EL⟩,UL⟩:=h;have ht:∀t∈o.aK,gy w.aa t=true:=by
  intro t ht;obtain⟨j,hj,rfl⟩:=Wf ht;have:=cP.1 h9 j _ (VV hj);unfold uk at this
  grind
 obtain⟨r,hr⟩:=xm hf.fC hl o.ar (A1 w.aa o) (aM (o.aQ+1));obtain⟨b,hb⟩:=DS (n:=w.aa) h8 hl (λt htt=>by obtain⟨y,hy,_⟩:=fp hf.fC (ht t htt);grind) w.now
 rw[hr]at zG
 rw[hb]at EL
 subst zG EL;exact⟨h8,ht,h9,hr,hb,Kx hb,UL,h3,h6,h7⟩
section
variable {w:ax} (hf:rF w) (hv:fB w=YY)
include hf hv
theorem mX(ho:w.aj[i]?=YW o):FL w i o:=JF hf (hf.aK o (VW ho)) (qn hv ho)
theorem FI:aW w.aa=YW true:=(dQ (AX hv)).1
theorem D0(ho:w.aj[i]?=YW o)(h0:0<=k)(h1:k<o.aK.length):∃t,aB o.aK k=YW t/\gy w.aa t=true:=by
 have bX:k.toNat<o.aK.length:=Yn;exact⟨o.aK[k.toNat],by unfold aB;grind,(mX hf hv ho).bk _ (Wp bX)⟩
theorem ZaI:gQ w=(aE (iE w) NN (0,(-1))).bind (λo0=>YW o0):=by
 have uF:=FI hf hv;have hor:=hf.aj
 let F:Nat->Int->az->Option (Int⊕Int):=λ_ a o=>
  if o.aO=o.aK.length then YW (.inl a)else(aB o.aK o.aO).bind λt=>
   let v:=if o.state=2 then dP w.aa t else cS w.aa t
   YW (.inl (if a<0\/v<a then v else a))
 have e1:aE (fq w) NN ((-1),0)=uf F YW 0 w.aj (-1):=by
  refine rf (A:=Int) (λa i=>(a,i)) F YW (λa i o ho=>?_) (λa=>?_) Ys (-1)
  ·have bX:=(VU.1 ho).1
   have hg:aB w.aj (i:Int)=YW o:=by rw[aP];omega
   have hi:aM ((i:Int)+1)=((i+1:Nat):Int):=bG bX Yn;have hok:=mX hf hv ho;unfold fq;simp only[hg,VT,ql,r8]
   by_cases u9:o.aO<o.aK.length
   ·obtain⟨t,htg,zh⟩:=D0 hf hv ho hok.aO.1 u9
    obtain⟨t1,t2,t3,t4,t5⟩:=cY hf.fC uF zh;rw[htg];simp
    rcases hok.cases with⟨c1,_⟩ |⟨c1,_⟩ |⟨c1,c2,_⟩
    all_goals grind
   ·have ze:=hok.aO.2
    rw[Yg u9]
    rcases hok.cases with⟨c1,_⟩ |⟨c1,_⟩ |⟨c1,c2,_⟩
    all_goals grind
  ·unfold fq
   simp
 have e2:aE (iE w) NN (0,(-1))=uf F YW 0 w.aj (-1):=by
  refine rf (A:=Int) (λa i=>(i,a)) F YW (λa i o ho=>?_) (λa=>?_) Ys (-1)
  ·have bX:=(VU.1 ho).1
   have hg:aB w.aj (i:Int)=YW o:=by rw[aP];omega
   have hi:aM ((i:Int)+1)=((i+1:Nat):Int):=bG bX Yn;have hok:=mX hf hv ho;unfold iE;simp
   by_cases u9:o.aO<o.aK.length
   ·obtain⟨t,htg,zh⟩:=D0 hf hv ho hok.aO.1 u9
    obtain⟨t1,t2,t3,t4,t5⟩:=cY hf.fC uF zh
    grind
   ·have ze:=hok.aO.2
    grind
  ·unfold iE
   simp
 unfold gQ
 grind
end
theorem Ky{w:ax}(hf:rF w)(hv:fB w=YY)(ho:w.aj[i]?=YW o):∃b,gw w o=YW b/\kT w (i:Int)=YW b/\(b=YZ->0<o.aK.length):=by
 have hok:=mX hf hv ho;have hl:=hf.aK o (VW ho);obtain⟨c1,c2,c3⟩:=s8 hok.aO hl;have hg:aB w.aj (i:Int)=YW o:=by rw[aP];omega
 unfold gw kT;rw[hg];simp only[VT]
 rcases hok.cases with⟨k1,k2⟩ |⟨k1,k2⟩ |⟨k1,k2,k3⟩
 ·have zJ:bd o=o.aO:=by unfold bd;omega
  have ze:=hok.aO;have hh:fe w.aa o=YW o.place:=by unfold fe;grind
  rw[Nu,c3,zJ]
  by_cases u9:o.aO=o.aK.length
  ·simp_all
  ·exact⟨YZ,by grind,by grind,λ_=>Yn⟩
 ·have zJ:bd o=o.aO+1:=by unfold bd;omega
  have ze:=hok.aO;obtain⟨t,htg,zh⟩:=D0 hf hv ho hok.aO.1 k2;obtain⟨y,hy,_⟩:=fp hf.fC zh;have hh:fe w.aa o=YW y.aY:=by unfold fe;grind
  rw[Nu,hh,c1,c3,zJ,if_neg (show ¬(o.aK.length:Int)<o.aO+1 by omega),k1]
  simp only[VT]
  cases Y0 (o.aO+1=(o.aK.length:Int))with
  |true=>grind
  |false=>grind
 simp_all
def lf(bI:Int)(s0:Int×Int×Int×Int×(List bP)×(List Int)×(List az)×(List aq)×(List av)×(List br)×(List Int)):Option ((Int×Int×Int×Int×(List bP)×(List Int)×(List az)×(List aq)×(List av)×(List br)×(List Int))⊕(Int×Int×Int×(List bP)×(List Int)×(List az)×(List aq)×(List av)×(List br)×(List Int))):=
 cond (Y0 (s0.1<240))
 ((mT (⟨(⟨s0.2.2.2.2.1,s0.2.2.2.2.2.1,s0.2.1⟩:ah),s0.2.2.2.2.2.2.1,s0.2.2.2.2.2.2.2.1,s0.2.2.2.2.2.2.2.2.1,s0.2.2.1,s0.2.2.2.2.2.2.2.2.2.1,s0.2.2.2.2.2.2.2.2.2.2,s0.2.2.2.1⟩:ax)).bind λy4=>
 cond (Y0 (y4<0))
 (YW (.inr (s0.2.1,s0.2.2.1,s0.2.2.2.1,s0.2.2.2.2.1,s0.2.2.2.2.2.1,s0.2.2.2.2.2.2.1,s0.2.2.2.2.2.2.2.1,s0.2.2.2.2.2.2.2.2.1,s0.2.2.2.2.2.2.2.2.2.1,s0.2.2.2.2.2.2.2.2.2.2)))
 (cond (Y0 (bI<y4))
 (YW (.inr (s0.2.1,s0.2.2.1,s0.2.2.2.1,s0.2.2.2.2.1,s0.2.2.2.2.2.1,s0.2.2.2.2.2.2.1,s0.2.2.2.2.2.2.2.1,s0.2.2.2.2.2.2.2.2.1,s0.2.2.2.2.2.2.2.2.2.1,s0.2.2.2.2.2.2.2.2.2.2)))
 ((bq [1,2,3,4,5,6,7,8]).bind λ_=>
 (nS (⟨(⟨s0.2.2.2.2.1,s0.2.2.2.2.2.1,s0.2.1⟩:ah),s0.2.2.2.2.2.2.1,s0.2.2.2.2.2.2.2.1,s0.2.2.2.2.2.2.2.2.1,s0.2.2.1,s0.2.2.2.2.2.2.2.2.2.1,s0.2.2.2.2.2.2.2.2.2.2,s0.2.2.2.1⟩:ax) y4).bind λy5=>
 YW (.inl ((aM (s0.1+1)),y5.aa.change,y5.now,y5.bg,y5.aa.aA,y5.aa.off,y5.aj,y5.au,y5.ae,y5.aN,y5.skip)))))
 (YW (.inr (s0.2.1,s0.2.2.1,s0.2.2.2.1,s0.2.2.2.2.1,s0.2.2.2.2.2.1,s0.2.2.2.2.2.2.1,s0.2.2.2.2.2.2.2.1,s0.2.2.2.2.2.2.2.2.1,s0.2.2.2.2.2.2.2.2.2.1,s0.2.2.2.2.2.2.2.2.2.2)))
instance (bI:Int):bp (lf bI):=⟨λs0=>(.un::vi bI::.un::.un::.be 0 0 0::.be 1 0 0::vi s0.1::(U 32 [])),λs0=>[YW ⟨.of 33,10,[[.v (.slice YX 0 0),.v (.slice YX 0 0),vi 0,.v (.slice YX 0 0),.v (.slice YX 0 0),.v (.slice YX 0 0),vi 0,.v (.slice YX 0 0),.v (.slice YX 0 0),vi 0]]⟩,YW ⟨.of 33,10,[[.ms 2,.ms 3,vi s0.2.1,.ms 4,.ms 5,.ms 6,vi s0.2.2.1,.ms 7,.ms 8,vi s0.2.2.2.1]]⟩,YW ⟨.of 144,6,s0.2.2.2.2.1.map bo⟩,YW ⟨.of 3,1,s0.2.2.2.2.2.1.map aG⟩,YW ⟨.of 94,11,s0.2.2.2.2.2.2.1.map aZ⟩,YW ⟨.of 147,4,s0.2.2.2.2.2.2.2.1.map aC⟩,YW ⟨.of 46,2,s0.2.2.2.2.2.2.2.2.1.map aU⟩,YW ⟨.of 151,6,s0.2.2.2.2.2.2.2.2.2.1.map bw⟩,YW ⟨.of 3,1,s0.2.2.2.2.2.2.2.2.2.2.map aG⟩]⟩
def fO(w:ax)(bI:Int):Option ax:=
 (eC w).bind λy1=>
 (fT w).bind λy2=>
 cond (!y2)
 (YW y1)
 ((bb bI w.now 100000).bind λy3=>
 cond (!y3)
 (YW y1)
 ((aE (lf bI) NN (0,y1.aa.change,y1.now,y1.bg,y1.aa.aA,y1.aa.off,y1.aj,y1.au,y1.ae,y1.aN,y1.skip)).bind (λo0=>
 YW (⟨(⟨o0.2.2.2.1,o0.2.2.2.2.1,o0.1⟩:ah),o0.2.2.2.2.2.1,o0.2.2.2.2.2.2.1,o0.2.2.2.2.2.2.2.1,bI,o0.2.2.2.2.2.2.2.2.1,o0.2.2.2.2.2.2.2.2.2,o0.2.2.1⟩:ax))))
instance (w:ax)(bI:Int):CT prog (fO w bI):=⟨179,[.ag (gK w),vi bI],[],λr=>.ag [.ms 0,.ms 1,vi r.aa.change,.ms 2,.ms 3,.ms 4,vi r.now,.ms 5,.ms 6,vi r.bg],λr=>[YW ⟨.of 144,6,r.aa.aA.map bo⟩,YW ⟨.of 3,1,r.aa.off.map aG⟩,YW ⟨.of 94,11,r.aj.map aZ⟩,YW ⟨.of 147,4,r.au.map aC⟩,YW ⟨.of 46,2,r.ae.map aU⟩,YW ⟨.of 151,6,r.aN.map bw⟩,YW ⟨.of 3,1,r.skip.map aG⟩],cw (fO.eq_1 ..) func179 ntmps179 results179⟩
def ma(w:ax)(s0:Int×(List Int)):Option ((Int×(List Int))⊕(List Int)):=
 cond (Y0 (s0.1<(w.aj.length:Int)))
 ((kT w s0.1).bind λy2=>
 cond y2
 ((cr (bn ((s0.2:List Int).length+([(aM (s0.1+1))]:List Int).length) 8)).bind λ_=>
 YW (.inl ((aM (s0.1+1)),((s0.2:List Int)++[(aM (s0.1+1))]))))
 (YW (.inl ((aM (s0.1+1)),s0.2))))
 (YW (.inr s0.2))
instance (w:ax):bp (ma w):=⟨λs0=>(.un::.be 0 0 0::.un::.ms 1::vi s0.1::(U 21 [])),λs0=>[YW ⟨.of 33,10,[[.sl (w.aa.aA.map bo),.sl (w.aa.off.map aG),vi w.aa.change,.sl (w.aj.map aZ),.sl (w.au.map aC),.sl (w.ae.map aU),vi w.now,.sl (w.aN.map bw),.sl (w.skip.map aG),vi w.bg]]⟩,YW ⟨.of 3,1,s0.2.map aG⟩]⟩
def iw(w:ax):Option (List Int):=
 (fT w).bind λy1=>
 cond (!y1)
 (YW ([]:List Int))
 ((aE (ma w) NN (0,([]:List Int))).bind (λo0=>
 YW o0))
instance (w:ax):CT prog (iw w):=⟨233,[.ag (gK w)],[],λr=>.ms 0,λr=>[YW ⟨.of 3,1,r.map aG⟩],cw (iw.eq_1 ..) func233 ntmps233 results233⟩
end Go.Proofs.YtdilaemengjipaaGreatDoor
