/- A part of the proof of the statement in the last file of this claim: texts on the language of the program and on its functions. No condition. -/
import Derived.Test.YtdilaemengjipaaGreatDoorCJ39
import Derived.Test.YtdilaemengjipaaGreatDoorCJ35
import Derived.Test.YtdilaemengjipaaGreatDoorCJ28
import Derived.Test.YtdilaemengjipaaGreatDoorCJ29
import Derived.Test.YtdilaemengjipaaGreatDoorCJ38
import Derived.Test.YtdilaemengjipaaGreatDoorCJ31
import Derived.Test.YtdilaemengjipaaGreatDoorCJ13
import Derived.Test.YtdilaemengjipaaGreatDoorCJ32
import Derived.Test.YtdilaemengjipaaGreatDoorCJ34
import Derived.Test.YtdilaemengjipaaGreatDoorCJ4
import Derived.Test.YtdilaemengjipaaGreatDoorCJ7
import Derived.Test.YtdilaemengjipaaGreatDoorCJ16
import Derived.Test.YtdilaemengjipaaGreatDoorCJ26
import Derived.Test.YtdilaemengjipaaGreatDoorCJ20
import Derived.Test.YtdilaemengjipaaGreatDoorCJ25
import Derived.Test.YtdilaemengjipaaGreatDoorCJ33
import Derived.Test.YtdilaemengjipaaGreatDoorCJ40
import Derived.Test.YtdilaemengjipaaGreatDoorCJ1
set_option linter.unusedVariables false
set_option linter.unusedSimpArgs false
set_option linter.unusedSectionVars false
open Option renaming some->YW,none->YX
open Bool renaming true->YY,false->YZ
open Decidable renaming decide->Y0
set_option maxHeartbeats 40000000
namespace Go.Proofs.YtdilaemengjipaaGreatDoor
open List renaming getElem?_eq_some_iff->VU,length_cons->V0,length_nil->V1,getElem?_eq_getElem->VV,getElem_mem->Wp,getElem_of_mem->Wf,mem_of_getElem?->VW,mem_append->Wi,length_append->VZ,mem_cons->V5,mem_singleton->Wh,length_take->Wg,take_succ_cons->WU,mem_of_mem_take->Wt,drop_zero->X8,take_take->XE
open Option renaming bind_some->VT,getD_some->Xj
open Nat renaming le_refl->VY,zero_add->Wc,le_trans->Wr,min_eq_left->X4
open Option.some renaming inj->VX
open Bool renaming not_true->V3,not_false->WD
set_option maxRecDepth 10000
open Go.RowKit
variable {K:Nat}{a:ba}{l:List ba}{p:aL}{w:ax}{x y:aF}{α ο σ:Type}{body:σ->Option (σ⊕ο)}
theorem countP_set(p:α->Bool):∀{l:List α} {i:Nat} {o:α} (x:α),l[i]?=YW o->(l.set i x).countP p+(if p o=YY then 1 else 0)=l.countP p+(if p x=YY then 1 else 0)
 | [],_,_,_,h=>by grind
 |a::l,0,o,x,h=>by
  grind
 |a::l,i+1,o,x,h=>by
  grind
theorem JV(p:az->Bool):∀(os:List az) (i:Nat),(qi p i os).Pairwise (· < ·)
 | [],_=>List.Pairwise.nil
 |o::os,i=>by
  refine List.pairwise_append.2 ⟨by cases p o<;>simp,JV p os (i+1),λa ha b hb=>?_⟩
  obtain⟨j,o',_,_,rfl⟩:=wD.1 hb
  grind
theorem BV.same{w w':ax}(h:BV w)(k:qv w w'):BV w':=by
 refine⟨by rw[k.ae];exact h.ae,by rw[k.aN];exact h.aN,by rw[k.skip];exact h.skip,by rw[k.aN,k.bg];exact h.bg,?_,?_⟩
 ·have:=h.cl
  unfold rZ at this⊢
  rw[k.ae,k.aa];omega
 ·have:=h.sc
  unfold wX at this⊢
  rw[k.aN,k.aa,k.now];omega
def Q9(n:ah)(ae:List av)(now:Int)(bs:List aq)(i:Nat)(o:az):Prop:=(∃x,bS n bs ae (gC n o) o.aY (atR n now o) o.ab=YW (x,YZ))\/
 ∃aK,bS n bs ae (gC n o) o.aY (atR n now o) o.ab=YW (aK,YY)/\cx n bs ((i+1:Nat):Int) o.ab aK=YW (bs,YZ)
structure FM(w x:ax)(n:Nat):Prop where
 ok:qw x
 same:qv w x
 num:n+x.aj.countP (eY w.aa)=w.aj.countP (eY w.aa)
 ord:∀(i:Nat) (o:az),w.aj[i]?=YW o->∃o',x.aj[i]?=YW o'/\rn w.aa o o'/\(o'=o\/eY w.aa o=YY/\eY w.aa o'=YZ)
 YX:∀(i:Nat) (o:az),w.aj[i]?=YW o->x.aj[i]?=YW o->eY w.aa o=YY->∃bs,(∀b∈bs,b∈x.au)/\cu w.aa bs=YY/\Q9 w.aa w.ae w.now bs i o
theorem Ha{n:ah}{o:az}(h:eY n o=YY):¬o.state=3/\bd o=o.aK.length/\¬gC n o=o.aY/\mh o=[]/\cg o=o.aK:=by
 unfold eY at h
 simp at h
 refine⟨h.1.1,h.1.2,h.2,?_,?_⟩
 ·unfold mh
  simp_all
 ·unfold cg
  simp_all
theorem vV(h:qw w):iw w=YW (qi (eY w.aa) 0 w.aj):=by
 have hor:=h.fit.aj;unfold iw;rw[qg h.fit,h.ok];rw[Ie hor (p:=eY w.aa) (λi out o ho hlen=>?_) (λout=>by unfold ma;simp)]
 ·rfl
 ·have bX:=(VU.1 ho).1
  have hi:aM ((i:Int)+1)=((i+1:Nat):Int):=bG bX Yn;obtain⟨b,b1,b2,_⟩:=Ky h.fit h.ok ho;rw[DT h ho]at b1
  unfold ma;simp only[V0,V1,M5 (show out.length<=1048576 by omega)]
  grind
theorem DB(h:qw w):∃(x:ax) (n:Nat),iQ w=YW (x,(n:Int))/\dV w=YW (x,(n:Int))/\FM w x n:=by
 have hf:=h.fit;obtain⟨p1,p2,p3,p4,p5,p6,p7⟩:=h.parts
 let ids:=qi (eY w.aa) 0 w.aj
 have ZiL:ids.length<=30:=by
  rw[uc];grind
 have hpw:ids.Pairwise (· < ·):=JV _ _ _
 unfold iQ dV;rw[ya hf,wk hf,VT,VT,Hc h,vV h,VT,VT];have key:∃r r',aE (ee ids) NN (0,0,qq w)=YW r/\aE (eB ids) NN (0,qq w)=YW r'/\∃(u:ax) (m:Nat),r=((m:Int),qq u)/\r'=qq u/\FM w u m:=by
  refine Tc (fun(k:Nat) (s:Int×Int×Int×Int×Int×(List bP)×(List Int)×(List az)×(List aq)×(List av)×(List br)×(List Int)) (s':Int×Int×Int×Int×(List bP)×(List Int)×(List az)×(List aq)×(List av)×(List br)×(List Int))=>
   ∃(a:Nat) (u:ax) (m:Nat),s=((m:Int),(a:Int),qq u)/\s'=((a:Int),qq u)/\a+k=ids.length/\qw u/\qv w u/\m<=a/\m+u.aj.countP (eY w.aa)=w.aj.countP (eY w.aa)/\
   (∀(i:Nat) (o:az),w.aj[i]?=YW o->∃o',u.aj[i]?=YW o'/\rn w.aa o o'/\(o'=o\/eY w.aa o=YY/\eY w.aa o'=YZ))/\
   (∀(i:Nat) (o:az),w.aj[i]?=YW o->(∀b,b<a->¬ids[b]?=YW ((i+1:Nat):Int))->u.aj[i]?=YW o)/\
   (∀(i:Nat) (o:az),w.aj[i]?=YW o->u.aj[i]?=YW o->eY w.aa o=YY->(∃b,b<a/\ids[b]?=YW ((i+1:Nat):Int))->∃bs,(∀b∈bs,b∈u.au)/\cu w.aa bs=YY/\Q9 w.aa w.ae w.now bs i o)) (λk s s' hs=>?_) NN ids.length _ _
   ⟨0,w,0,rfl,rfl,Yn,h,qv.refl w,VY _,Wc _,λi o ho=>⟨o,ho,Or.inl rfl,.inl rfl⟩,λi o ho _=>ho,λi o _ _ _ hb=>Yn⟩ Ys
  obtain⟨a,u,m,rfl,rfl,hk,hu,hS,hma,Zfn,hold,uU,SA⟩:=hs
  by_cases bX:a<ids.length
  ·have hd:Y0 ((a:Int)<(ids.length:Int))=true:=Ya Yn
   have hwa:aM ((a:Int)+1)=((a+1:Nat):Int):=by rw[aR Yn];omega
   have hwm:aM ((m:Int)+1)=((m+1:Nat):Int):=by rw[aR Yn];omega
   have hia:ids[a]?=YW ids[a]:=VV bX;have hga:aB ids (a:Int)=YW ids[a]:=by rw[aP];omega
   obtain⟨i,o,hio,u0,hx⟩:=wD.1 (Wp bX);rw[Wc]at hx
   have uq:ids[a]=((i+1:Nat):Int):=hx;have ZiK:i<30:=by grind
   have LF:u.aj[i]?=YW o:=uU i o hio λb hb e=>by
    have zI:b<ids.length:=Yn;rw[VV zI]at e
    have:=List.pairwise_iff_getElem.1 hpw b a zI bX hb
    grind
   obtain⟨hU,hRs⟩:=tl hu;obtain⟨r1,r2,r3,r4,r5⟩:=Ha u0;have uF:u.aa=w.aa:=hS.aa;obtain⟨u',e2,e,hR,hU'⟩:=B6 hU LF r1 Yr;obtain⟨s1,⟨o',o1,o2⟩,s3⟩:=Ka hU.fit.fC hR LF;rw[uF]at o2
   have tR:qw u':=by
    refine KK ?_ (hRs.same s1);have ef:(λj=>if j=i then u.ae else u.ae)=λ_:Nat=>u'.ae:=by
     funext j;rw[s1.ae];simp
    grind
   have Zb2:gI u i o=u.au:=by unfold gI;rw[r4];exact O0 _ _
   have Pn:=DT tR o1;have Zfl:u'.aa=w.aa:=s1.aa.trans uF;rw[Zfl]at Pn
   have BE:aM (((i+1:Nat):Int)-1)=(i:Int):=by rw[aR Yn];omega
   have hgo:aB u'.aj (i:Int)=YW o':=by rw[aP];omega
   have e':fm ⟨⟨u.aa.aA,u.aa.off,u.aa.change⟩,u.aj,u.au,u.ae,u.now,u.aN,u.skip,u.bg⟩ ((i+1:Nat):Int)=YW u':=e;have ye:eQ ⟨⟨u.aa.aA,u.aa.off,u.aa.change⟩,u.aj,u.au,u.ae,u.now,u.aN,u.skip,u.bg⟩ (i:Int)=YW u':=e2;have AF:eB ids ((a:Int),qq u)=YW (.inl (((a+1:Nat):Int),qq u')):=by
    unfold eB;simp only[qq,hd,Yj,hga,VT,bq,uq,BE,ye,hwa]
   have him:∀v,eY w.aa o'=v->ee ids ((m:Int),(a:Int),qq u)=YW (.inl ((((if v=YY then m else m+1):Nat):Int),((a+1:Nat):Int),qq u')):=λv hv=>by
    unfold ee;simp only[qq,hd,Yj,hga,VT,bq,uq,BE,e',hgo,hwa]
    grind
   rcases hR with⟨wU,I6⟩ |⟨aK,bs,hN,I6⟩
   · -- nothing is found: all stays
    have huu:u'=u:=by
     have zK:u.aj.set i o=u.aj:=by
      refine List.ext_getElem? λj=>?_
      grind
     rw[I6,Zb2,r5];show(⟨u.aa,u.aj.set i o,u.au,u.ae,u.now,u.aN,u.skip,u.bg⟩:ax)=u;rw[zK]
    rw[huu]at o1 AF him
    rw[LF]at o1
    obtain rfl:=VX o1;refine .inl ⟨_,_,k-1,him _ u0,AF,Yn,a+1,u,m,by rfl,rfl,Yn,hu,hS,Yn,Zfn,hold,λj x hj hb=>uU j x hj λb hba=>hb b Yn,λj x hj hux hsx hb=>?_⟩
    obtain⟨b,qZ,xJ⟩:=hb
    by_cases hba:b<a
    ·exact SA j x hj hux hsx ⟨b,hba,xJ⟩
    ·have hbe:b=a:=Yn
     subst hbe;rw[hia,uq]at xJ
     have Gc:j=i:=by grind
     subst Gc;rw[hio]at hj
     obtain rfl:=VX hj;refine⟨u.au,λb hb=>hb,by rw[<-uF];exact hU.mq,?_⟩
     have Sz:=wU;unfold Q8 at Sz
     rw[Zb2,uF,hS.ae,hS.now]at Sz
     exact Sz
   · -- a aK is found
    have ZiW:¬aK=[]:=λhw=>by
     have hl:=hN.KH.last
     grind
    have zg:o'=gh o (cg o++aK):=by
     rw[I6]at o1
     have:(u.aj.set i (gh o (cg o++aK)))[i]?=YW o':=o1
     grind
    have Sk:eY w.aa o'=false:=by
     have zJ:bd o'=bd o:=by rw[zg];rfl
     have UQ:0<aK.length:=by grind
     have hol:o'.aK.length=o.aK.length+aK.length:=by
      rw[zg];show(cg o++aK).length=_
      simp_all
     unfold eY
     grind
    have xK:u'.au=bs:=by rw[I6];rfl
    have vz:∀b∈u.au,b∈u'.au:=λb hb=>by
     rw[xK];exact hN.perm.mem_iff.2 (List.mem_append_left _ Yv)
    have Ze2:=countP_set (eY w.aa) (gh o (cg o++aK)) LF;rw[<-zg,u0,Sk]at Ze2
    have hou:u'.aj=u.aj.set i o':=by rw[I6,zg];rfl
    simp only[if_true,Bool.false_eq_true,if_false]at Ze2
    refine .inl ⟨_,_,k-1,him _ Sk,AF,Yn,a+1,u',m+1,by simp,rfl,Yn,tR,hS.trans s1,Yn,by grind,λj x hj=>?_,λj x hj hb=>?_,λj x hj hux hsx hb=>?_⟩
    ·grind
    ·grind
    ·have Gc:¬j=i:=λe=>by
      grind
     rw[s3 j Gc]at hux
     obtain⟨b,qZ,xJ⟩:=hb;have hba:b<a:=by
      grind
     obtain⟨bs',q1,q2,q3⟩:=SA j x hj hux hsx ⟨b,hba,xJ⟩
     grind
  ·have hd:Y0 ((a:Int)<(ids.length:Int))=false:=Yg Yn
   refine .inr ⟨((m:Int),qq u),qq u,?_,?_,u,m,rfl,rfl,hu,hS,Zfn,hold,λi o ho LF u0=>SA i o ho LF u0 ?_⟩
   ·unfold ee
    grind
   ·unfold eB
    grind
   ·have hm:((0+i+1:Nat):Int)∈ids:=wD.2 ⟨i,o,ho,u0,rfl⟩
    rw[Wc]at hm
    obtain⟨b,hb,hbe⟩:=Wf hm;exact⟨b,Yn,by simp_all⟩
 obtain⟨r,r',e,e2,u,m,rfl,rfl,hR⟩:=key;have e':aE (ee (qi (eY w.aa) 0 w.aj)) NN (0,0,w.aa.change,w.now,w.bg,w.aa.aA,w.aa.off,w.aj,w.au,w.ae,w.aN,w.skip)=YW ((m:Int),qq u):=e;have ye:aE (eB (qi (eY w.aa) 0 w.aj)) NN (0,w.aa.change,w.now,w.bg,w.aa.aA,w.aa.off,w.aj,w.au,w.ae,w.aN,w.skip)=YW (qq u):=e2;rw[e',ye];refine⟨u,m,rfl,?_,hR⟩;have hsu:=vV hR.ok;have Zho:iw ⟨⟨u.aa.aA,u.aa.off,u.aa.change⟩,u.aj,u.au,u.ae,u.now,u.aN,u.skip,u.bg⟩=YW (qi (eY u.aa) 0 u.aj):=hsu;simp only[qq,VT,Zho];have hn:=hR.num;have hnn:eY u.aa=eY w.aa:=by rw[hR.same.aa]
 rw[uc,uc,hnn];have hc:w.aj.countP (eY w.aa)<=30:=Wr List.countP_le_length p2;rw[aR Yn,show((w.aj.countP (eY w.aa):Nat):Int)-((u.aj.countP (eY w.aa):Nat):Int)=(m:Int)by omega]
structure PF(p:aL):Prop where
 aY:p.label.aY.size<=sy
 ar:p.ar.size<=sy
 bE:p.bE.length<=1048576
structure OF(o:aF):Prop where
 world:rF o.world
 aS:sQ o.aS
 aT:o.aT.length<=1048576
 wP:o.aI.length<=1048576
 lines:o.lines.length<=1048576
 aH:o.aH.length<=1048576
 aD:o.aD.length<=1048576
 pf:∀p∈o.aH,PF p
 af:∀a∈o.aD,PF a.aJ
theorem PF.fit(h:PF p):p.label.aY.size<=sy/\p.ar.size<=sy/\p.bE.length<NN:=⟨h.aY,h.ar,by have:=h.bE;unfold NN;omega⟩
theorem OF.fit{o:aF}(h:OF o):Zef o:=⟨h.world,h.aS,h.aT,h.wP,h.lines,h.aH,h.aD,λp hp=>(h.pf p hp).fit,λa ha=>(h.af a ha).fit⟩
theorem FX(h:PF p):fN p=YW p:=by
 unfold fN;rw[ff (by have:=h.bE;grind) Yn];rfl
theorem Bw(h:PF p):gW p=YW p:=by
 unfold gW;rw[xl h.bE];rfl
theorem Nb(h:PF a.aJ):eE a=YW a:=by
 unfold eE;rw[FX h];rfl
theorem yx{xs:List α}{body:Int×List α->Option ((Int×List α)⊕List α)}(h1:∀(i:Nat) x,xs[i]?=YW x->body ((i:Int),xs.take i)=YW (.inl (((i+1:Nat):Int),xs.take i++[x])))
 (h2:body ((xs.length:Int),xs)=YW (.inr xs)) (hN:xs.length<NN):aE body NN (0,[])=YW xs:=by
 refine mD (λi=>(((i:Nat):Int),xs.take i)) (n:=xs.length) (λi hi=>?_) Yr NN hN
 simp_all
theorem wi{x:α}{n c:Nat}(h:n<=1048576)(hc:c<=1024):cr (bn (n+([x]:List α).length) c)=YW ():=ku (by unfold bn;rw[Yl,show([x]:List α).length=1 from rfl];exact⟨Yn,Wr (Nat.mul_le_mul (show n+1<=1048577 by omega) hc) Yn⟩)
section
variable {o:aF} (h:OF o)
include h
theorem Nd:dt o=YW o:=by
 have e0:∀y1 y2,aE (gR o y1 y2) NN (0,[])=YW o.aH:=λy1 y2=>by
  refine yx (λi x hx=>?_) (by unfold gR;simp) (by have:=h.aH;unfold NN;omega)
  have bX:=(VU.1 hx).1;have hp:=h.aH;unfold gR;simp only[Ya (show(i:Int)<o.aH.length by omega),aP,hx,VT,FX (h.pf x (VW hx)),bG bX Yn]
  rw[wi Yr Yn];rfl
 have e1:∀y1 y2 o0,aE (gS o y1 y2 o0) NN (0,[])=YW o.aD:=λy1 y2 o0=>by
  refine yx (λi x hx=>?_) (by unfold gS;simp) (by have:=h.aD;unfold NN;omega)
  have bX:=(VU.1 hx).1;have hp:=h.aD;unfold gS;simp only[Ya (show(i:Int)<o.aD.length by omega),aP,hx,VT,Nb (h.af x (VW hx)),bG bX Yn]
  rw[wi Yr Yn];rfl
 show(dL o.world).bind _=_;rw[ya h.world,VT,ff (by have:=h.aS.1;grind) Yn,VT,ff (by have:=h.aT;grind) Yn,VT,ff (by have:=h.wP;grind) Yn,VT,yA h.lines,VT,e0,VT,e1]
 rfl
theorem Bv:gf o=YW o:=by
 have e0:∀y1 y2 y3,aE (jT o y1 y2 y3) NN (0,[])=YW o.aH:=λy1 y2 y3=>by
  refine yx (λi x hx=>?_) (by unfold jT;simp) (by have:=h.aH;unfold NN;omega)
  have bX:=(VU.1 hx).1;have hp:=h.aH;unfold jT;simp only[Ya (show(i:Int)<o.aH.length by omega),aP,hx,VT,Bw (h.pf x (VW hx)),bG bX Yn]
  rw[wi Yr Yn];rfl
 have e1:∀y1 y2 y3 o0,aE (jU o y1 y2 y3 o0) NN (0,[])=YW o.aD:=λy1 y2 y3 o0=>by
  refine yx (λi x hx=>?_) (by unfold jU;simp) (by have:=h.aD;unfold NN;omega)
  have bX:=(VU.1 hx).1;have hp:=h.aD;unfold jU;simp only[Ya (show(i:Int)<o.aD.length by omega),aP,hx,VT,Bw (h.af x (VW hx)),bG bX Yn]
  rw[wi Yr Yn];rfl
 show(eC o.world).bind _=_;rw[wk h.world,VT,ff (by have:=h.aS.1;grind) Yn,VT,ff (by have:=h.aT;grind) Yn,VT,xl h.wP,VT,yB h.lines,VT,e0,VT,e1]
 rfl
end
structure MX(o:aF)(p:aL)(x:aF):Prop where
 mr:∃v aK ys eJ,iu o.aS o.aT p=YW (v,YY)/\¬v=0/\Re o.world p.ar p.label.aY p.label.aw p.ab (x.world,(o.world.aj.length:Int)+1,YY) aK ys eJ/\s7 o.lines ((o.world.aj.length:Int)+1) v o.world.now=(x.lines,0)/\eO o.world p.ar p.label.aY p.label.aw p.ab=YW (x.world,(o.world.aj.length:Int)+1,YY)
 aS:x.aS=o.aS
 aT:x.aT=o.aT
 wP:x.aI=o.aI
 aH:x.aH=o.aH++[p]
 aD:x.aD=o.aD
section
variable {o:aF} (h:OF o) (hv:fB o.world=YY)
include h hv
theorem QH(hp:PF p):∃r,nR o p=YW r/\lX o p=YW r/\(¬r.1=0/\r.2=o\/r.1=0/\MX o p r.2):=by
 have hw:qw o.world:=⟨h.world,hv⟩;obtain⟨e,v,e'⟩:=Dv h.aS h.aT hp.fit.1 hp.fit.2.1 hp.fit.2.2;unfold nR lX;rw[e,e',VT,VT];obtain⟨v,ok⟩:=v
 cases ok with
 |false=>simp
 |true=>
 by_cases hz:v=0
 ·simp_all
 simp only[Yg hz];obtain⟨r,a1,a2,hr⟩:=Aq hw p.ar p.label.aY p.label.aw p.ab;show ∃r,(fx _ _ _ _ _).bind _=_/\(eO _ _ _ _ _).bind _=_/\_;rw[a1,a2]
 rcases hr with⟨rfl,_⟩ |⟨aK,ys,eJ,hT⟩
 ·simp
 have Ed:=hT.res;have CP:r.1.now=o.world.now:=by rw[Ed];rfl
 have hid:r.2.1=(o.world.aj.length:Int)+1:=by grind
 have hok:r.2.2=true:=by grind
 simp only[hok,hid,CP,RC h.lines,RD h.lines,VT,FX hp,Bw hp]
 by_cases hc:(s7 o.lines ((o.world.aj.length:Int)+1) v o.world.now).2=0
 ·rw[Ya hc,V3,wi h.aH Yn]
  refine⟨_,rfl,rfl,.inr ⟨rfl,⟨v,aK,ys,eJ,e',hz,?_,?_,?_⟩,rfl,rfl,rfl,rfl,rfl⟩⟩
  all_goals grind
 simp_all
def Hw(o:aF)(a:ba)(x:aF):Prop:=∃l y,x=⟨o.world,o.aS,o.aT,o.aI,o.aH,l,o.aD⟩/\1<=a.order/\aB o.world.aj (a.order-1)=YW y/\
 (¬a.kind=6/\JS o.lines a.order a.bC o.world.now=(l,0)\/a.kind=6/\y.state=3/\tk o.lines a.order y.eJ y.bQ o.aI o.world.now=(l,0))
theorem LV(hl:o.aH.length=o.world.aj.length)(h1:1<=a.order):∃r,ko o a=YW r/\jb o a=YW r/\(¬r.1=0/\r.2=o\/r.1=0/\Hw o a r.2):=by
 have ho:=h.world.aj;unfold ko jb;rw[cN,hl]
 by_cases h2:(o.world.aj.length:Int)<a.order
 ·rw[Ya h2,Yg (show ¬a.order<=(o.world.aj.length:Int)by omega)]
  simp
 have hw:aM (a.order-1)=a.order-1:=aR Yn;obtain⟨y,hy⟩:∃y,aB o.world.aj (a.order-1)=YW y:=by
  obtain⟨k,hk⟩:∃k:Nat,a.order-1=(k:Int):=⟨(a.order-1).toNat,Yn⟩;rw[hk];exact⟨_,VV (show k<o.world.aj.length by omega)⟩
 rw[Yg h2,Ya h1,Ya (show a.order<=(o.world.aj.length:Int)by omega)]
 simp only[hw,hy,VT,ZfT h.lines,ZfU h.lines,TV h.lines h.wP,TW h.lines h.wP]
 by_cases hk:a.kind=6
 ·simp only[Ya hk]
  by_cases hs:y.state=3
  ·simp only[Ya hs]
   by_cases hc:(tk o.lines a.order y.eJ y.bQ o.aI o.world.now).2=0
   ·simp only[Ya hc]
    exact⟨_,rfl,rfl,.inr ⟨rfl,_,y,rfl,h1,hy,.inr ⟨hk,hs,by grind⟩⟩⟩
   simp_all
  simp_all
 ·simp only[Yg hk]
  by_cases hc:(JS o.lines a.order a.bC o.world.now).2=0
  ·simp only[Ya hc]
   exact⟨_,rfl,rfl,.inr ⟨rfl,_,y,rfl,h1,hy,.inl ⟨hk,by grind⟩⟩⟩
  simp_all
def BR(o:aF)(a:ba)(x:aF):Prop:=∃w,x=⟨w,o.aS,o.aT,o.aI,o.aH,o.lines,o.aD⟩/\
 (a.kind=3/\o.world.now<a.bI/\w=FP o.world a.bI\/a.kind=4/\dW o.world a.bk=YW (w,YY)/\Shut o.world a.bk w\/a.kind=5/\∃n:Nat,¬n=0/\dV o.world=YW (w,(n:Int))/\FM o.world w n)
theorem PN(hk:a.kind=3/\a.bI<=100000\/a.kind=4\/a.kind=5):∃r,lz o a=YW r/\(¬r.1=0/\r.2=o\/r.1=0/\BR o a r.2)/\
 (cond (Y0 (a.kind=3)) (cond (Y0 (a.bI<=o.world.now)) (YW (6,o)) ((oe 8 []).bind λ_=>(fO o.world a.bI).bind λy3=>YW (0,(⟨y3,o.aS,o.aT,o.aI,o.aH,o.lines,o.aD⟩:aF))))
  (cond (Y0 (a.kind=4)) ((oe 8 []).bind λ_=>(dW o.world a.bk).bind λy4=>cond (!y4.2) (YW (6,o)) (YW (0,(⟨y4.1,o.aS,o.aT,o.aI,o.aH,o.lines,o.aD⟩:aF))))
  ((dV o.world).bind λy5=>cond (Y0 (y5.2=0)) (YW (6,o)) (YW (0,(⟨y5.1,o.aS,o.aT,o.aI,o.aH,o.lines,o.aD⟩:aF))))):Option (Int×aF))=YW r:=by
 have hw:qw o.world:=⟨h.world,hv⟩;unfold lz
 rcases hk with⟨hk,hu⟩ |hk|hk
 ·simp only[hk]
  by_cases hc:a.bI<=o.world.now
  ·simp_all
  ·have hif:fB o.world=YY/\o.world.now<=a.bI/\a.bI<=100000:=⟨hv,Yn,hu⟩
   simp only[Yg hc,Oz h.world,if_pos hif];refine⟨_,rfl,.inr ⟨rfl,_,rfl,.inl ⟨hk,Yn,rfl⟩⟩,?_⟩;rw[zm h.world,if_pos hif];rfl
 ·simp only[hk]
  obtain⟨r,e1,e2,hr⟩:=Fq hw a.bk;rw[e1]
  rcases hr with rfl|⟨x,rfl,hS⟩
  ·refine⟨_,rfl,.inl ⟨by simp,rfl⟩,?_⟩
   show(dW o.world a.bk).bind _=_
   grind
  ·refine⟨_,rfl,.inr ⟨rfl,_,rfl,.inr (.inl ⟨hk,e2,hS⟩)⟩,?_⟩
   show(dW o.world a.bk).bind _=_
   grind
 ·simp only[hk]
  obtain⟨x,n,e1,e2,hR⟩:=DB hw;have ye:=e2;rw[e1,ye];simp only[VT]
  by_cases hn:n=0
  ·simp_all
  ·simp only[Yg (show ¬((n:Int)=0)by omega)]
   exact⟨_,rfl,.inr ⟨rfl,_,rfl,.inr (.inr ⟨hk,n,hn,e2,hR⟩)⟩,rfl⟩
end
theorem BY(h1:a.aJ.label.aY.size<=sy)(h2:a.aJ.ar.size<=sy)(h3:a.aJ.bE.length<NN)(h:bT a=YW YY):
 (a.kind=1\/(a.kind=2\/a.kind=6)/\1<=a.order\/(a.kind=3/\a.bI<=100000\/a.kind=4\/a.kind=5)):=by
 unfold bT at h
 simp only[mE,gY,cN]at h
 grind
theorem qK{o:aF}(h:fK o=YY):fB o.world=YY/\rU o.aS=YY/\rT o.aT (o.aS.length:Int)=YY/\oT o.aI=YY/\hZ (o.lines.map cW)=YY/\o.aH.length=o.world.aj.length/\o.aD.length<=150/\allI (oF o) 0 o.aH=YY/\allI (uX o) 0 o.lines=YY/\allI FO 0 o.aD=true:=by
 unfold fK at h
 grind
theorem tY{o:aF}(a:fB o.world=YY)(b:rU o.aS=YY)(c:rT o.aT (o.aS.length:Int)=YY)(d:oT o.aI=YY)(e:hZ (o.lines.map cW)=YY)(f:o.aH.length=o.world.aj.length)(g:o.aD.length<=150)(i:allI (oF o) 0 o.aH=YY)(j:allI (uX o) 0 o.lines=YY)(k:allI FO 0 o.aD=YY):fK o=true:=by
 unfold fK
 grind
def KI(y:aF)(j:List ba):aF:=⟨y.world,y.aS,y.aT,y.aI,y.aH,y.lines,j⟩
structure Q2(o:aF)(a:ba)(x:aF):Prop where
 ok:fK o=YY
 act:bT a=YW YY
 few:o.aD.length<150
 how:∃y,x=KI y (o.aD++[a])/\(a.kind=1/\MX o a.aJ y\/(a.kind=2\/a.kind=6)/\Hw o a y\/(a.kind=3\/a.kind=4\/a.kind=5)/\BR o a y)
theorem By{o:aF}(h:OF o)(ha:PF a.aJ):∃x c,fc o a=YW (x,c)/\jA o a=YW (x,c)/\(¬c=0/\x=o\/c=0/\Q2 o a x):=by
 obtain⟨b,b1,b2⟩:=BX ha.fit.1 ha.fit.2.1 ha.fit.2.2;unfold fc jA;simp only[Nd h,Bv h,I9 h.fit,AV h.fit,b1,b2]
 cases hv:fK o with
 |false=>exact⟨_,_,rfl,rfl,.inl ⟨by simp,rfl⟩⟩
 |true=>
 cases b with
 |false=>exact⟨_,_,rfl,rfl,.inl ⟨by simp,rfl⟩⟩
 |true=>
 by_cases hj:150<=o.aD.length
 ·rw[Ya (show(150:Int)<=o.aD.length by omega)]
  exact⟨_,_,rfl,rfl,.inl ⟨by simp,rfl⟩⟩
 rw[Yg (show ¬(150:Int)<=o.aD.length by omega)]
 simp only[V3,Yk,Nb ha,Bw ha,VT];have hp:=qK hv;have fin:∀{r:Int×aF} {Q:aF->Prop},(¬r.1=0/\r.2=o\/r.1=0/\Q r.2)->(∀y,Q y->y.aD=o.aD)->(∀y,Q y->(a.kind=1/\MX o a.aJ y\/(a.kind=2\/a.kind=6)/\Hw o a y\/(a.kind=3\/a.kind=4\/a.kind=5)/\BR o a y))->
  ∃x c,(cond (!decide (r.1=0)) (YW (o,r.1)) ((cr (bn ((r.2.aD:List ba).length+([a]:List ba).length) 136)).bind λ_=>YW (KI r.2 (r.2.aD++[a]),0)))=YW (x,c)/\
   (cond (!decide (r.1=0)) (YW (o,r.1)) ((cr (bn ((r.2.aD:List ba).length+([a]:List ba).length) 136)).bind λ_=>YW (KI r.2 (r.2.aD++[a]),r.1)))=YW (x,c)/\(¬c=0/\x=o\/c=0/\Q2 o a x):=λ{r Q} hr hQ hD=>by
  rcases hr with⟨hc,_⟩ |⟨hc,hq⟩
  ·rw[Yg hc]
   exact⟨_,_,rfl,rfl,.inl ⟨hc,rfl⟩⟩
  ·rw[hQ _ hq,wi Yn Yn,hc]
   exact⟨_,_,rfl,rfl,.inr ⟨rfl,hv,b1,Yn,r.2,rfl,hD _ hq⟩⟩
 rcases BY ha.fit.1 ha.fit.2.1 ha.fit.2.2 b1 with hk|⟨hk,ho⟩ |hk
 ·obtain⟨r,e1,e2,hr⟩:=QH h hp.1 ha
  unfold lB;simp only[Ya hk,e1,e2];exact fin hr (λy hy=>hy.aD) λy hy=>.inl ⟨hk,hy⟩
 ·obtain⟨r,e1,e2,hr⟩:=LV h hp.1 hp.2.2.2.2.2.1 ho
  have hq:=fin hr (λy hy=>by obtain⟨l,z,rfl,_⟩:=hy;rfl) λy hy=>.inr (.inl ⟨hk,hy⟩)
  unfold lB
  rcases hk with hk|hk
  ·simp only[Yg (show ¬a.kind=1 by omega),Ya hk,e1,e2]
   exact hq
  ·simp only[Yg (show ¬a.kind=1 by omega),Yg (show ¬a.kind=2 by omega),Ya hk,e1,e2]
   exact hq
 ·obtain⟨r,e1,hr,e2⟩:=PN h hp.1 hk
  have UM:a.kind=3\/a.kind=4\/a.kind=5:=Yn;have hq:=fin hr (λy hy=>by obtain⟨w,rfl,_⟩:=hy;rfl) λy hy=>.inr (.inr ⟨UM,hy⟩)
  unfold lB;rw[e2];rw[Yg (show ¬a.kind=1 by omega),Yg (show ¬a.kind=2 by omega),Yg (show ¬a.kind=6 by omega)]
  simp only[e1];exact hq
theorem vZ{c:Nat->α->Bool}{xs:List α}{x:α}(h:allI c 0 xs=YY)(hx:c xs.length x=YY):allI c 0 (xs++[x])=true:=by
 rw[cP]at h⊢
 grind
def Ug(z z':az):Prop:=z'.ar=z.ar/\z'.aY=z.aY/\z'.aw=z.aw/\z'.ab=z.ab
theorem ux{o y:aF}{i:Nat}(hz:y.aS=o.aS)(hr:y.aT=o.aT)(hs:fF (y.lines.map cW) (((i+1:Nat):Int)) 1=fF (o.lines.map cW) (((i+1:Nat):Int)) 1)
 (ho:∀z,o.world.aj[i]?=YW z->∃z',y.world.aj[i]?=YW z'/\Ug z z') (h:oF o i p=YY):oF y i p=true:=by
 unfold oF at h⊢
 cases hi:o.world.aj[i]? with
 |none=>rw[hi]at h;cases h
 |some z=>
  obtain⟨z',e,e1,e2,e3,e4⟩:=ho z hi;rw[hi]at h
  rw[e];rw[uw]at h⊢
  grind
structure Zee(w w':ax):Prop where
 ok:qw w'
 now:w.now<=w'.now
 len:w'.aj.length=w.aj.length
 fC:w'.aa=w.aa
 ord:∀(i:Nat) (z:az),w.aj[i]?=YW z->∃z',w'.aj[i]?=YW z'/\Ug z z'
theorem Fl{n:ah}{z z':az}(h:rn n z z'):Ug z z':=by
 rcases h with rfl|⟨more,_,rfl⟩<;>exact⟨rfl,rfl,rfl,rfl⟩
theorem LW{o x:aF}(hw:qw o.world)(hu:a.kind=3->a.bI<=100000)(h:BR o a x):Zee o.world x.world:=by
 obtain⟨w,rfl,h⟩:=h
 rcases h with⟨hk,hn,rfl⟩ |⟨_,_,hS⟩ |⟨_,n,_,_,hR⟩
 ·obtain⟨a1,a2,_⟩:=K8 hw (Int.le_of_lt hn) (hu hk)
  refine⟨a1,Int.le_of_lt hn,a2.len,a2.aa,λi z hz=>?_⟩
  have hi:=(VU.1 hz).1;have u4:=VV (show i<(FP o.world a.bI).aj.length by rw[a2.len];omega)
  have hs:=a2.ord i z _ hz u4;exact⟨_,u4,hs.ar,hs.aY,hs.aw,hs.ab⟩
 ·exact⟨hS.ok,by rw[hS.same.now];simp,hS.same.len,hS.same.aa,λi z hz=>by
   obtain⟨z',b1,_,b2⟩:=hS.ord i z hz;exact⟨z',b1,Fl b2⟩⟩
 ·exact⟨hR.ok,by rw[hR.same.now];omega,hR.same.len,hR.same.aa,λi z hz=>by
   obtain⟨z',b1,b2,_⟩:=hR.ord i z hz;exact⟨z',b1,Fl b2⟩⟩
theorem zQ{o y:aF}(hp:o.aH.length<=y.aH.length)(hn:o.world.now<=y.world.now)(h:allI (uX o) 0 o.lines=YY):allI (uX y) 0 o.lines=true:=by
 rw[cP]at h⊢
 intro j x hx;have:=h j x hx;unfold uX at this⊢
 grind
theorem Zej(ha:PF a.aJ)(h:bT a=YW YY)(i:Nat):FO i a=true:=by
 obtain⟨b,b1,b2⟩:=BX ha.fit.1 ha.fit.2.1 ha.fit.2.2;unfold FO
 grind
theorem GU{l:List bc}{x:bc}{l':List bc}(h:uY l x=(l',0)):l'=l++[x]/\hZ ((l++[x]).map cW)=YY/\l.length<200:=by
 unfold uY at h
 grind
theorem ZdA{l l':List bc}{o a t:Int}(h:JS l o a t=(l',0)):uY l ⟨o,2,a,t⟩=(l',0)/\¬Dg (l.map cW) o<a/\hZ (l.map cW)=true:=by
 unfold JS at h
 grind
theorem OL{l l':List bc}{o a t:Int}(h:s7 l o a t=(l',0)):uY l ⟨o,1,a,t⟩=(l',0)/\fF (l.map cW) o 1=0/\(1<=a/\a<=100000)/\hZ (l.map cW)=true:=by
 unfold s7 at h
 split at h;· grind
 split at h;· grind
 split at h;· grind
 have h1:hZ (l.map cW)=true:=by grind
 have h3:¬0<fF (l.map cW) o 1:=by grind
 have h2:rK o 1 a t=true:=by grind
 exact⟨h,by have:=(ZdQ h1 o 1).1;omega,Ev (x:=⟨o,1,a,t⟩) h2,h1⟩
theorem Qn{l l':List bc}{o du en t:Int}{ps:List Int}(h:tk l o du en ps t=(l',0)):uY l ⟨o,3,uI (fF (l.map cW) o 1) du en ps,t⟩=(l',0)/\hZ (l.map cW)=true:=by
 unfold tk at h
 grind
theorem Da(l:List bc)(x:bc):(l++[x]).map cW=l.map cW++[cW x]:=by simp
theorem PZ{o x:aF}(h:Hw o a x):∃z:bc,x=⟨o.world,o.aS,o.aT,o.aI,o.aH,o.lines++[z],o.aD⟩/\z.order=a.order/\¬z.kind=1/\z.aQ=o.world.now/\hZ ((o.lines++[z]).map cW)=YY/\o.lines.length<200/\1<=a.order/\a.order<=o.world.aj.length:=by
 obtain⟨l,y,rfl,h1,hy,h⟩:=h;have bX:a.order<=o.world.aj.length:=by have:=(VU.1 (nY hy).2).1;omega
 rcases h with⟨_,h⟩ |⟨_,_,h⟩
 ·obtain⟨rfl,b,c⟩:=GU (ZdA h).1
  grind
 ·obtain⟨rfl,b,c⟩:=GU (Qn h).1
  grind
theorem D1{o:aF}(ha:PF a.aJ)(hc:bT a=YW YY)(hy:OF y)(hv:fK y=YY)(hj:y.aD=o.aD)(hf:o.aD.length<150):OF (KI y (o.aD++[a]))/\fK (KI y (o.aD++[a]))=true:=by
 obtain⟨p1,p2,p3,p4,p5,p6,p7,p8,p9,p10⟩:=qK hv;refine⟨⟨hy.world,hy.aS,hy.aT,hy.wP,hy.lines,hy.aH,?_,hy.pf,λb hb=>?_⟩,tY p1 p2 p3 p4 p5 p6 ?_ p8 p9 ?_⟩
 ·show(o.aD++[a]).length<=_
  grind
 ·rcases Wi.1 hb with hb|hb
  ·exact hy.af b Yr
  grind
 ·show(o.aD++[a]).length<=_
  grind
 ·rw[hj]at p10
  exact vZ p10 (Zej ha hc _)
theorem Tg{o y:aF}(h:OF o)(hv:fK o=YY)(hu:a.kind=3->a.bI<=100000)(hm:BR o a y):OF y/\fK y=true:=by
 obtain⟨p1,p2,p3,p4,p5,p6,p7,p8,p9,p10⟩:=qK hv;have hk:=LW ⟨h.world,p1⟩ hu hm;obtain⟨w,rfl,_⟩:=hm;refine⟨⟨hk.ok.fit,h.aS,h.aT,h.wP,h.lines,h.aH,h.aD,h.pf,h.af⟩,tY hk.ok.ok p2 p3 p4 p5 (p6.trans hk.len.symm) p7 ?_ (zQ (o:=o) (y:=⟨w,o.aS,o.aT,o.aI,o.aH,o.lines,o.aD⟩) (VY _) hk.now p9) p10⟩;rw[cP]at p8⊢
 exact λj p hp=>ux (o:=o) rfl rfl rfl (hk.ord _) (p8 j p hp)
theorem ZaU{o y:aF}(h:OF o)(hv:fK o=YY)(hm:Hw o a y):OF y/\fK y=true:=by
 obtain⟨p1,p2,p3,p4,p5,p6,p7,p8,p9,p10⟩:=qK hv;obtain⟨z,rfl,z1,z2,z3,z4,z5,z6,z7⟩:=PZ hm;refine⟨⟨h.world,h.aS,h.aT,h.wP,?_,h.aH,h.aD,h.pf,h.af⟩,tY p1 p2 p3 p4 z4 p6 p7 ?_ (vZ (zQ (o:=o) (y:=⟨o.world,o.aS,o.aT,o.aI,o.aH,o.lines++[z],o.aD⟩) (VY _) (Int.le_refl _) p9) ?_) p10⟩
 ·grind
 ·rw[cP]at p8⊢
  refine λj p hp=>ux (o:=o) rfl rfl ?_ (λz hz=>⟨z,hz,rfl,rfl,rfl,rfl⟩) (p8 j p hp)
  rw[Da];exact FA λhh=>z2 hh.2
 ·unfold uX
  grind
theorem ZbH{o y:aF}(h:OF o)(hv:fK o=YY)(hp:PF p)(hm:MX o p y):OF y/\fK y=true:=by
 obtain⟨p1,p2,p3,p4,p5,p6,p7,p8,p9,p10⟩:=qK hv;obtain⟨v,aK,ys,eJ,q1,q2,q3,q4,_⟩:=hm.mr;have hw:qw o.world:=⟨h.world,p1⟩;have hpr:=hw.parts;have Ed:y.world=zl o.world (nW o.world p.ar p.label.aY p.label.aw p.ab eJ aK) ys:=congrArg (·.1) q3.res
 have Zhl:y.world.aj=o.world.aj++[nW o.world p.ar p.label.aY p.label.aw p.ab eJ aK]:=by rw[Ed];rfl
 have CP:y.world.now=o.world.now:=by rw[Ed];rfl
 have hok:qw y.world:=by rw[Ed];exact q3.ok
 obtain⟨c1,c2,c3,c4⟩:=OL q4;obtain⟨d1,d2,d3⟩:=GU c1;have hl:y.aH.length=o.aH.length+1:=by rw[hm.aH,VZ];rfl
 refine⟨⟨hok.fit,by rw[hm.aS];exact h.aS,by rw[hm.aT];exact h.aT,by rw[hm.wP];exact h.wP,?_,Yn,by rw[hm.aD];omega,λq hq=>?_,by rw[hm.aD];exact h.af⟩,tY hok.ok (by rw[hm.aS];omega) (by rw[hm.aS,hm.aT];omega) (by rw[hm.wP];omega) Yr ?_ (by rw[hm.aD];omega) ?_ ?_ (by rw[hm.aD];omega)⟩
 ·grind
 ·rw[hm.aH]at hq
  rcases Wi.1 hq with hq|hq
  ·exact h.pf q hq
  grind
 ·grind
 ·rw[hm.aH]
  refine vZ ?_ ?_
  ·rw[cP]at p8⊢
   intro j q hq;have hj:=(VU.1 hq).1;refine ux hm.aS hm.aT ?_ (λz hz=>⟨z,?_,rfl,rfl,rfl,rfl⟩) (p8 j q hq)
   ·rw[d1,Da]
    refine FA λhh=>?_
    have:=hh.1;simp only[cW]at this
    omega
   grind
  ·unfold oF
   rw[hm.aS,hm.aT,q1,Zhl,p6,List.getElem?_append_right (VY _),Nat.sub_self];show Cq y _ p _ (YW _)=YY;have hs:fF (o.lines.map cW++[cW (⟨(o.world.aj.length:Int)+1,1,v,o.world.now⟩:bc)]) (((o.world.aj.length+1:Nat):Int)) 1=v:=by
    rw[show(((o.world.aj.length+1:Nat):Int))=(o.world.aj.length:Int)+1 by omega,Uy (o:=(o.world.aj.length:Int)+1) (k:=1) (x:=cW (⟨(o.world.aj.length:Int)+1,1,v,o.world.now⟩:bc)) rfl rfl,c2]
    show wrap64 (0+v)=v;rw[<-pN,aR Yn];omega
   rw[uw,d1,Da,hs];simp[nW]
 ·rw[d1]
  refine vZ (zQ Yn Yn p9) ?_;unfold uX
  grind
theorem F2{o x:aF}(h:OF o)(ha:PF a.aJ)(hd:Q2 o a x):OF x/\fK x=true:=by
 obtain⟨y,rfl,hy⟩:=hd.how;have hu:a.kind=3->a.bI<=100000:=λhk=>by
  have:=BY ha.fit.1 ha.fit.2.1 ha.fit.2.2 hd.act;omega
 rcases hy with⟨_,hy⟩ |⟨_,hy⟩ |⟨_,hy⟩
 ·obtain⟨b1,b2⟩:=ZbH h hd.ok ha hy
  exact D1 ha hd.act b1 b2 hy.aD hd.few
 ·obtain⟨b1,b2⟩:=ZaU h hd.ok hy
  exact D1 ha hd.act b1 b2 (by obtain⟨l,z,rfl,_⟩:=hy;rfl) hd.few
 ·obtain⟨b1,b2⟩:=Tg h hd.ok hu hy
  exact D1 ha hd.act b1 b2 (by obtain⟨w,rfl,_⟩:=hy;rfl) hd.few
def Ht(K:Nat)(w:ax):Prop:=∃u s:Nat,w.aj.length+u+s<=K/\∀o∈w.aj,o.aK.length<=6*(1+min u s)/\bd o<=((6*min u (s+1):Nat):Int)
structure Hx(n:ah)(K:Nat)(w:ax):Prop where
 ok:qw w
 fC:w.aa=n
 cnt:Ht K w
theorem GP{n:ah}(h:tD n):(ak n).length<=7:=by
 have:=sw (xs:=ak n) (ys:=rV) (GQ n) λp hp=>by
  have SE:p∈(iL n).foldl sI []:=hp
  rcases sn.1 SE with hp|hp
  ·unfold iL at hp
   obtain⟨l,hl,xL⟩:=List.mem_flatMap.1 hp;have:=h.bH l hl
   rcases V5.1 xL with rfl|xL
   ·exact this.ar
   ·rw[Wh.1 xL];exact this.aY
  ·cases hp
 exact this
theorem Ht.mono(h:Ht K w):Ht (K+1) w:=by
 obtain⟨u,s,h1,h2⟩:=h;exact⟨u,s,Yn,h2⟩
theorem Hx.mono{n:ah}{K:Nat}{w:ax}(h:Hx n K w):Hx n (K+1) w:=⟨h.ok,h.fC,h.cnt.mono⟩
theorem EA{n:ah}(h7:(ak n).length<=7){w x:ax}(hw:qw w)(hn:w.aa=n)(h:Ht K w)(hl:x.aj.length=w.aj.length)(hr:∀(i:Nat) (o:az),w.aj[i]?=YW o->∃o',x.aj[i]?=YW o'/\rn w.aa o o'):Ht (K+1) x:=by
 obtain⟨hP,_⟩:=tl hw;obtain⟨u,s,h1,h2⟩:=h;refine⟨u,s+1,Yn,λo' zg=>?_⟩
 obtain⟨i,hi,rfl⟩:=Wf zg;have hiw:i<w.aj.length:=Yn;have ho:=VV hiw;obtain⟨o2,e,hR⟩:=hr i _ ho;rw[VV hi]at e
 have e:=VX e;obtain⟨b1,b2⟩:=h2 _ (Wp hiw);have hc:=nD hP ho;rw[e]
 rcases hR with rfl|⟨more,hm,rfl⟩
 ·exact⟨Yn,Yn⟩
 ·rw[hn]at hm
  refine⟨?_,?_⟩
  ·show(cg w.aj[i]++more).length<=_
   rw[VZ,hc.2.2.1];omega
  ·show bd w.aj[i]<=_
   omega
theorem Vm(hw:qw w)(h:Ht K w){t:Int}(hu:w.now<=t)(hm:t<=100000):Ht (K+1) (FP w t):=by
 obtain⟨a,b,_⟩:=K8 hw hu hm;obtain⟨hP,_⟩:=tl a;obtain⟨u,s,h1,h2⟩:=h;refine⟨u+1,s,by have:=b.len;omega,λo' zg=>?_⟩
 obtain⟨i,hi,rfl⟩:=Wf zg;have nj:=VV hi;have hiw:i<w.aj.length:=by rw[<-b.len];exact hi
 have hs:=b.ord i _ _ (VV hiw) nj;obtain⟨b1,b2⟩:=h2 _ (Wp hiw);have hc:=nD hP nj;rw[hs.aK]at *
 exact⟨Yn,Yn⟩
/-! Zei a change of a world can not be. -/
section
variable {n:ah} (hn:tD n)
include hn
theorem Hz(hw:Hx n K w)(ar aY:ByteArray)(aw ab:Int):aV (eO w ar aY aw ab) λr=>Hx n (K+1) r.1:=by
 obtain⟨r,_,e,hr⟩:=Aq hw.ok ar aY aw ab;refine aV.of e ?_
 rcases hr with⟨rfl,_⟩ |⟨aK,ys,eJ,hT⟩
 ·exact hw.mono
 ·rw[hT.res]
  have uF:=hw.fC;have h7:=GP hn;have hR:=qj hw.ok.fit.fC hw.ok.fit.au hw.ok.fit.ae hT.jk;have Zhb:=Ou hw.ok.fit.fC hR;rw[uF]at Zhb
  refine⟨hT.ok,hw.fC,?_⟩;obtain⟨u,s,h1,h2⟩:=hw.cnt;refine⟨u,s,?_,λo ho=>?_⟩
  ·show(w.aj++[nW w ar aY aw ab eJ aK]).length+u+s<=K+1
   rw[VZ];simp only[V0,V1];omega
  ·have zg:o∈w.aj++[nW w ar aY aw ab eJ aK]:=ho
   rcases Wi.1 zg with zg|zg
   ·exact h2 o zg
   ·obtain rfl:=Wh.1 zg
    refine⟨?_,?_⟩
    ·show aK.length<=_;omega
    ·show(if(1:Int)=2 then(0:Int)+1 else 0)<=_
     rw[if_neg Yn];omega
theorem QA(hw:Hx n K w)(t:av):aV (dW w t) λr=>Hx n (K+1) r.1:=by
 obtain⟨r,_,e,hr⟩:=Fq hw.ok t;refine aV.of e ?_
 rcases hr with rfl|⟨x,rfl,hS⟩
 ·exact hw.mono
 ·have hr:∀(i:Nat) (o:az),w.aj[i]?=YW o->∃o',x.aj[i]?=YW o'/\rn w.aa o o':=λi o ho=>by
   obtain⟨o',a,_,c⟩:=hS.ord i o ho;exact⟨o',a,c⟩
  exact⟨hS.ok,hS.same.aa.trans hw.fC,EA (GP hn) hw.ok hw.fC hw.cnt hS.same.len hr⟩
theorem MA(hw:Hx n K w):aV (dV w) λr=>Hx n (K+1) r.1:=by
 obtain⟨x,m,_,e,hR⟩:=DB hw.ok;refine aV.of e ?_;have hr:∀(i:Nat) (o:az),w.aj[i]?=YW o->∃o',x.aj[i]?=YW o'/\rn w.aa o o':=λi o ho=>by
  obtain⟨o',a,c,_⟩:=hR.ord i o ho;exact⟨o',a,c⟩
 exact⟨hR.ok,hR.same.aa.trans hw.fC,EA (GP hn) hw.ok hw.fC hw.cnt hR.same.len hr⟩
theorem Rk(hw:Hx n K w)(u:Int):aV (fO w u) (Hx n (K+1)):=by
 refine aV.of (zm hw.ok.fit u) ?_
 split
 ·rename_i h
  obtain⟨a,b,_⟩:=K8 hw.ok h.2.1 h.2.2;exact⟨a,b.aa.trans hw.fC,Vm hw.ok hw.cnt h.2.1 h.2.2⟩
 ·exact hw.mono
theorem ZhK{skip:List Int}(hs:skip.length<=50)(K:Nat):Hx n K (⟨n,[],[],[],0,[],skip,0⟩:ax):=by
 have hf:rF (⟨n,[],[],[],0,[],skip,0⟩:ax):=⟨hn.fit,by simp,by simp,by simp,by simp,by simp only;omega,λo ho=>by cases ho⟩
 have hv:fB (⟨n,[],[],[],0,[],skip,0⟩:ax)=true:=by
  unfold fB cu uP;simp only[hn.ok,Xj];simp[allI];omega
 exact⟨⟨hf,hv⟩,rfl,0,0,by simp,λo ho=>by cases ho⟩
end
set_option maxRecDepth 100000
theorem CY{n:Nat}{s s':σ}(h:body s=YW (.inl s')):aE body (n+1) s=aE body n s':=by
 rw[aE,h];rfl
theorem sr{n:Nat}{s:σ}{o:ο}(h:body s=YW (.inr o)):aE body (n+1) s=YW o:=by
 rw[aE,h];rfl
theorem uj:cM l 0 (if 150<(l.length:Int)then 150 else(l.length:Int))=l.take 150:=by
 have h:(if 150<(l.length:Int)then 150 else(l.length:Int)).toNat=min 150 l.length:=Yn
 unfold cM
 simp_all
theorem UY{o x:aF}(hx:OF x)(hv:x=o\/fK x=YY)(ha:PF a.aJ):∃y c,fc x a=YW (y,c)/\jA x a=YW (y,c)/\(c=0->OF y/\fK y=YY):=by
 obtain⟨g,c,h1,h2,h3⟩:=By hx ha;refine⟨g,c,h1,h2,λhc=>?_⟩
 rcases h3 with⟨h,_⟩ |⟨_,hd⟩
 ·omega
 ·exact F2 hx ha hd
def fin(l:List ba)(o0:(List bP)×(List Int)×Int×(List az)×(List aq)×(List av)×Int×(List br)×(List Int)×Int×(List ct)×(List bF)×(List Int)×(List bc)×(List aL)×(List ba)):Option (aF×Int):=cond (Y0 (150<(l.length:Int))) (YW (⟨⟨⟨o0.1,o0.2.1,o0.2.2.1⟩,o0.2.2.2.1,o0.2.2.2.2.1,o0.2.2.2.2.2.1,o0.2.2.2.2.2.2.1,o0.2.2.2.2.2.2.2.1,o0.2.2.2.2.2.2.2.2.1,o0.2.2.2.2.2.2.2.2.2.1⟩,o0.2.2.2.2.2.2.2.2.2.2.1,o0.2.2.2.2.2.2.2.2.2.2.2.1,o0.2.2.2.2.2.2.2.2.2.2.2.2.1,o0.2.2.2.2.2.2.2.2.2.2.2.2.2.2.1,o0.2.2.2.2.2.2.2.2.2.2.2.2.2.1,o0.2.2.2.2.2.2.2.2.2.2.2.2.2.2.2⟩,150)) (YW (⟨⟨⟨o0.1,o0.2.1,o0.2.2.1⟩,o0.2.2.2.1,o0.2.2.2.2.1,o0.2.2.2.2.2.1,o0.2.2.2.2.2.2.1,o0.2.2.2.2.2.2.2.1,o0.2.2.2.2.2.2.2.2.1,o0.2.2.2.2.2.2.2.2.2.1⟩,o0.2.2.2.2.2.2.2.2.2.2.1,o0.2.2.2.2.2.2.2.2.2.2.2.1,o0.2.2.2.2.2.2.2.2.2.2.2.2.1,o0.2.2.2.2.2.2.2.2.2.2.2.2.2.2.1,o0.2.2.2.2.2.2.2.2.2.2.2.2.2.1,o0.2.2.2.2.2.2.2.2.2.2.2.2.2.2.2⟩,(l.length:Int)))
theorem LU{o:aF}(hl:l.length<=1048576)(ha:∀a∈l,PF a.aJ):∀(m i:Nat) (x:aF),i+m=(l.take 150).length->OF x->(x=o\/fK x=YY)->∀N M,m<N->m<M->
 ∃(g:aF) (n:Nat),aE (dK l) N ((i:Int),(i:Int),x.world.aa.change,x.world.now,x.world.bg,x.world.aa.aA,x.world.aa.off,x.world.aj,x.world.au,x.world.ae,x.world.aN,x.world.skip,x.aS,x.aT,x.aI,x.aH,x.lines,x.aD)=YW ((n:Int),g.world.aa.change,g.world.now,g.world.bg,g.world.aa.aA,g.world.aa.off,g.world.aj,g.world.au,g.world.ae,g.world.aN,g.world.skip,g.aS,g.aT,g.aI,g.aH,g.lines,g.aD)/\(aE (iY l) M ((i:Int),x.world.aa.aA,x.world.aa.off,x.world.aa.change,x.world.aj,x.world.au,x.world.ae,x.world.now,x.world.aN,x.world.skip,x.world.bg,x.aS,x.aT,x.aI,x.lines,x.aH,x.aD)).bind (bh (fin l) (λr=>YW r))=YW (g,(n:Int))/\OF g/\(g=o\/fK g=YY):=by
 have hL:(l.take 150).length=min 150 l.length:=Wg;intro m
 induction m with
 |zero=>
  intro i x hi hx hv N M hN hM;obtain⟨N,rfl⟩:∃K,N=K+1:=⟨N-1,Yn⟩;obtain⟨M,rfl⟩:∃K,M=K+1:=⟨M-1,Yn⟩;refine⟨x,i,sr ?_,?_,hx,hv⟩
  ·unfold dK
   simp only[uj]
   simp_all
  ·rw[sr (o:=.inl (x.world.aa.aA,x.world.aa.off,x.world.aa.change,x.world.aj,x.world.au,x.world.ae,x.world.now,x.world.aN,x.world.skip,x.world.bg,x.aS,x.aT,x.aI,x.lines,x.aH,x.aD))]
   ·show fin l _=_
    unfold fin
    by_cases h:150<(l.length:Int)
    ·rw[Ya h]
     have:i=150:=Yn;subst this;rfl
    ·rw[Yg h]
     have:i=l.length:=Yn;subst this;rfl
   ·unfold iY
    grind
 |succ m ih=>
  intro i x hi hx hv N M hN hM;obtain⟨N,rfl⟩:∃K,N=K+1:=⟨N-1,Yn⟩;obtain⟨M,rfl⟩:∃K,M=K+1:=⟨M-1,Yn⟩;have Bb:i<l.length:=Yn;obtain⟨a,hai⟩:∃a,l[i]?=YW a:=⟨_,VV Bb⟩;have zd:(l.take 150)[i]?=YW a:=by grind
  obtain⟨y,c,h1,h2,h3⟩:=UY hx hv (ha a (VW hai));have w1:aM ((i:Int)+1)=((i+1:Nat):Int):=by rw[aR Yn];omega
  by_cases hc:c=0
  ·obtain⟨k1,k2⟩:=h3 hc
   obtain⟨g,n,e1,e2,e3,e4⟩:=ih (i+1) y Yn k1 (.inr k2) N M Yn Yn;refine⟨g,n,(CY ?_).trans e1,?_,e3,e4⟩
   ·unfold dK
    simp only[uj];rw[Ya (show(i:Int)<((l.take 150).length:Int)by omega),aP,zd]
    simp_all
   ·rw[CY (s':=(((i+1:Nat):Int),y.world.aa.aA,y.world.aa.off,y.world.aa.change,y.world.aj,y.world.au,y.world.ae,y.world.now,y.world.aN,y.world.skip,y.world.bg,y.aS,y.aT,y.aI,y.lines,y.aH,y.aD))]
    ·omega
    ·unfold iY
     simp only[];rw[Ya (show(i:Int)<(l.length:Int)by omega),Ya (show(i:Int)<150 by omega),aP,hai]
     simp only[Yj,A8,VT,h2,Ya hc,V3,Yk,w1]
  ·refine⟨x,i,sr ?_,?_,hx,hv⟩
   ·unfold dK
    simp only[uj];rw[Ya (show(i:Int)<((l.take 150).length:Int)by omega),aP,zd]
    simp_all
   ·rw[sr (o:=.inr (x,(i:Int)))]
    ·rfl
    ·unfold iY
     simp only[];rw[Ya (show(i:Int)<(l.length:Int)by omega),Ya (show(i:Int)<150 by omega),aP,hai]
     simp only[Yj,A8,VT,h2,Yg hc,WD]
set_option maxRecDepth 10000
theorem F1{o x:aF}(hd:Q2 o a x):x.aD=o.aD++[a]:=by
 obtain⟨y,rfl,_⟩:=hd.how;rfl
set_option maxRecDepth 100000
noncomputable def It(x:aF)(a:ba):Option aF:=(fc x a).bind λr=>if r.2=0 then YW r.1 else YX
noncomputable def fH:aF->List ba->aF×Nat
 |x,[]=>(x,0)
 |x,a::l=>match It x a with
  |none=>(x,0)
  |some y=>((fH y l).1,(fH y l).2+1)
theorem qk(h:It x a=YX):fH x (a::l)=(x,0):=by rw[fH,h]
theorem lK(h:It x a=YW y):fH x (a::l)=((fH y l).1,(fH y l).2+1):=by rw[fH,h]
theorem yc(hx:OF x)(ha:PF a.aJ)(h:It x a=YW y):fc x a=YW (y,0)/\Q2 x a y/\OF y/\fK y=true:=by
 obtain⟨g,c,h1,_,h3⟩:=By hx ha;rw[It,h1,VT]at h
 simp only at h
 rcases h3 with⟨hc,_⟩ |⟨rfl,hd⟩
 ·rw[if_neg hc]at h;cases h
 ·rw[if_pos rfl]at h
  obtain rfl:=VX h;obtain⟨k1,k2⟩:=F2 hx ha hd;exact⟨h1,hd,k1,k2⟩
theorem Nj(hx:OF x)(ha:PF a.aJ)(h:It x a=YX):∃c,fc x a=YW (x,c)/\¬c=0:=by
 obtain⟨g,c,h1,_,h3⟩:=By hx ha;rw[It,h1,VT]at h
 simp only at h
 rcases h3 with⟨hc,rfl⟩ |⟨rfl,_⟩
 ·exact⟨c,h1,hc⟩
 ·rw[if_pos rfl]at h;cases h
theorem yP:∀(l:List ba) (x:aF),(fH x l).2<=l.length
 | [],x=>VY _
 |a::l,x=>by
  cases h:It x a with
  |none=>rw[qk h];exact Nat.zero_le _
  |some y=>rw[lK h];have:=yP l y;simp only[V0];omega
theorem yQ:∀(l:List ba) {x:aF},OF x->(∀a∈l,PF a.aJ)->OF (fH x l).1/\((fH x l).1=x\/fK (fH x l).1=YY)/\(fH x l).1.aD=x.aD++l.take (fH x l).2
 | [],x,hx,_=>⟨hx,.inl rfl,by simp[fH]⟩
 |a::l,x,hx,ha=>by
  cases h:It x a with
  |none=>rw[qk h];exact⟨hx,.inl rfl,by simp⟩
  |some y=>
   obtain⟨_,hd,h1,h2⟩:=yc hx (ha a Yq) h;obtain⟨r1,r2,r3⟩:=yQ l h1 λb hb=>ha b (by simp[hb])
   rw[lK h];refine⟨r1,.inr ?_,?_⟩
   ·rcases r2 with r2|r2
    ·simp only[r2];exact h2
    ·exact r2
   ·simp only[r3,F1 hd,WU,List.append_assoc,List.singleton_append]
theorem Fo:∀(l:List ba) {x:aF} {a:ba},l[(fH x l).2]?=YW a->It (fH x l).1 a=YX
 | [],x,a,h=>by cases h
 |b::l,x,a,h=>by
  cases hb:It x b with
  |none=>
   rw[qk hb]at h⊢
   obtain rfl:b=a:=by simpa using h
   exact hb
  |some y=>
   rw[lK hb]at h⊢
   exact Fo l YV
theorem Kj:∀(l k:List ba) {x:aF},(fH x l).2=l.length->fH x (l++k)=((fH (fH x l).1 k).1,l.length+(fH (fH x l).1 k).2)
 | [],k,x,_=>by simp[fH]
 |a::l,k,x,h=>by
  cases hb:It x a with
  |none=>rw[qk hb]at h;simp at h
  |some y=>
   rw[lK hb]at h
   have:=Kj l k (x:=y) YV;rw[List.cons_append,lK hb,lK hb,this];simp only[V0,Prod.mk.injEq,true_and];omega
theorem Ak:∀(l:List ba) {x:aF} {n:Nat},n<=(fH x l).2->(fH x (l.take n)).2=n
 |l,x,0,_=>by simp[fH]
 | [],x,n+1,h=>by simp[fH]at h
 |a::l,x,n+1,h=>by
  cases hb:It x a with
  |none=>rw[qk hb]at h;simp at h
  |some y=>
   rw[lK hb]at h
   rw[WU,lK hb,Ak l YV]
theorem Aj:∀(l:List ba) {x:aF},fH x (l.take (fH x l).2)=fH x l
 | [],x=>by simp[fH]
 |a::l,x=>by
  cases hb:It x a with
  |none=>rw[qk hb];simp[fH]
  |some y=>rw[lK hb,WU,lK hb,Aj l]
theorem Ub{n:Nat}(h:n<=(fH x l).2):fH (fH x (l.take n)).1 (l.drop n)=((fH x l).1,(fH x l).2-n):=by
 have hn:n<=l.length:=Wr h (yP l x);have h1:(fH x (l.take n)).2=(l.take n).length:=by rw[Ak l h,Wg];omega
 have h2:=Kj (l.take n) (l.drop n) (x:=x) h1;rw[List.take_append_drop,Wg,X4 hn]at h2
 have e1:=congrArg Prod.fst h2;have e2:=congrArg Prod.snd h2;simp only at e1 e2
 exact Prod.ext e1.symm (by simp only;omega)
abbrev ZdU(x:aF):=(x.world.aa.change,x.world.now,x.world.bg,x.world.aa.aA,x.world.aa.off,x.world.aj,x.world.au,x.world.ae,x.world.aN,x.world.skip,x.aS,x.aT,x.aI,x.aH,x.lines,x.aD)
theorem Jv(hl:l.length<=1048576)(ha:∀a∈l,PF a.aJ):∀(m i:Nat) (x:aF),i+m=(l.take 150).length->OF x->∀N,m<N->
 aE (dK l) N ((i:Int),(i:Int),ZdU x)=YW (((i+(fH x ((l.take 150).drop i)).2:Nat):Int),ZdU (fH x ((l.take 150).drop i)).1):=by
 have hL:(l.take 150).length=min 150 l.length:=Wg;intro m
 induction m with
 |zero=>
  intro i x hi hx N hN;obtain⟨N,rfl⟩:∃K,N=K+1:=⟨N-1,Yn⟩;rw[List.drop_eq_nil_of_le Yn,fH];refine sr ?_;unfold dK;simp only[uj];rw[Yg (show ¬(i:Int)<((l.take 150).length:Int)by omega)]
  rfl
 |succ m ih=>
  intro i x hi hx N hN;obtain⟨N,rfl⟩:∃K,N=K+1:=⟨N-1,Yn⟩;have Bb:i<l.length:=Yn;have hit:i<(l.take 150).length:=Yn;have zd:(l.take 150)[i]?=YW (l.take 150)[i]:=VV hit;have hm:(l.take 150)[i]∈l:=Wt (Wp hit);rw[List.drop_eq_getElem_cons hit];generalize (l.take 150)[i]=a at zd hm⊢
  have w1:aM ((i:Int)+1)=((i+1:Nat):Int):=by rw[aR Yn];omega
  cases hd:It x a with
  |none=>
   obtain⟨c,h1,hc⟩:=Nj hx (ha a hm) hd;rw[qk hd];refine sr ?_;unfold dK;simp only[uj];rw[Ya (show(i:Int)<((l.take 150).length:Int)by omega),aP,zd]
   simp only[Yj,VT,h1,Yg hc,WD,Nat.add_zero]
  |some y=>
   obtain⟨h1,_,h2,_⟩:=yc hx (ha a hm) hd;rw[lK hd];refine(CY ?_).trans ((ih (i+1) y Yn h2 N Yn).trans ?_)
   ·unfold dK
    simp only[uj];rw[Ya (show(i:Int)<((l.take 150).length:Int)by omega),aP,zd]
    simp only[Yj,VT,h1,decide_true,V3,Yk,w1]
   ·simp only[show i+1+(fH y (List.drop (i+1) (List.take 150 l))).2=i+((fH y (List.drop (i+1) (List.take 150 l))).2+1)by omega]
theorem uJ(hx:OF x)(hl:l.length<=1048576)(ha:∀a∈l,PF a.aJ):cL x l=YW ((fH x (l.take 150)).1,((fH x (l.take 150)).2:Int)):=by
 have e1:=Jv hl ha (l.take 150).length 0 x Yn hx NN (by rw[Wg];unfold NN;omega)
 rw[X8,Wc]at e1
 unfold cL;rw[Nd hx];simp only[VT];rw[ku (show fJ 0 (if 150<(l.length:Int)then 150 else(l.length:Int)) l.length=YY by unfold fJ;simp only[decide_eq_true_eq,Bool.and_eq_true];split<;>omega)]
 simp only[VT];simp only[Int.ofNat_zero]at e1
 rw[e1];rfl
theorem Kc(hx:OF x)(hl:l.length<=1048576)(ha:∀a∈l,PF a.aJ):lA x l=YW ((fH x (l.take 150)).1,((fH x (l.take 150)).2:Int)):=by
 have hm:(l.take 150).length<NN:=by rw[Wg];unfold NN;omega
 obtain⟨g,n,e1,e2,_,_⟩:=LU (o:=x) hl ha (l.take 150).length 0 x Yn hx (.inl rfl) NN NN hm hm;have e3:=Jv hl ha (l.take 150).length 0 x Yn hx NN hm;rw[X8,Wc]at e3
 have e4:=VX (e1.symm.trans e3);simp only[ZdU,Prod.mk.injEq]at e4
 obtain⟨a0,a1,a2,a3,a4,a5,a6,a7,a8,a9,a10,a11,a12,a13,a14,a15,a16⟩:=e4;have hg:g=(fH x (l.take 150)).1:=by
  cases g with|mk w z r p c n j=>
  cases w with|mk nt o b cl nw sc sk md=>
  cases nt with|mk lg of ch=>
  cases hr:(fH x (l.take 150)).1 with|mk w' z' r' p' c' n' j'=>
  cases w' with|mk nt' o' b' cl' nw' sc' sk' md'=>
  cases nt' with|mk lg' of' Vk=>
  rw[hr]at a1 a2 a3 a4 a5 a6 a7 a8 a9 a10 a11 a12 a13 a14 a15 a16
  simp only at a1 a2 a3 a4 a5 a6 a7 a8 a9 a10 a11 a12 a13 a14 a15 a16
  subst a1 a2 a3 a4 a5 a6 a7 a8 a9 a10 a11 a12 a13 a14 a15 a16;rfl
 unfold lA;rw[Bv hx];simp only[VT];rw[<-hg,<-a0];exact e2
theorem Qv(hx:OF x)(ha:∀a∈l,PF a.aJ)(h:l[(fH x (l.take 150)).2]?=YW a):∃c,fc (fH x (l.take 150)).1 a=YW ((fH x (l.take 150)).1,c)/\¬c=0:=by
 obtain⟨r1,r2,r3⟩:=yQ (l.take 150) hx λb hb=>ha b (Wt hb)
 have hle:=yP (l.take 150) x;rw[Wg]at hle
 have hp:=ha a (VW h);refine Nj r1 hp ?_
 by_cases hn:(fH x (l.take 150)).2<150
 ·exact Fo (l.take 150) (by rw[List.getElem?_take_of_lt hn];exact h)
 ·cases hd:It (fH x (l.take 150)).1 a with
  |none=>rfl
  |some y=>
   obtain⟨_,hD,_,_⟩:=yc r1 hp hd;have:=hD.few;rw[r3,VZ,Wg,Wg]at this
   have:=(VU.1 h).1;omega
theorem DE(hx:OF x)(ha:∀a∈l,PF a.aJ)(hj:x.aD=[]):(fH x (l.take 150)).1.aD=l.take (fH x (l.take 150)).2/\fH x ((fH x (l.take 150)).1.aD.take 150)=fH x (l.take 150):=by
 obtain⟨_,_,r3⟩:=yQ (l.take 150) hx λb hb=>ha b (Wt hb)
 have hle:=yP (l.take 150) x;rw[Wg]at hle
 have e:(fH x (l.take 150)).1.aD=l.take (fH x (l.take 150)).2:=by
  rw[r3,hj,List.nil_append,XE,X4 Yn]
 refine⟨e,?_⟩;rw[e,XE,Nat.min_eq_right Yn];have:=Aj (l.take 150) (x:=x)
 rwa[XE,X4 Yn]at this
theorem Fp:∀(l:List ba) {x:aF},OF x->(∀a∈l,PF a.aJ)->∀a∈l.take (fH x l).2,bT a=YW YY
 | [],x,_,_=>by simp
 |b::l,x,hx,ha=>by
  cases h:It x b with
  |none=>rw[qk h];simp
  |some y=>
   obtain⟨_,hd,h1,_⟩:=yc hx (ha b Yq) h;rw[lK h,WU];intro a hm
   rcases V5.1 hm with rfl|hm
   ·exact hd.act
   ·exact Fp l h1 (λc hc=>ha c (by simp[hc])) a hm
set_option maxRecDepth 10000
theorem Zbx{l:List ct}(hl:l.length<=1048576):iq l l=YW true:=vR (F:=iq) (B:=lq) (λ_ _=>rfl) (λ_ _ _=>rfl) hl
theorem Zbu{l:List bF}(hl:l.length<=1048576):il l l=YW true:=vR (F:=il) (B:=ll) (λ_ _=>rfl) (λ_ _ _=>rfl) hl
theorem Zbs{l:List bc}(hl:l.length<=1048576):ik l l=YW true:=vR (F:=ik) (B:=lk) (λ_ _=>rfl) (λ_ _ _=>rfl) hl
theorem Qx{o:aF}(h:OF o):fM o o=YW true:=by
 have e0:aE (iN o o) NN 0=YW (.inl ()):=by
  refine vE (xs:=o.aH) (λi x hx=>?_) ?_ h.aH
  ·have bX:=(VU.1 hx).1
   have hg:aB o.aH (i:Int)=YW x:=by rw[aP];exact hx
   unfold iN;rw[Ya (show(i:Int)<o.aH.length by omega),hg]
   simp[wW (h.pf x (VW hx)).fit.2.2]
  ·unfold iN;simp
 have e1:aE (iO o o) NN 0=YW (.inl ()):=by
  refine vE (xs:=o.aD) (λi x hx=>?_) ?_ h.aD
  ·have bX:=(VU.1 hx).1
   have hg:aB o.aD (i:Int)=YW x:=by rw[aP];exact hx
   unfold iO;rw[Ya (show(i:Int)<o.aD.length by omega),hg]
   simp[xD (h.af x (VW hx)).fit.2.2]
  ·unfold iO;simp
 unfold fM;rw[e0,e1];simp only[Zbw h.world,Zbx h.aS.1,Zbu h.aT,GZ h.wP,Zbs h.lines,VT,V3,Yk,decide_true,bh]
end Go.Proofs.YtdilaemengjipaaGreatDoor
