/- A part of the proof of the statement in the last file of this claim: texts on the language of the program and on its functions. No condition. -/
import Derived.Test.YtdilaemengjipaaGreatDoorCJ27
import Derived.Test.YtdilaemengjipaaGreatDoorCJ19
import Derived.Test.YtdilaemengjipaaGreatDoorCJ16
import Derived.Test.YtdilaemengjipaaGreatDoorCJ20
import Derived.Test.YtdilaemengjipaaGreatDoorCJ7
import Derived.Test.YtdilaemengjipaaGreatDoorCJ14
import Derived.Test.YtdilaemengjipaaGreatDoorCJ24
import Derived.Test.YtdilaemengjipaaGreatDoorCJ23
import Derived.Test.YtdilaemengjipaaGreatDoorCJ4
import Derived.Test.YtdilaemengjipaaGreatDoorCJ25
import Derived.Test.YtdilaemengjipaaGreatDoorCJ1
set_option linter.unusedVariables false
set_option linter.unusedSimpArgs false
set_option linter.unusedSectionVars false
open Option renaming some->YW,none->YX
open Bool renaming true->YY,false->YZ
open Decidable renaming decide->Y0
set_option maxHeartbeats 40000000
namespace Go.Proofs.YtdilaemengjipaaGreatDoor
open List renaming foldl_nil->Wn,nil_append->WK,getElem?_eq_some_iff->VU,getElem?_eq_getElem->VV,mem_of_getElem?->VW,getElem?_set_self->WM,foldl_cons->Wq,getElem?_eq_none->Xf,length_map->Wj,length_nil->V1,getElem_mem->Wp,length_cons->V0,mem_cons_self->Wo,range->Ws
open Option renaming bind_some->VT,map_eq_some_iff->Wb
open Bool renaming not_true->V3,not_false->WD,false_eq_true->WE
open _root_.Int renaming toNat_natCast->WN
open Nat renaming zero_le->Ww,le_refl->VY
set_option maxRecDepth 10000
open Go.RowKit
variable {du en u:Int}{k:Nat}{w:ax}{α:Type}
theorem Pd:@rz=@mc:=rfl
def gD(w:ax)(s:br):ax:={ w with aN:=(og w.skip (w.aN,w.bg) s).1,bg:=(og w.skip (w.aN,w.bg) s).2}
structure pO(w:ax):Prop where
 skip:w.skip.length<=1048576
 len:w.aN.length<=200
 bg:0<=w.bg/\w.bg<=1000000000
theorem ff{a b c:Nat}(h:a+b<=1048576)(hc:c<=1024):cr (bn (a+b) c)=YW ():=by
 refine ku ?_;refine Ya ⟨Yn,?_⟩;have:(a+b)*c<=1048576*1024:=Nat.mul_le_mul h hc;omega
theorem vh(h:pO w)(s:br):pO (gD w s):=by
 obtain⟨h1,h2,h3⟩:=h;unfold gD og;refine⟨h1,?_,?_⟩
 all_goals grind
theorem G0(h:pO w)(s:br):ft w s=YW (gD w s):=by
 obtain⟨h1,h2,h3⟩:=h;have hw:aM (w.bg+1)=w.bg+1:=aR Yn;have ha:=ff (a:=w.aN.length) (b:=1) (c:=56) Yn Yn;unfold ft gD og;rw[hw,Pd,Gk h1]
 grind
theorem G6(h:pO w)(s:br):gx w s=YW (gD w s):=by
 obtain⟨h1,h2,h3⟩:=h;have hw:aM (w.bg+1)=w.bg+1:=aR Yn;have ha:=ff (a:=w.aN.length) (b:=1) (c:=56) Yn Yn;unfold gx gD og;simp only[Gk h1]
 by_cases hm:w.bg<1000000000
 ·grind
 ·rw[Yg hm]
  simp only[if_neg hm]
  cases hb:w.skip.any λy=>Y0 (y=w.bg)with
  |true=>simp
  |false=>
   by_cases hl:w.aN.length<200
   ·grind
   ·rw[Yg (show ¬(w.aN.length:Int)<200 by omega)];simp[hl]
abbrev OwT:=Int×Int×Int×(List bP)×(List Int)×(List az)×(List aq)×(List av)×(List Int)×(List br)
def wN(w:ax):OwT:=(w.aa.change,w.now,w.bg,w.aa.aA,w.aa.off,w.aj,w.au,w.ae,w.skip,w.aN)
def BO(i:Int)(w:ax):Int×OwT:=(i,wN w)
def gO(w:ax)(l:List br):ax:=l.foldl gD w
theorem vk:∀(l:List br) (w:ax),gO w l={ w with aN:=(l.foldl (og w.skip) (w.aN,w.bg)).1,bg:=(l.foldl (og w.skip) (w.aN,w.bg)).2}
 | [],w=>rfl
 |s::l,w=>by
  show gO (gD w s) l=_;rw[vk l (gD w s)];rfl
def mu(f:az->az)(g:Nat->az->List br)(i:Nat)(o:az)(w:ax):ax:=gO { w with aj:=w.aj.set i (f o)} (g i o)
def ub(f:az->az)(g:Nat->az->List br):Nat->List az->ax->ax
 |_,[],w=>w
 |i,o::os,w=>ub f g (i+1) os (mu f g i o w)
theorem yV(f:az->az)(g:Nat->az->List br)(i:Nat)(o:az)(w:ax):mu f g i o w={ w with aj:=w.aj.set i (f o),aN:=((g i o).foldl (og w.skip) (w.aN,w.bg)).1,bg:=((g i o).foldl (og w.skip) (w.aN,w.bg)).2}:=by
 unfold mu;rw[vk]
theorem Dm(f:az->az)(g:Nat->az->List br):∀(os pre:List az) (w:ax),w.aj=pre++os->
 ub f g pre.length os w={ w with aj:=pre++os.map f,aN:=((pX g pre.length os).foldl (og w.skip) (w.aN,w.bg)).1,bg:=((pX g pre.length os).foldl (og w.skip) (w.aN,w.bg)).2}
 | [],pre,w,h=>by simp only[ub,pX,List.map_nil,Wn];rw[<-h]
 |o::os,pre,w,h=>by
  have zK:w.aj.set pre.length (f o)=(pre++[f o])++os:=by grind
  have:=Dm f g os (pre++[f o]) (mu f g pre.length o w) (by rw[yV];omega)
  simp at this
  show ub f g (pre.length+1) os (mu f g pre.length o w)=_;rw[this,yV];simp only[pX,List.foldl_append,List.map_cons,List.append_assoc,List.cons_append,WK]
theorem tV{f:az->az}{g:Nat->az->List br}{body:Int×OwT->Option ((Int×OwT)⊕OwT)}{n:Nat}{Inv:ax->Prop}{Good:Nat->az->Prop}
 (h1:∀(i:Nat) (o:az) (w:ax),w.aj.length=n->w.aj[i]?=YW o->Inv w->Good i o->body (BO i w)=YW (.inl (BO ((i+1:Nat):Int) (mu f g i o w)))/\Inv (mu f g i o w))
 (h2:∀w:ax,w.aj.length=n->body (BO n w)=YW (.inr (wN w))):
 ∀(os:List az) (i:Nat) (N:Nat) (w:ax),w.aj.drop i=os->w.aj.length=n->i<=n->os.length<N->Inv w->(∀(j:Nat) (o:az),os[j]?=YW o->Good (i+j) o)->aE body N (BO i w)=YW (wN (ub f g i os w))
 | [],i,0,w,_,_,_,hN,_,_=>Yn
 | [],i,N+1,w,hd,hl,hi,hN,hI,hG=>by
  have:i=n:=by grind
  subst this;simp only[aE,h2 w hl];rfl
 |o::os,i,0,w,_,_,_,hN,_,_=>Yn
 |o::os,i,N+1,w,hd,hl,hi,hN,hI,hG=>by
  have ho:w.aj[i]?=YW o:=by
   have:=congrArg (λl:List az=>l[0]?) hd
   grind
  have bX:i<w.aj.length:=(VU.1 ho).1;obtain⟨e1,e2⟩:=h1 i o w hl ho hI (by simpa using hG 0 o rfl)
  have hor:(mu f g i o w).aj=w.aj.set i (f o):=by rw[yV]
  simp only[aE,e1];refine tV h1 h2 os (i+1) N (mu f g i o w) ?_ Yr Yn Yr e2 λj o' hj=>?_
  ·rw[hor,List.drop_set]
   have:(w.aj.drop (i+1))=os:=by
    have:=congrArg (List.drop 1) hd
    simpa using this
   grind
  ·have:=hG (j+1) o' Yr
   grind
structure nf(n:ah)(k:Nat)(w:ax):Prop where
 fC:w.aa=n
 aN:pO w
 aj:w.aj.length<=1048576
theorem xQ:∀(l:List br) (w:ax),pO w->pO (gO w l)
 | [],w,h=>h
 |s::l,w,h=>xQ l _ (vh h s)
theorem nf.step{n:ah}(h:nf n k w)(f:az->az)(g:Nat->az->List br)(i:Nat)(o:az):nf n k (mu f g i o w):=by
 have hs:pO { w with aj:=w.aj.set i (f o)}:=⟨h.aN.skip,h.aN.len,h.aN.bg⟩
 have h1:=xQ (g i o) _ hs;rw[yV];rw[vk]at h1
 exact⟨h.fC,h1,by simp;exact h.aj⟩
structure qV(n:ah)(o:az):Prop where
 aO:0<=o.aO/\o.aO<=o.aK.length
 len:o.aK.length<=1048576
 bk:∀t∈o.aK,gy n t=YY
 Ke:o.state=2->o.aO<o.aK.length
theorem pK{xs:List α}{i:Nat}{x:α}(h:xs[i]?=YW x):xs.set i x=xs:=by
 apply List.ext_getElem?
 grind
theorem su{n:ah}{aQ:Int}{i:Nat}{o:az}(h:¬o.state=1\/o.aK[o.aO.toNat]?=YX\/∃t,o.aK[o.aO.toNat]?=YW t/\¬cS n t=aQ):oj n aQ o=o/\qE n aQ i o=[]:=by
 unfold oj qE
 grind
section
variable {n:ah} (hf:cU n) (hn:aW n=YW YY)
include hf hn
theorem ZaV(w0:ax)(h0:w0.aa=n)(IZ:w0.aj.length<=1048576){aQ:Int}(i:Nat)(o:az)(w:ax)(hl:w.aj.length=w0.aj.length)(ho:w.aj[i]?=YW o)(hI:nf n 0 w)(hG:qV n o):
 gT w0 aQ (BO i w)=YW (.inl (BO ((i+1:Nat):Int) (mu (cD n aQ) (iK n aQ) i o w))):=by
 have bX:=(VU.1 ho).1;have hgg:=hG.aO;have hg:aB w.aj (i:Int)=YW o:=by rw[aP];omega
 have hr:wQ w.aj (i:Int)=YW o:=hg;have hi:aM ((i:Int)+1)=((i+1:Nat):Int):=bG bX Yn;have hd:Y0 ((i:Int)<(w0.aj.length:Int))=true:=Ya Yn;have uF:(⟨w.aa.aA,w.aa.off,w0.aa.change⟩:ah)=n:=by rw[hI.fC,h0]
 have I3:(⟨w.aa.aA,w.aa.off,w.aa.change⟩:ah)=n:=hI.fC;unfold gT BO wN;simp only[hd,Yj,hg,VT,hi,uF,r8]
 by_cases hs:o.state=2
 ·have u9:=hG.Ke hs
  have Ba:o.aO.toNat<o.aK.length:=Yn;have ht:o.aK[o.aO.toNat]?=YW o.aK[o.aO.toNat]:=VV Ba;generalize o.aK[o.aO.toNat]=t at ht
  have hgw:aB o.aK o.aO=YW t:=by unfold aB;grind
  have zh:=hG.bk t (VW ht);obtain⟨y,hy,_⟩:=fp hf zh;obtain⟨t1,t2,t3,t4,t5⟩:=cY hf hn zh;have KQ:cq n t=y.aY:=by unfold cq;grind
  have hyl:aB w.aa.aA t.bH=YW y:=by grind
  have zi:aM (o.aO+1)=o.aO+1:=aR (by have:=hG.len;omega)
  simp only[Ya hs,V3,Yk,hgw,VT,t2]
  by_cases he:dP n t=aQ
  ·have inv1:∀os:List az,pO { w with aj:=os}:=λos=>⟨hI.aN.skip,hI.aN.len,hI.aN.bg⟩
   have ea:cD n aQ o=B9 n aQ o t:=by unfold cD;grind
   have ed:iK n aQ i o=⟨((i+1:Nat):Int),aQ,2,⟨#[]⟩,t⟩::(if cq n t=o.aY then [⟨((i+1:Nat):Int),aQ,4,cq n t,⟨0,0⟩⟩]else []):=by unfold iK;grind
   unfold mu;rw[ea,ed];unfold B9;simp only[Ya he,V3,Yk,hr,hgw,hyl,VT,D9,bq,I3,WN,zi];rw[show(⟨n,w.aj.set i ⟨o.ar,o.aY,o.aw,o.ab,o.aQ,o.eJ,o.aK,o.aO+1,1,y.aY,o.bQ⟩,w.au,w.ae,w.now,w.aN,w.skip,w.bg⟩:ax)={ w with aj:=w.aj.set i ⟨o.ar,o.aY,o.aw,o.ab,o.aQ,o.eJ,o.aK,o.aO+1,1,y.aY,o.bQ⟩}by rw[<-hI.fC]]
   rw[G0 (inv1 _)];have hr2:wQ (w.aj.set i (⟨o.ar,o.aY,o.aw,o.ab,o.aQ,o.eJ,o.aK,o.aO+1,1,y.aY,o.bQ⟩:az)) (i:Int)=YW ⟨o.ar,o.aY,o.aw,o.ab,o.aQ,o.eJ,o.aK,o.aO+1,1,y.aY,o.bQ⟩:=by
    unfold wQ;rw[aP,WM bX]
   simp only[VT,gD,hr2,KQ]
   by_cases hc:y.aY=o.aY
   ·have hr3:wQ (w.aj.set i (⟨o.ar,o.aY,o.aw,o.ab,o.aQ,o.eJ,o.aK,o.aO+1,3,y.aY,aQ⟩:az)) (i:Int)=YW ⟨o.ar,o.aY,o.aw,o.ab,o.aQ,o.eJ,o.aK,o.aO+1,3,y.aY,aQ⟩:=by
     unfold wQ;rw[aP,WM bX]
    simp only[Ya hc,Yj,List.set_set,hr3];have inv2:=vh (inv1 (w.aj.set i ⟨o.ar,o.aY,o.aw,o.ab,o.aQ,o.eJ,o.aK,o.aO+1,3,y.aY,aQ⟩)) (⟨((i+1:Nat):Int),aQ,2,⟨#[]⟩,t⟩:br);have e2:=G0 inv2 ⟨((i+1:Nat):Int),aQ,4,y.aY,⟨0,0⟩⟩;unfold gD at e2
    simp only[e2,VT,if_pos hc,gO,Wq,Wn,gD]
   ·simp only[Yg hc,Yk,if_neg hc,gO,Wq,Wn,gD]
  ·have ea:cD n aQ o=o:=by unfold cD;grind
   have ed:iK n aQ i o=[]:=by unfold iK;grind
   simp only[Yg he,WD,Yj,mu,ea,ed,gO,Wn,pK ho]
 ·have ea:cD n aQ o=o:=by
   unfold cD
   grind
  have ed:iK n aQ i o=[]:=by
   unfold iK
   grind
  simp only[Yg hs,WD,Yj,mu,ea,ed,gO,Wn,pK ho]
theorem ZaW{aQ:Int}(i:Nat)(o:az)(w:ax)(ho:w.aj[i]?=YW o)(hI:nf n 0 w)(hG:qV n o):
 iZ aQ (BO i w)=YW (.inl (BO ((i+1:Nat):Int) (mu (cD n aQ) (iK n aQ) i o w))):=by
 have bX:=(VU.1 ho).1;have hgg:=hG.aO;have hg:aB w.aj (i:Int)=YW o:=by rw[aP];omega
 have hi:aM ((i:Int)+1)=((i+1:Nat):Int):=bG bX (by have:=hI.aj;omega)
 have hd:Y0 ((i:Int)<(w.aj.length:Int))=true:=Ya Yn;have I3:(⟨w.aa.aA,w.aa.off,w.aa.change⟩:ah)=n:=hI.fC;unfold iZ BO wN;simp only[hd,Yj,hg,VT,hi,I3]
 by_cases hs:o.state=2
 ·have u9:=hG.Ke hs
  have Ba:o.aO.toNat<o.aK.length:=Yn;have ht:o.aK[o.aO.toNat]?=YW o.aK[o.aO.toNat]:=VV Ba;generalize o.aK[o.aO.toNat]=t at ht
  have hgw:aB o.aK o.aO=YW t:=by unfold aB;grind
  have zh:=hG.bk t (VW ht);obtain⟨y,hy,_⟩:=fp hf zh;obtain⟨t1,t2,t3,t4,t5⟩:=cY hf hn zh;have KQ:cq n t=y.aY:=by unfold cq;grind
  have zi:aM (o.aO+1)=o.aO+1:=aR (by have:=hG.len;omega)
  simp only[Ya hs,V3,Yk,hgw,VT,t2]
  by_cases he:dP n t=aQ
  ·have ea:cD n aQ o=B9 n aQ o t:=by unfold cD;grind
   have ed:iK n aQ i o=⟨((i+1:Nat):Int),aQ,2,⟨#[]⟩,t⟩::(if cq n t=o.aY then [⟨((i+1:Nat):Int),aQ,4,cq n t,⟨0,0⟩⟩]else []):=by unfold iK;grind
   unfold mu;rw[ea,ed];unfold B9;simp only[Ya he,V3,D9,bq,WN,zi];have e1:=G6 hI.aN ⟨((i+1:Nat):Int),aQ,2,⟨#[]⟩,t⟩;have hw:w=⟨n,w.aj,w.au,w.ae,w.now,w.aN,w.skip,w.bg⟩:=by rw[<-hI.fC]
   rw[<-hI.fC]at hy
   rw[show(⟨n,w.aj,w.au,w.ae,w.now,w.aN,w.skip,w.bg⟩:ax)=w from hw.symm,e1];simp only[VT,gD,hg,hy,KQ]
   by_cases hc:y.aY=o.aY
   ·have inv2:pO { gD w ⟨((i+1:Nat):Int),aQ,2,⟨#[]⟩,t⟩with aj:=w.aj.set i ⟨o.ar,o.aY,o.aw,o.ab,o.aQ,o.eJ,o.aK,o.aO+1,3,y.aY,aQ⟩}:=by
     obtain⟨a,b,c⟩:=vh hI.aN ⟨((i+1:Nat):Int),aQ,2,⟨#[]⟩,t⟩;exact⟨a,b,c⟩
    have e2:=G6 inv2 ⟨((i+1:Nat):Int),aQ,4,o.aY,⟨0,0⟩⟩;unfold gD at e2
    simp only[if_pos hc,gO,Wq,gD]
    grind
   ·simp only[Yg hc,Yk,if_neg hc,gO,Wq,Wn,gD]
  ·have ea:cD n aQ o=o:=by unfold cD;grind
   have ed:iK n aQ i o=[]:=by unfold iK;grind
   simp only[Yg he,WD,Yj,mu,ea,ed,gO,Wn,pK ho]
 ·have ea:cD n aQ o=o:=by
   unfold cD
   grind
  have ed:iK n aQ i o=[]:=by
   unfold iK
   grind
  simp only[Yg hs,WD,Yj,mu,ea,ed,gO,Wn,pK ho]
theorem ZaX(w0:ax)(h0:w0.aa=n)(o0:OwT){aQ:Int}(i:Nat)(o:az)(w:ax)(hl:w.aj.length=o0.2.2.2.2.2.1.length)(ho:w.aj[i]?=YW o)(hI:nf n 0 w)(hG:qV n o):
 gU w0 aQ o0 (BO i w)=YW (.inl (BO ((i+1:Nat):Int) (mu (oj n aQ) (qE n aQ) i o w))):=by
 have bX:=(VU.1 ho).1;have hgg:=hG.aO;have hg:aB w.aj (i:Int)=YW o:=by rw[aP];omega
 have hr:wQ w.aj (i:Int)=YW o:=hg;have hi:aM ((i:Int)+1)=((i+1:Nat):Int):=bG bX (by have:=hI.aj;omega)
 have hd:Y0 ((i:Int)<(o0.2.2.2.2.2.1.length:Int))=true:=Ya Yn;have uF:(⟨w.aa.aA,w.aa.off,w0.aa.change⟩:ah)=n:=by rw[hI.fC,h0]
 unfold gU BO wN;simp only[hd,Yj,hg,VT,hi,uF,ql]
 by_cases hs:o.state=1
 ·by_cases u9:o.aO<o.aK.length
  ·have Ba:o.aO.toNat<o.aK.length:=Yn
   have ht:o.aK[o.aO.toNat]?=YW o.aK[o.aO.toNat]:=VV Ba;generalize o.aK[o.aO.toNat]=t at ht
   have hgw:aB o.aK o.aO=YW t:=by unfold aB;grind
   have zh:=hG.bk t (VW ht);obtain⟨t1,t2,t3,t4,t5⟩:=cY hf hn zh;simp only[Ya hs,Ya u9,Yj,hgw,VT,t1]
   by_cases he:cS n t=aQ
   ·have ea:oj n aQ o=⟨o.ar,o.aY,o.aw,o.ab,o.aQ,o.eJ,o.aK,o.aO,2,⟨#[]⟩,o.bQ⟩:=by unfold oj;grind
    have ed:qE n aQ i o=[⟨((i+1:Nat):Int),aQ,3,⟨#[]⟩,t⟩]:=by unfold qE;grind
    have hr2:wQ (w.aj.set i (⟨o.ar,o.aY,o.aw,o.ab,o.aQ,o.eJ,o.aK,o.aO,2,⟨#[]⟩,o.bQ⟩:az)) (i:Int)=YW ⟨o.ar,o.aY,o.aw,o.ab,o.aQ,o.eJ,o.aK,o.aO,2,⟨#[]⟩,o.bQ⟩:=by
     unfold wQ;rw[aP,WM bX]
    have inv1:pO { w with aj:=w.aj.set i ⟨o.ar,o.aY,o.aw,o.ab,o.aQ,o.eJ,o.aK,o.aO,2,⟨#[]⟩,o.bQ⟩}:=⟨hI.aN.skip,hI.aN.len,hI.aN.bg⟩
    have e1:=G0 inv1 ⟨((i+1:Nat):Int),aQ,3,⟨#[]⟩,t⟩;have hnw:w.aa=n:=hI.fC;simp only[hnw]at e1
    unfold mu;rw[ea,ed];simp only[Ya he,Yj,hr,VT,D9,bq,oe,WN,hr2,hgw,e1,gO,Wq,Wn,hnw]
   ·obtain⟨ea,ed⟩:=su (n:=n) (aQ:=aQ) (i:=i) (.inr (.inr ⟨t,ht,he⟩))
    simp only[Yg he,Yk,mu,ea,ed,gO,Wn,pK ho]
  ·obtain⟨ea,ed⟩:=su (n:=n) (aQ:=aQ) (i:=i) (o:=o) (.inr (.inl (Xf Yn)))
   simp only[Ya hs,Yg u9,Yj,Yk,mu,ea,ed,gO,Wn,pK ho]
 ·obtain⟨ea,ed⟩:=su (n:=n) (aQ:=aQ) (i:=i) (o:=o) (.inl hs)
  simp only[Yg hs,Yk,mu,ea,ed,gO,Wn,pK ho]
theorem ZaY{aQ:Int}(i:Nat)(o:az)(w:ax)(ho:w.aj[i]?=YW o)(hI:nf n 0 w)(hG:qV n o):
 ja aQ (BO i w)=YW (.inl (BO ((i+1:Nat):Int) (mu (oj n aQ) (qE n aQ) i o w))):=by
 have bX:=(VU.1 ho).1;have hgg:=hG.aO;have hg:aB w.aj (i:Int)=YW o:=by rw[aP];omega
 have hi:aM ((i:Int)+1)=((i+1:Nat):Int):=bG bX (by have:=hI.aj;omega)
 have hd:Y0 ((i:Int)<(w.aj.length:Int))=true:=Ya Yn;have I3:(⟨w.aa.aA,w.aa.off,w.aa.change⟩:ah)=n:=hI.fC;unfold ja BO wN;simp only[hd,Yj,hg,VT,hi,I3]
 by_cases hs:o.state=1
 ·by_cases u9:o.aO<o.aK.length
  ·have Ba:o.aO.toNat<o.aK.length:=Yn
   have ht:o.aK[o.aO.toNat]?=YW o.aK[o.aO.toNat]:=VV Ba;generalize o.aK[o.aO.toNat]=t at ht
   have hgw:aB o.aK o.aO=YW t:=by unfold aB;grind
   have zh:=hG.bk t (VW ht);obtain⟨t1,t2,t3,t4,t5⟩:=cY hf hn zh;simp only[Ya hs,Ya u9,Yj,hgw,VT,t1]
   by_cases he:cS n t=aQ
   ·have ea:oj n aQ o=⟨o.ar,o.aY,o.aw,o.ab,o.aQ,o.eJ,o.aK,o.aO,2,⟨#[]⟩,o.bQ⟩:=by unfold oj;grind
    have ed:qE n aQ i o=[⟨((i+1:Nat):Int),aQ,3,⟨#[]⟩,t⟩]:=by unfold qE;grind
    have inv1:pO { w with aj:=w.aj.set i ⟨o.ar,o.aY,o.aw,o.ab,o.aQ,o.eJ,o.aK,o.aO,2,⟨#[]⟩,o.bQ⟩}:=⟨hI.aN.skip,hI.aN.len,hI.aN.bg⟩
    have e1:=G6 inv1 ⟨((i+1:Nat):Int),aQ,3,⟨#[]⟩,t⟩;have hnw:w.aa=n:=hI.fC;simp only[hnw]at e1
    unfold mu;rw[ea,ed];simp only[Ya he,Yj,VT,D9,bq,WN,e1,gO,Wq,Wn,hnw]
   ·obtain⟨ea,ed⟩:=su (n:=n) (aQ:=aQ) (i:=i) (.inr (.inr ⟨t,ht,he⟩))
    simp only[Yg he,Yk,mu,ea,ed,gO,Wn,pK ho]
  ·obtain⟨ea,ed⟩:=su (n:=n) (aQ:=aQ) (i:=i) (o:=o) (.inr (.inl (Xf Yn)))
   simp only[Ya hs,Yg u9,Yj,Yk,mu,ea,ed,gO,Wn,pK ho]
 ·obtain⟨ea,ed⟩:=su (n:=n) (aQ:=aQ) (i:=i) (o:=o) (.inl hs)
  simp only[Yg hs,Yk,mu,ea,ed,gO,Wn,pK ho]
end
structure Eu(w:ax):Prop where
 fC:cU w.aa
 NC:aW w.aa=YW YY
 inv:nf w.aa 0 w
 ord:∀o∈w.aj,qV w.aa o
theorem JR{n:ah}{aQ:Int}{o:az}(h:qV n o):qV n (cD n aQ o):=by
 have hs:=vl n aQ o;refine⟨?_,by rw[hs.aK];exact h.len,by rw[hs.aK];exact h.bk,?_⟩
 ·have:=h.aO
  unfold cD
  split
  ·rename_i t ht
   split
   ·unfold B9;grind
   omega
  omega
 ·unfold cD
  split
  ·split
   ·unfold B9;grind
   grind
  ·exact h.Ke
theorem AB(h:Eu w)(aQ:Int):lW w aQ=YW (gv w aQ)/\nS w aQ=YW (gv w aQ):=by
 have hlen:=h.inv.aj;have p1:ub (cD w.aa aQ) (iK w.aa aQ) 0 w.aj w={ w with aj:=w.aj.map (cD w.aa aQ),aN:=((pX (iK w.aa aQ) 0 w.aj).foldl (og w.skip) (w.aN,w.bg)).1,bg:=((pX (iK w.aa aQ) 0 w.aj).foldl (og w.skip) (w.aN,w.bg)).2}:=by
  have:=Dm (cD w.aa aQ) (iK w.aa aQ) w.aj [] w rfl
  grind
 have i1:nf w.aa 0 (ub (cD w.aa aQ) (iK w.aa aQ) 0 w.aj w):=by
  have:∀(os:List az) (i:Nat) (v:ax),nf w.aa 0 v->nf w.aa 0 (ub (cD w.aa aQ) (iK w.aa aQ) i os v):=by
   intro os
   induction os with
   |nil=>intro i v hv;exact hv
   |cons o os ih=>intro i v hv;exact ih (i+1) _ (hv.step _ _ i o)
  exact this _ _ _ h.inv
 have p2:=Dm (oj w.aa aQ) (qE w.aa aQ) (w.aj.map (cD w.aa aQ)) [] (ub (cD w.aa aQ) (iK w.aa aQ) 0 w.aj w) Yr;simp at p2
 have Sl:∀(j:Nat) (o:az),w.aj[j]?=YW o->qV w.aa o:=λj o ho=>h.ord o (VW ho)
 have Sm:∀(j:Nat) (o:az),(w.aj.map (cD w.aa aQ))[j]?=YW o->qV w.aa o:=λj o ho=>by
  rw[List.getElem?_map]at ho
  obtain⟨o0,h0,rfl⟩:=Wb.1 ho;exact JR (Sl j o0 h0)
 have fin:∀v:ax,v=ub (oj w.aa aQ) (qE w.aa aQ) 0 (w.aj.map (cD w.aa aQ)) (ub (cD w.aa aQ) (iK w.aa aQ) 0 w.aj w)->{ v with now:=aQ}=gv w aQ:=by
  rw[p2,p1];unfold gv DH pM;simp
 constructor
 ·unfold lW
  have l1:=tV (f:=cD w.aa aQ) (g:=iK w.aa aQ) (body:=gT w aQ) (n:=w.aj.length) (Inv:=nf w.aa 0) (Good:=λ_ o=>qV w.aa o)
   (λi o v hv ho hI hG=>⟨ZaV h.fC h.NC w rfl hlen i o v hv ho hI hG,hI.step _ _ i o⟩)
   (λv hv=>by unfold gT BO wN;simp) w.aj 0 NN w rfl rfl (Ww _) Ys h.inv Sl
  have e1:((0:Int),w.aa.change,w.now,w.bg,w.aa.aA,w.aa.off,w.aj,w.au,w.ae,w.skip,w.aN)=BO ((0:Nat):Int) w:=rfl;rw[e1,l1,VT];generalize hv1:ub (cD w.aa aQ) (iK w.aa aQ) 0 w.aj w=v1 at *
  have l2:=tV (f:=oj w.aa aQ) (g:=qE w.aa aQ) (body:=gU w aQ (wN v1)) (n:=v1.aj.length) (Inv:=nf w.aa 0) (Good:=λ_ o=>qV w.aa o)
   (λi o v hv ho hI hG=>⟨ZaX h.fC h.NC w rfl (wN v1) i o v hv ho hI hG,hI.step _ _ i o⟩)
   (λv hv=>by unfold gU BO wN;simp) (w.aj.map (cD w.aa aQ)) 0 NN v1 Yr rfl (Ww _) (by rw[Wj];unfold NN;omega) i1 Sm
  have e2:((0:Int),(wN v1).1,(wN v1).2.1,(wN v1).2.2.1,(wN v1).2.2.2.1,(wN v1).2.2.2.2.1,(wN v1).2.2.2.2.2.1,(wN v1).2.2.2.2.2.2.1,(wN v1).2.2.2.2.2.2.2.1,(wN v1).2.2.2.2.2.2.2.2.1,(wN v1).2.2.2.2.2.2.2.2.2)=BO ((0:Nat):Int) v1:=rfl;rw[e2,l2];exact congrArg YW (fin _ rfl)
 ·unfold nS
  have l1:=tV (f:=cD w.aa aQ) (g:=iK w.aa aQ) (body:=iZ aQ) (n:=w.aj.length) (Inv:=nf w.aa 0) (Good:=λ_ o=>qV w.aa o)
   (λi o v hv ho hI hG=>⟨ZaW h.fC h.NC i o v ho hI hG,hI.step _ _ i o⟩)
   (λv hv=>by unfold iZ BO wN;grind) w.aj 0 NN w rfl rfl (Ww _) Ys h.inv Sl
  have e1:((0:Int),w.aa.change,w.now,w.bg,w.aa.aA,w.aa.off,w.aj,w.au,w.ae,w.skip,w.aN)=BO ((0:Nat):Int) w:=rfl;rw[e1,l1,VT];generalize hv1:ub (cD w.aa aQ) (iK w.aa aQ) 0 w.aj w=v1 at *
  have l2:=tV (f:=oj w.aa aQ) (g:=qE w.aa aQ) (body:=ja aQ) (n:=v1.aj.length) (Inv:=nf w.aa 0) (Good:=λ_ o=>qV w.aa o)
   (λi o v hv ho hI hG=>⟨ZaY h.fC h.NC i o v ho hI hG,hI.step _ _ i o⟩)
   (λv hv=>by unfold ja BO wN;grind) (w.aj.map (cD w.aa aQ)) 0 NN v1 Yr rfl (Ww _) (by rw[Wj];unfold NN;omega) i1 Sm
  have e2:((0:Int),(wN v1).1,(wN v1).2.1,(wN v1).2.2.1,(wN v1).2.2.2.1,(wN v1).2.2.2.2.1,(wN v1).2.2.2.2.2.1,(wN v1).2.2.2.2.2.2.1,(wN v1).2.2.2.2.2.2.2.1,(wN v1).2.2.2.2.2.2.2.2.1,(wN v1).2.2.2.2.2.2.2.2.2)=BO ((0:Nat):Int) v1:=rfl;rw[e2,l2];exact congrArg YW (fin _ rfl)
theorem mD{σ ο:Type}{body:σ->Option (σ⊕ο)}(S:Nat->σ){n:Nat}{o:ο}(h1:∀i,i<n->body (S i)=YW (.inl (S (i+1))))(h2:body (S n)=YW (.inr o)):∀N,n<N->aE body N (S 0)=YW o:=by
 have key:∀d j,j+d=n->∀N,d<N->aE body N (S j)=YW o:=by
  intro d
  induction d with
  |zero=>
   intro j hj N hN;have:j=n:=Yn;unfold aE;grind
  |succ d ih=>
   unfold aE
   grind
 grind
theorem Al{A α:Type}(f:A->α->A):∀(xs:List α) (i:Nat) (a:A),uf (λ_ a x=>YW (.inl (f a x):A⊕A)) YW i xs a=YW (xs.foldl f a)
 | [],i,a=>rfl
 |x::xs,i,a=>by
  exact Al f xs (i+1) (f a x)
theorem Gt(h:qw w):gQ w=YW (gm w):=by
 have uF:=h.fC;have hor:=h.fit.aj;have e1:aE (fq w) NN ((-1),0)=YW (gm w):=by
  rw[rf (xs:=w.aj) (A:=Int) (λa i=>(a,i)) (λ_ a o=>YW (.inl (qT a (eA w.aa o)))) YW (λa i o ho=>?_) (λa=>?_) Ys (-1)]
  ·exact Al (λa o=>qT a (eA w.aa o)) w.aj 0 (-1)
  ·have bX:=(VU.1 ho).1
   have hg:aB w.aj (i:Int)=YW o:=by rw[aP];omega
   have hi:aM ((i:Int)+1)=((i+1:Nat):Int):=bG bX Yn;have hok:=mX h.fit h.ok ho;unfold fq;simp only[Ya (show(i:Int)<w.aj.length by omega),hg,VT,hi,ql,r8]
   by_cases u9:o.aO<o.aK.length
   ·obtain⟨t,htg,zh⟩:=D0 h.fit h.ok ho hok.aO.1 u9
    obtain⟨t1,t2,t3,t4,t5⟩:=cY h.fit.fC uF zh;have ht:o.aK[o.aO.toNat]?=YW t:=by unfold aB at htg;grind
    have ev:eA w.aa o=YW (if o.state=2 then dP w.aa t else cS w.aa t):=by unfold eA;grind
    simp only[qT]
    rcases hok.cases with⟨c1,_⟩ |⟨c1,_⟩ |⟨c1,c2,_⟩
    all_goals grind
   ·have ev:eA w.aa o=none:=by unfold eA;grind
    rw[ev,Yg u9]
    rcases hok.cases with⟨c1,_⟩ |⟨c1,_⟩ |⟨c1,c2,_⟩
    ·rw[c1];rfl
    ·omega
    ·rw[c1];rfl
  ·unfold fq
   simp
 unfold gQ
 grind
theorem ZaK(h:qw w):mT w=YW (gm w):=by
 have h1:=ZaI h.fit h.ok;rw[Gt h]at h1
 unfold mT;rw[qg h.fit,h.ok]
 grind
theorem x8{n c:Nat}(h:n<=1048576)(hc:c<=1024):cr (bn (0+n) c)=YW ():=ff Yn hc
theorem ZgR{n c:Nat}(h:n<=1048576)(hc:c<=1024):cr (bn n c)=YW ():=by have:=x8 h hc;grind
theorem OP{n:ah}(h:cU n):jz n=YW n:=by
 unfold jz;simp only[V1,x8 h.aA (show 64<=1024 by omega),x8 h.off (show 8<=1024 by omega),VT,WK]
theorem s9{l:List av}(h:l.length<=1048576):fh l=YW l:=by
 unfold fh;simp only[V1,x8 h (show 16<=1024 by omega),VT,WK]
theorem Lh{l:List aq}(h:l.length<=1048576):gr l=YW l:=by
 unfold gr;simp only[V1,x8 h (show 32<=1024 by omega),VT,WK]
theorem uN{xs:List α}{i:Nat}{x:α}(h:xs[i]?=YW x):xs.take i++[x]=xs.take (i+1):=by
 rw[List.take_add_one,h];rfl
theorem ya(h:rF w):dL w=YW w:=by
 have hor:=h.aj;unfold dL;rw[OP h.fC,Lh h.au,s9 h.ae];have e:aE (gb w w.aa w.au w.ae) NN (0,[])=YW w.aj:=by
  have:=mD (body:=gb w w.aa w.au w.ae) (λi:Nat=>((i:Int),w.aj.take i)) (n:=w.aj.length) (o:=w.aj) (λi hi=>?_) ?_ NN Ys
  ·grind
  ·have ho:w.aj[i]?=YW w.aj[i]:=VV hi
   have hg:aB w.aj (i:Int)=YW w.aj[i]:=by rw[aP];omega
   have hw:aM ((i:Int)+1)=((i+1:Nat):Int):=bG hi Yn;have hl:(w.aj.take i).length+1<=1048576:=by grind
   unfold gb;simp only[Ya (show(i:Int)<w.aj.length by omega),Yj,hg,VT,s9 (h.aK _ (Wp hi)),V0,V1,ff hl (show 128<=1024 by omega),hw]
   rw[<-uN ho]
  ·unfold gb
   simp
 simp only[V1,x8 h.aN (show 56<=1024 by omega),x8 h.skip (show 8<=1024 by omega),VT,e,WK]
theorem xl{l:List Int}(h:l.length<=1048576):eF l=YW l:=by
 unfold eF;simp only[V1,x8 h (show 8<=1024 by omega),VT,WK]
theorem qY{l:List aq}(h:l.length<=1048576):kn l=YW l:=by
 unfold kn;simp only[V1,x8 h (show 32<=1024 by omega),VT,WK]
theorem wk(h:rF w):eC w=YW w:=by
 have hor:=h.aj;unfold eC;have e:aE (iD w w.aa.off) NN (0,([]:List az))=YW w.aj:=by
  have:=mD (body:=iD w w.aa.off) (λi:Nat=>((i:Int),w.aj.take i)) (n:=w.aj.length) (o:=w.aj) (λi hi=>?_) ?_ NN Ys
  ·grind
  ·have ho:w.aj[i]?=YW w.aj[i]:=VV hi
   have hg:aB w.aj (i:Int)=YW w.aj[i]:=by rw[aP];omega
   have hw:aM ((i:Int)+1)=((i+1:Nat):Int):=bG hi Yn;have hl:(w.aj.take i).length+1<=1048576:=by grind
   unfold iD;simp only[Ya (show(i:Int)<w.aj.length by omega),Yj,hg,VT,ZgR (h.aK _ (Wp hi)) (show 16<=1024 by omega),A8,V0,V1,Nat.zero_add,ff hl (show 128<=1024 by omega),hw,WK]
   rw[<-uN ho]
  ·unfold iD
   simp
 simp only[V1,x8 h.fC.aA (show 64<=1024 by omega),xl h.fC.off,xl h.skip,x8 h.ae (show 16<=1024 by omega),x8 h.aN (show 56<=1024 by omega),VT,e,qY h.au,WK]
abbrev OwA:=Int×Int×Int×(List bP)×(List Int)×(List az)×(List aq)×(List av)×(List br)×(List Int)
def owA(w:ax):OwA:=(w.aa.change,w.now,w.bg,w.aa.aA,w.aa.off,w.aj,w.au,w.ae,w.aN,w.skip)
theorem qw.pass(h:qw w):Eu w:=by
 have hp:=h.parts;refine⟨h.fit.fC,h.fC,⟨rfl,⟨h.fit.skip,hp.2.2.2.1,Yn⟩,h.fit.aj⟩,λo ho=>?_⟩
 obtain⟨i,hi,rfl⟩:=List.getElem_of_mem ho;have hok:=mX h.fit h.ok (VV hi);refine⟨hok.aO,h.fit.aK _ ho,hok.bk,λhs=>?_⟩
 rcases hok.cases with⟨c,_⟩ |⟨_,c⟩ |⟨c,_⟩
 all_goals omega
theorem yR(h:gm w<0\/u<gm w):tz k w u=w:=by
 cases k with
 |zero=>rfl
 |succ k=>unfold tz;grind
theorem Uc(h:qw w)(hk:pk w<=k)(hu:u<=100000)(hc:¬(gm w<0\/u<gm w)):tz k w u=tz (k-1) (gv w (gm w)) u:=by
 have:=rI h Yn
 cases k with
 |zero=>omega
 |succ k=>
  rw[Nat.add_sub_cancel]
  conv=>lhs;unfold tz;rw[if_neg hc]
theorem BZ{u:Int}(hu:u<=100000):∀(N k:Nat) (w:ax),qw w->pk w<=k->k<N->aE (j5 u) N (gm w,owA w)=YW (owA (tz k w u))
 |0,k,w,_,_,hN=>Yn
 |N+1,k,w,h,hk,hN=>by
  simp only[aE];unfold j5;simp only[owA]
  by_cases h0:0<=gm w
  ·by_cases h1:gm w<=u
   ·obtain⟨a,b,c⟩:=tb h h0
    have ht:=rI h h0;have hb:=(AB h.pass (gm w)).1;rw[Uc h hk hu Yn];simp only[Ya h0,Ya h1,VT,hb,Gt a];exact BZ hu N (k-1) _ a Yn Yn
   ·rw[yR (.inr Yn)]
    grind
  ·rw[yR (.inl Yn)]
   grind
theorem Oz(hf:rF w)(u:Int):jS w u=YW (if fB w=YY/\w.now<=u/\u<=100000 then FP w u else w):=by
 unfold jS;rw[ya hf,sG hf,gY,cN]
 cases hv:fB w with
 |false=>simp
 |true=>
  have h:qw w:=⟨hf,hv⟩
  by_cases h1:w.now<=u
  ·by_cases h2:u<=100000
   ·have e:(gm w,w.aa.change,w.now,w.bg,w.aa.aA,w.aa.off,w.aj,w.au,w.ae,w.aN,w.skip)=(gm w,owA w):=rfl
    have hp:=h.parts;have hN:pk w<NN:=by
     have:∀l:List az,(∀o∈l,o.aK.length<=1048576)->(l.map jo).sum<=2097152*l.length:=by
      intro l
      induction l with
      |nil=>simp
      |cons o l ih=>
       intro hl;have h2:=hl o Wo;have h3:jo o<=2*o.aK.length:=by unfold jo;omega
       grind
     have:=this w.aj hf.aK;unfold pk NN;omega
    simp only[Gt h,VT,h1,h2,e,BZ h2 NN (pk w) w h (VY _) hN];rfl
   grind
  grind
theorem Oi(h:qw w):pk w<=240:=by
 have hp:=h.parts;have hv:=h.ok;unfold fB at hv
 simp at hv
 have ht:=hv.2;have key:∀(l:List az) (a:Int),(∀o∈l,o.aK.length<=1048576)->l.length<=30->0<=a->a<=1048576*(30-l.length:Nat)->l.foldl (λa o=>aM (a+(o.aK.length:Int))) a=a+((l.map λo=>o.aK.length).sum:Nat):=by
  intro l
  induction l with
  |nil=>simp
  |cons o l ih=>
   intro a hl hn h0 h1;have h2:=hl o Wo;have hw:aM (a+(o.aK.length:Int))=a+(o.aK.length:Int):=aR Yn
   grind
 have hs:=key w.aj 0 h.fit.aK hp.2.1 Yn Yn;unfold uP at ht
 have h2:pk w<=2*((w.aj.map λo=>o.aK.length).sum):=by
  unfold pk;have:∀l:List az,(l.map jo).sum<=2*(l.map λo=>o.aK.length).sum:=by
   intro l
   induction l with
   |nil=>simp
   |cons o l ih=>
    have:jo o<=2*o.aK.length:=by unfold jo;omega
    grind
  grind
 omega
theorem B5{u:Int}(hu:u<=100000):∀(N k j:Nat) (w:ax),qw w->pk w<=k->j+k=240->k<N->aE (lf u) N ((j:Int),owA w)=YW (owA (tz k w u))
 |0,k,j,w,_,_,_,hN=>Yn
 |N+1,k,j,w,h,hk,hj,hN=>by
  simp only[aE];unfold lf;simp only[owA]
  by_cases hj2:j<240
  ·simp only[Ya (show(j:Int)<240 by omega),ZaK h]
   by_cases h0:gm w<0
   ·rw[yR (.inl h0)]
    grind
   ·by_cases h1:u<gm w
    ·rw[yR (.inr h1)]
     grind
    ·obtain⟨a,b,c⟩:=tb h Yn
     have ht:=rI h Yn;have hb:=(AB h.pass (gm w)).2;have zi:aM ((j:Int)+1)=((j+1:Nat):Int):=by rw[aR Yn];omega
     rw[Uc h hk hu Yn];simp only[Yg h0,Yg h1,Yk,bq,VT,hb,zi];exact B5 hu N (k-1) (j+1) _ a Yn Yn Yn
  ·have BB:k=0:=Yn
   subst BB;simp only[Yg (show ¬(j:Int)<240 by omega)]
   rfl
theorem zm(hf:rF w)(u:Int):fO w u=YW (if fB w=YY/\w.now<=u/\u<=100000 then FP w u else w):=by
 unfold fO;rw[wk hf,qg hf,cN]
 cases hv:fB w with
 |false=>simp
 |true=>
  have h:qw w:=⟨hf,hv⟩
  by_cases h1:w.now<=u
  ·by_cases h2:u<=100000
   ·have e:((0:Int),w.aa.change,w.now,w.bg,w.aa.aA,w.aa.off,w.aj,w.au,w.ae,w.aN,w.skip)=(((0:Nat):Int),owA w):=rfl
    simp only[V3,Yk,Ya h1,Ya h2,Bool.and_self,h1,h2,and_self,if_true,e,B5 h2 NN 240 0 w h (Oi h) rfl Ys,VT];rw[Zbo h (Oi h) (VY _) h2];rfl
   grind
  grind
def cW(x:bc):Ln:=⟨x.order,x.kind,x.bC,x.aQ⟩
theorem pN(n:Int):aM n=wrap64 n:=IntWalk.i64_left n
theorem NU(c x:Int):IntKind.i64.wrap ((aM (c*x)).tdiv 100)=Tv c x:=by unfold Tv;rw[<-pN,<-pN]
theorem vD(x:bc):ml x=YW (rK x.order x.kind x.bC x.aQ):=by
 unfold ml rK vC;simp only[um]
 grind
theorem yt(x:bc):n9 x=YW (rK x.order x.kind x.bC x.aQ):=by
 rw[<-vD];rfl
theorem R7(f:Int->Ln->Int)(l:List bc)(a:Int):l.foldl (λa x=>f a (cW x)) a=(l.map cW).foldl f a:=by rw[List.foldl_map]
theorem CZ{l:List bc}{body:Int×Int->Option ((Int×Int)⊕Int)}(f:Int->Ln->Int)(hl:l.length<=1048576)
 (h1:∀a (i:Nat) x,l[i]?=YW x->body (a,(i:Int))=YW (.inl (f a (cW x),aM ((i:Int)+1)))) (h2:∀a,body (a,(l.length:Int))=YW (.inr a)):aE body NN (0,0)=YW ((l.map cW).foldl f 0):=by
 refine(rf (fun(a:Int) (i:Int)=>(a,i)) (λ_ a x=>YW (.inl (f a (cW x)))) YW (λa i x hx=>?_) (λa=>by rw[h2];rfl) Ys 0).trans ?_
 ·rw[h1 a i x hx,bG (VU.1 hx).1 Yn];rfl
 ·rw[Al,R7]
section
variable {l:List bc} (hl:l.length<=1048576)
include hl
theorem Fz(o k:Int):eo l o k=YW (fF (l.map cW) o k):=by
 unfold eo fF;rw[CZ (pY o k) hl (λa i x hx=>?_) λa=>by unfold pT;simp]
 ·rfl
 ·have hg:aB l (i:Int)=YW x:=by rw[aP];omega
  unfold pT;simp only[mE,pY,cW,pN]
  grind
theorem FB(o k:Int):eX l o k=YW (fF (l.map cW) o k):=by
 unfold eX fF;rw[CZ (pY o k) hl (λa i x hx=>?_) λa=>by unfold pU;simp]
 ·rfl
 ·have hg:aB l (i:Int)=YW x:=by rw[aP];omega
  unfold pU;simp only[mE,pY,cW,pN]
  grind
theorem Nf(o k:Int):lH l o k=YW (x9 (l.map cW) o k):=by
 unfold lH x9;rw[CZ (r7 o k) hl (λa i x hx=>?_) λa=>by unfold nA;simp]
 ·rfl
 ·have hg:aB l (i:Int)=YW x:=by rw[aP];omega
  unfold nA;simp only[mE,r7,cW,pN]
  grind
theorem yA:bM l=YW l:=by unfold bM;rw[ff Yr Yn];rfl
theorem yB:ca l=YW l:=by unfold ca;rw[ff Yr Yn];rfl
end
theorem Zdm{l:List bc}{i:Nat}{x:bc}(hx:l[i]?=YW x):(l.map cW).getD i default=cW x:=by grind
theorem NG(l:List bc)(i:Nat):(l.take i).map cW=(l.map cW).take i:=List.map_take
theorem PC{l:List bc}{i:Nat}{x:bc}(hx:l[i]?=YW x):uH (l.map cW) i=(!xX (l.map cW) i (cW x)&&vv ((l.map cW).take i) (cW x)):=by
 unfold uH;grind
theorem bad_eq{l:List bc}{i:Nat}{x:bc}:xX (l.map cW) i (cW x)=(!rK x.order x.kind x.bC x.aQ ||Y0 (0<i)&&Y0 (x.aQ<((l.map cW).getD (i-1) default).t)):=rfl
theorem Zcb{x:bc}(h:rK x.order x.kind x.bC x.aQ=YY):x.kind=1\/x.kind=2\/x.kind=3:=Zaq (x:=cW x) h
theorem BK{l:List bc}{i:Nat}(hi:i<l.length)(hl:l.length<=200)(t:Int):(cond (Y0 (0<(i:Int))) ((aB l (aM ((i:Int)-1))).bind λy=>cond (Y0 (t<y.aQ)) (YW (.inr YZ)) (YW (.inl ()))) (YW (.inl ())):Option (Unit⊕Bool))=
 YW (if(Y0 (0<i)&&Y0 (t<((l.map cW).getD (i-1) default).t))=YY then .inr YZ else .inl ()):=by
 cases i with
 |zero=>rfl
 |succ m=>
  have hm:l[m]?=YW l[m]:=VV Yn;have hw:aM (((m+1:Nat):Int)-1)=(m:Int):=by rw[aR Yn];omega
  rw[Ya (show(0:Int)<((m+1:Nat):Int)by omega),hw,aP,hm,Ya (show 0<m+1 by omega),Nat.add_sub_cancel,Zdm hm]
  show cond (Y0 (t<l[m].aQ)) _ _=YW (if Y0 (t<l[m].aQ)=YY then _ else _)
  grind
theorem C8{l:List bc}{body:Int->Option (Int⊕(Unit⊕Bool))}(hl:l.length<=200)
 (h1:∀(i:Nat) x,l[i]?=YW x->(∀j,j<i->uH (l.map cW) j=YY)->rK x.order x.kind x.bC x.aQ=YY->(Y0 (0<i)&&Y0 (x.aQ<((l.map cW).getD (i-1) default).t))=YZ->body (i:Int)=YW (if vv ((l.map cW).take i) (cW x)=YY then .inl ((i+1:Nat):Int)else .inr (.inr YZ)))
 (h0:∀(i:Nat) x,l[i]?=YW x->xX (l.map cW) i (cW x)=YY->body (i:Int)=YW (.inr (.inr YZ)))
 (h2:body (l.length:Int)=YW (.inr (.inl ()))):(aE body NN 0).bind (bh (λ_=>YW YY) (λr=>YW r))=YW (hZ (l.map cW)):=by
 unfold hZ;rw[Wj,Ya hl,oG (c:=uH (l.map cW)) (n:=l.length) (r:=.inr YZ) (e:=.inl ()) (λi hi hj=>?_) (λ_=>h2) Ys]
 ·unfold xS
  grind
 ·obtain⟨x,hx⟩:∃x,l[i]?=YW x:=⟨_,VV hi⟩
  rw[PC hx]
  cases hb:xX (l.map cW) i (cW x)with
  |true=>grind
  |false=>
   have Ga:=hb;rw[bad_eq,Bool.or_eq_false_iff]at Ga
   simp_all
section
variable {l:List bc} (h:l.length<=200) {i:Nat} {x:bc} (hx:l[i]?=YW x)
include h hx
theorem yC:i<l.length/\aB l (i:Int)=YW x/\cr (fJ 0 (i:Int) l.length)=YW ()/\(l.take i).length<=1048576/\Y0 ((i:Int)<l.length)=YY/\aM ((i:Int)+1)=((i+1:Nat):Int):=by
 have hi:=(VU.1 hx).1;exact⟨hi,by rw[aP];omega,ku (Ya ⟨Yn,Yn,Yn⟩),by grind,Ya Yn,bG hi Yn⟩
theorem Zen(hb:xX (l.map cW) i (cW x)=YY):gL l (i:Int)=YW (.inr (.inr YZ)):=by
 obtain⟨hi,hg,hs,bX,hd,hw⟩:=yC h hx;rw[bad_eq]at hb
 unfold gL;simp only[hd,Yj,mE,hg,VT,vD,BK hi h]
 grind
theorem Zeo(hb:xX (l.map cW) i (cW x)=YY):gN l (i:Int)=YW (.inr (.inr YZ)):=by
 obtain⟨hi,hg,hs,bX,hd,hw⟩:=yC h hx;rw[bad_eq]at hb
 unfold gN;simp only[hd,Yj,mE,hg,VT,yt,BK hi h]
 grind
theorem ZcZ(hl:rK x.order x.kind x.bC x.aQ=YY)(hb:(Y0 (0<i)&&Y0 (x.aQ<((l.map cW).getD (i-1) default).t))=YZ):
 gL l (i:Int)=YW (if vv ((l.map cW).take i) (cW x)=YY then .inl ((i+1:Nat):Int)else .inr (.inr YZ)):=by
 obtain⟨hi,hg,hs,bX,hd,hw⟩:=yC h hx;unfold gL;simp only[hd,Yj,mE,hg,VT,vD,hl,V3,Yk,BK hi h,hb,hs,ui,Fz bX,NG,hw,bh,WE,if_false]
 rcases Zcb hl with hk|hk|hk
 ·rw[ZeM (x:=cW x) hk]
  simp only[cW]
  grind
 ·rw[ZeN (x:=cW x) hk]
  simp only[cW,pN]
  grind
 ·rw[ZeO (x:=cW x) hk]
  simp only[cW]
  grind
theorem Zc0(hj:∀j,j<i->uH (l.map cW) j=YY)(hl:rK x.order x.kind x.bC x.aQ=YY)(hb:(Y0 (0<i)&&Y0 (x.aQ<((l.map cW).getD (i-1) default).t))=YZ):
 gN l (i:Int)=YW (if vv ((l.map cW).take i) (cW x)=YY then .inl ((i+1:Nat):Int)else .inr (.inr YZ)):=by
 obtain⟨hi,hg,hs,bX,hd,hw⟩:=yC h hx;have hc:=M9 (xs:=l.map cW) (i:=i) x.order 3 (zo.2 hj) Yn;unfold gN;simp only[hd,Yj,mE,hg,VT,yt,hl,V3,Yk,BK hi h,hb,hs,ui,FB bX,Nf bX,NG,hw,bh,WE,if_false,hc]
 rcases Zcb hl with hk|hk|hk
 ·rw[ZeM (x:=cW x) hk]
  simp only[hk,cW]
  grind
 ·rw[ZeN (x:=cW x) hk]
  simp only[hk,cW,pN]
  grind
 ·rw[ZeO (x:=cW x) hk]
  simp only[hk,cW,beq_iff_eq]
  grind
end
theorem wv(l:List bc):eu l=YW (hZ (l.map cW)):=by
 unfold eu
 by_cases h:l.length<=200
 ·rw[Yg (show ¬(200:Int)<l.length by omega)]
  exact C8 h (λi x hx _ hl hb=>ZcZ h hx hl hb) (λi x hx hb=>Zen h hx hb) (by unfold gL;simp)
 ·rw[Ya (show(200:Int)<l.length by omega),Yj,AO Yr]
theorem wz(l:List bc):ew l=YW (hZ (l.map cW)):=by
 unfold ew
 by_cases h:l.length<=200
 ·rw[Yg (show ¬(200:Int)<l.length by omega)]
  exact C8 h (λi x hx hj hl hb=>Zc0 h hx hj hl hb) (λi x hx hb=>Zeo h hx hb) (by unfold gN;simp)
 ·rw[Ya (show(200:Int)<l.length by omega),Yj,AO Yr]
/-! Zeg. -/
theorem Fe{l:List Int}(hl:l.length<=1048576){i:Nat}{x:Int}(hx:l[i]?=YW x):(cond (!(Y0 (0<=x)&&Y0 (x<=100))) (YW (.inr YZ)) (cond (Y0 (0<(i:Int))) ((aB l (aM ((i:Int)-1))).bind λy=>cond (Y0 (x<y)) (YW (.inr YZ)) (YW (.inl ()))) (YW (.inl ()))):Option (Unit⊕Bool))=
 YW (if sM l i=YY then .inl ()else .inr YZ):=by
 have vz:(Y0 (0<=x)&&Y0 (x<=100))=vC x 0 100:=rfl;rw[vz]
 cases h:vC x 0 100 with
 |false=>rw[P1 hx h];rfl
 |true=>
  cases i with
  |zero=>rw[Md (VY 0) hx h];rfl
  |succ m=>
   have bX:=(VU.1 hx).1;have hm:l[m]?=YW l[m]:=VV Yn;have hw:aM (((m+1:Nat):Int)-1)=(m:Int):=by rw[aR Yn];omega
   rw[hw,aP]
   by_cases hy:x<l[m]
   ·rw[Mc hm hx hy];grind
   ·rw[Tu hm hx h hy];grind
theorem Me{l:List Int}(hl:l.length<=1048576):eP l=YW (oT l):=by
 unfold eP oT;rw[oG (c:=sM l) (n:=l.length) (r:=.inr YZ) (e:=.inl ()) (λi hi _=>?_) (λ_=>by unfold ld;simp) Ys]
 ·unfold xS
  cases(Ws l.length).all (sM l)
  ·rfl
  ·rw[um];rfl
 ·have hx:l[i]?=YW l[i]:=VV hi
  unfold ld;simp only[mE,aP,hx,VT,um,Fe hl hx,bG hi Yn]
  grind
theorem Mf{l:List Int}(hl:l.length<=1048576):eU l=YW (oT l):=by
 unfold eU oT;rw[oG (c:=sM l) (n:=l.length) (r:=.inr YZ) (e:=.inl ()) (λi hi _=>?_) (λ_=>by unfold lh;simp) Ys]
 ·unfold xS
  cases(Ws l.length).all (sM l)
  ·rfl
  ·rw[cN];rfl
 ·have hx:l[i]?=YW l[i]:=VV hi
  unfold lh;simp only[mE,aP,hx,VT,cN,Fe hl hx,bG hi Yn]
  grind
/-! Ziu,ZhS,Zgl,Zi2,given back. -/
def uY(l:List bc)(x:bc):List bc×Int:=if 200<=l.length then(l,5)else if hZ ((l++[x]).map cW)=YY then(l++[x],0)else(l,1)
def s7(l:List bc)(o a t:Int):List bc×Int:=
 if hZ (l.map cW)=YZ then(l,1)else if rK o 1 a t=YZ then(l,1)else if Y0 (0<fF (l.map cW) o 1)=YY then(l,2)else uY l ⟨o,1,a,t⟩
def JS(l:List bc)(o a t:Int):List bc×Int:=
 if hZ (l.map cW)=YZ then(l,1)else if rK o 2 a t=YZ then(l,1)else if Y0 (fF (l.map cW) o 1=0)=YY then(l,3)else if Y0 (Dg (l.map cW) o<a)=YY then(l,4)else uY l ⟨o,2,a,t⟩
def tk(l:List bc)(o du en:Int)(ps:List Int)(t:Int):List bc×Int:=
 if hZ (l.map cW)=YZ then(l,1)else if oT ps=YZ then(l,1)else if vC o 1 9999=YZ then(l,1)else if vC t 0 100000=YZ then(l,1)
 else if Y0 (fF (l.map cW) o 1=0)=YY then(l,3)else if Y0 (0<Dg (l.map cW) o)=YY then(l,3)else if Y0 (0<fF (l.map cW) o 3)=YY then(l,2)
 else if Y0 (uI (fF (l.map cW) o 1) du en ps=0)=YY then(l,4)else uY l ⟨o,3,uI (fF (l.map cW) o 1) du en ps,t⟩
section
variable {l:List bc} (hl:l.length<=1048576)
include hl
theorem Tq(o:Int):mG l o=YW (Dg (l.map cW) o):=by
 unfold mG Dg;simp only[wv,Fz hl,pN]
 grind
theorem Gz(o:Int):dX l o=YW (Dg (l.map cW) o):=by
 unfold dX Dg;simp only[wz,FB hl,pN]
 grind
theorem Ms(x:bc):kF l x=YW (uY l x):=by
 unfold kF uY;rw[yA hl];simp
 by_cases h:200<=l.length
 ·grind
 ·rw[ff Yr Yn]
  simp only[wv]
  grind
theorem Mt(x:bc):kU l x=YW (uY l x):=by
 unfold kU uY;rw[yB hl];simp only[VT];rw[ku (b:=bn (l.length+([x]:List bc).length) 32) (by unfold bn;grind)]
 by_cases h:200<=l.length
 ·grind
 ·simp only[wz]
  grind
theorem RC(o a t:Int):kA l o a t=YW (s7 l o a t):=by
 unfold kA s7;simp only[wv,vD,yA hl,Fz hl,Ms hl]
 grind
theorem RD(o a t:Int):kM l o a t=YW (s7 l o a t):=by
 unfold kM s7;simp only[wz,yt,yB hl,FB hl,Mt hl]
 grind
theorem ZfT(o a t:Int):nM l o a t=YW (JS l o a t):=by
 unfold nM JS;simp only[wv,vD,yA hl,Fz hl,Tq hl,Ms hl]
 grind
theorem ZfU(o a t:Int):nU l o a t=YW (JS l o a t):=by
 unfold nU JS;simp only[wz,yt,yB hl,FB hl,Gz hl,Mt hl]
 grind
end
theorem KB(h:0<=du/\du<=200000)(k:0<=en/\en<=200000)(he:¬en<=du):IntKind.i64.wrap (Int.tdiv (aM ((aM (en-du))-1)) 1440)=(en-du-1) / 1440:=by
 rw[show aM (aM (en-du)-1)=en-du-1 by rw[aR (n:=en-du) Yn,aR Yn],Int.tdiv_eq_ediv_of_nonneg Yn]
 exact aR Yn
theorem NV{ps:List Int}(hp:oT ps=YY)(he:¬en<=du):aB ps ((qM du en ps:Nat):Int)=YW (ps.getD (qM du en ps) 0):=by
 have:=J5 hp he;rw[aP,List.getD_eq_getElem?_getD,VV this];rfl
theorem J6{ps:List Int}(hp:ps.length<=1048576)(c du en:Int):mI c du en ps=YW (uI c du en ps):=by
 unfold mI uI Dz;simp only[Me hp,um]
 cases h1:oT ps
 ·rfl
 cases h2:vC c 0 100000
 ·simp only[vC]at h2;grind
 cases h3:vC du 0 200000
 ·simp only[vC]at h2 h3;grind
 cases h4:vC en 0 200000
 ·simp only[vC]at h2 h3 h4;grind
 by_cases h5:en<=du
 ·grind
 ·have hl:=Dn h1
  have e:=KB (rJ h3) (rJ h4) h5;have hi:(if(aM ((ps.length:Int)-1))<(en-du-1) / 1440 then(aM ((ps.length:Int)-1))else(en-du-1) / 1440)=((qM du en ps:Nat):Int):=by
   rw[aR Yn];unfold qM
   grind
  simp only[vC]at h2 h3 h4
  simp only[h2,h3,h4,e,hi,NV h1 h5,Yg h5,VT,V3,WD,Bool.and_true,Yk,if_true,NU]
theorem J7{ps:List Int}(hp:ps.length<=1048576)(c du en:Int):kr c du en ps=YW (uI c du en ps):=by
 unfold kr uI Dz;simp only[Mf hp,cN,mE]
 cases h1:oT ps
 ·rfl
 cases h2:vC c 0 100000
 ·simp only[vC]at h2;grind
 cases h3:vC du 0 200000
 ·simp only[vC]at h2 h3;grind
 cases h4:vC en 0 200000
 ·simp only[vC]at h2 h3 h4;grind
 by_cases h5:en<=du
 ·grind
 ·have hl:=Dn h1
  have e:=KB (rJ h3) (rJ h4) h5;have hi:(cond (Y0 ((ps.length:Int)<=(en-du-1) / 1440)) (YW (.inl (aM ((ps.length:Int)-1)))) (YW (.inl ((en-du-1) / 1440))):Option (Int⊕Empty))=YW (.inl ((qM du en ps:Nat):Int)):=by
   rw[aR Yn];unfold qM
   grind
  simp only[vC]at h2 h3 h4
  simp only[h2,h3,h4,e,hi,NV h1 h5,Yg h5,VT,V3,WD,Bool.and_true,Yk,if_true,bh,NU]
section
variable {l:List bc} (hl:l.length<=1048576) {ps:List Int} (hp:ps.length<=1048576)
include hl hp
theorem TV(o du en t:Int):kE l o du en ps t=YW (tk l o du en ps t):=by
 unfold kE tk vC;simp only[wv,Me hp,um,yA hl,Fz hl,Tq hl,J6 hp,Ms hl,VT]
 grind
theorem TW(o du en t:Int):kR l o du en ps t=YW (tk l o du en ps t):=by
 unfold kR tk vC;simp only[wz,Mf hp,cN,yB hl,FB hl,Nf hl,Gz hl,J7 hp,Mt hl,VT]
 cases hb:hZ (l.map cW)
 ·rfl
 ·rw[RF o 3 hb]
  grind
end
structure Zef(o:aF):Prop where
 world:rF o.world
 aS:sQ o.aS
 aT:o.aT.length<=1048576
 wP:o.aI.length<=1048576
 lines:o.lines.length<=1048576
 aH:o.aH.length<=1048576
 aD:o.aD.length<=1048576
 ZfV:∀p∈o.aH,p.label.aY.size<=sy/\p.ar.size<=sy/\p.bE.length<NN
 Zek:∀a∈o.aD,a.aJ.label.aY.size<=sy/\a.aJ.ar.size<=sy/\a.aJ.bE.length<NN
def Cq(o:aF)(i:Nat)(p:aL)(v:Int×Bool)(x:Option az):Bool:=match x with
 |some x=>v.2&&(Y0 (x.ar=p.ar)&&(Y0 (x.aY=p.label.aY)&&(Y0 (x.aw=p.label.aw)&&(Y0 (x.ab=p.ab)&&Y0 (fF (o.lines.map cW) (((i+1:Nat):Int)) 1=v.1)))))
 |none=>YZ
theorem uw(o:aF)(i:Nat)(p:aL)(v:Int×Bool)(x:az):Cq o i p v (YW x)=(v.2&&(Y0 (x.ar=p.ar)&&(Y0 (x.aY=p.label.aY)&&(Y0 (x.aw=p.label.aw)&&(Y0 (x.ab=p.ab)&&Y0 (fF (o.lines.map cW) (((i+1:Nat):Int)) 1=v.1)))))):=rfl
def oF(o:aF)(i:Nat)(p:aL):Bool:=Cq o i p ((iu o.aS o.aT p).getD (0,YZ)) o.world.aj[i]?
def uX(o:aF)(_:Nat)(x:bc):Bool:=!decide ((o.aH.length:Int)<x.order)&&!decide (o.world.now<x.aQ)
def FO(_:Nat)(a:ba):Bool:=(eV a).getD YZ
def fK(o:aF):Bool:=
 fB o.world&&(rU o.aS&&(rT o.aT (o.aS.length:Int)&&(oT o.aI&&(hZ (o.lines.map cW)&&(Y0 ((o.aH.length:Int)=(o.world.aj.length:Int))&&(!decide (150<(o.aD.length:Int))&&(allI (oF o) 0 o.aH&&(allI (uX o) 0 o.lines&&allI FO 0 o.aD))))))))
section
variable {o:aF} (hf:Zef o)
include hf
theorem Jz(hl:o.aH.length=o.world.aj.length):aE (kO o) NN 0=YW (if allI (oF o) 0 o.aH=YY then .inl ()else .inr YZ):=by
 refine fW (A:=Unit) (λ_ i=>i) _ (λa _=>a) (λ_=>()) (λa i p hp=>?_) (λa=>?_) (by have:=hf.aH;unfold NN;omega) ()
 ·have bX:=(VU.1 hp).1
  have xL:=hf.aH;have hg:aB o.aH (i:Int)=YW p:=by rw[aP];omega
  obtain⟨x,hx⟩:∃x,o.world.aj[i]?=YW x:=⟨_,VV Yn⟩;have hgx:aB o.world.aj (i:Int)=YW x:=by rw[aP];omega
  have hi:aM ((i:Int)+1)=((i+1:Nat):Int):=bG bX Yn;obtain⟨p1,p2,p3⟩:=hf.ZfV p (VW hp);obtain⟨_,v,hv⟩:=Dv hf.aS hf.aT p1 p2 p3;have Zhp:eX o.lines ((i+1:Nat):Int) 1=YW (fF (o.lines.map cW) (((i+1:Nat):Int)) 1):=FB hf.lines _ _;unfold kO ou oF;simp only[hx,uw]
  grind
 ·unfold kO
  simp
theorem Jy(hl:o.aH.length=o.world.aj.length):aE (kB o) NN 0=YW (if allI (oF o) 0 o.aH=YY then .inl ()else .inr YZ):=by
 refine fW (A:=Unit) (λ_ i=>i) _ (λa _=>a) (λ_=>()) (λa i p hp=>?_) (λa=>?_) (by have:=hf.aH;unfold NN;omega) ()
 ·have bX:=(VU.1 hp).1
  have xL:=hf.aH;have hg:aB o.aH (i:Int)=YW p:=by rw[aP];omega
  obtain⟨x,hx⟩:∃x,o.world.aj[i]?=YW x:=⟨_,VV Yn⟩;have hgx:aB o.world.aj (i:Int)=YW x:=by rw[aP];omega
  have hi:aM ((i:Int)+1)=((i+1:Nat):Int):=bG bX Yn;obtain⟨p1,p2,p3⟩:=hf.ZfV p (VW hp);obtain⟨e,v,hv⟩:=Dv hf.aS hf.aT p1 p2 p3;have Zhp:eo o.lines ((i+1:Nat):Int) 1=YW (fF (o.lines.map cW) (((i+1:Nat):Int)) 1):=Fz hf.lines _ _;unfold kB oF;simp only[hg,hgx,hx,VT,e,hv,uw]
  grind
 ·unfold kB
  simp
theorem JB:aE (kP o) NN 0=YW (if allI (uX o) 0 o.lines=YY then .inl ()else .inr YZ):=by
 refine fW (A:=Unit) (λ_ i=>i) _ (λa _=>a) (λ_=>()) (λa i p hp=>?_) (λa=>?_) (by have:=hf.lines;unfold NN;omega) ()
 ·have bX:=(VU.1 hp).1
  have xL:=hf.lines;have hg:aB o.lines (i:Int)=YW p:=by rw[aP];omega
  have hi:aM ((i:Int)+1)=((i+1:Nat):Int):=bG bX Yn;unfold kP uX
  grind
 ·unfold kP
  simp
theorem JA(hl:o.aH.length=o.world.aj.length):aE (kC o) NN 0=YW (if allI (uX o) 0 o.lines=YY then .inl ()else .inr YZ):=by
 refine fW (A:=Unit) (λ_ i=>i) _ (λa _=>a) (λ_=>()) (λa i p hp=>?_) (λa=>?_) (by have:=hf.lines;unfold NN;omega) ()
 ·have bX:=(VU.1 hp).1
  have xL:=hf.lines;have hg:aB o.lines (i:Int)=YW p:=by rw[aP];omega
  have hi:aM ((i:Int)+1)=((i+1:Nat):Int):=bG bX Yn;unfold kC uX
  grind
 ·unfold kC
  simp
theorem JD:aE (kQ o) NN 0=YW (if allI FO 0 o.aD=YY then .inl ()else .inr YZ):=by
 refine fW (A:=Unit) (λ_ i=>i) _ (λa _=>a) (λ_=>()) (λa i p hp=>?_) (λa=>?_) (by have:=hf.aD;unfold NN;omega) ()
 ·have bX:=(VU.1 hp).1
  have xL:=hf.aD;have hg:aB o.aD (i:Int)=YW p:=by rw[aP];omega
  have hi:aM ((i:Int)+1)=((i+1:Nat):Int):=bG bX Yn;obtain⟨p1,p2,p3⟩:=hf.Zek p (VW hp);obtain⟨b,_,hb⟩:=BX p1 p2 p3;unfold kQ FO
  grind
 ·unfold kQ
  simp
theorem JC:aE (kD o) NN 0=YW (if allI FO 0 o.aD=YY then .inl ()else .inr YZ):=by
 refine fW (A:=Unit) (λ_ i=>i) _ (λa _=>a) (λ_=>()) (λa i p hp=>?_) (λa=>?_) (by have:=hf.aD;unfold NN;omega) ()
 ·have bX:=(VU.1 hp).1
  have xL:=hf.aD;have hg:aB o.aD (i:Int)=YW p:=by rw[aP];omega
  have hi:aM ((i:Int)+1)=((i+1:Nat):Int):=bG bX Yn;obtain⟨p1,p2,p3⟩:=hf.Zek p (VW hp);obtain⟨b,qZ,hb⟩:=BX p1 p2 p3;unfold kD FO
  grind
 ·unfold kD
  simp
theorem AV:lF o=YW (fK o):=by
 have hp:eU o.aI=YW (oT o.aI):=Mf hf.wP;have hl:ew o.lines=YW (hZ (o.lines.map cW)):=wz _;unfold lF fK;simp only[qg hf.world,Hm hf.aS,NZ hf.aT,hp,hl,VT]
 cases fB o.world
 ·rfl
 cases rU o.aS
 ·rfl
 cases rT o.aT (o.aS.length:Int)
 ·rfl
 cases oT o.aI
 ·rfl
 cases hZ (o.lines.map cW)
 ·rfl
 by_cases he:(o.aH.length:Int)=(o.world.aj.length:Int)
 ·rw[Ya he]
  cases Y0 (150<(o.aD.length:Int))
  ·simp only[Jz hf Yn,JB hf,JD hf]
   grind
  rfl
 grind
theorem I9:nL o=YW (fK o):=by
 have hp:eP o.aI=YW (oT o.aI):=Me hf.wP;have hl:eu o.lines=YW (hZ (o.lines.map cW)):=wv _;unfold nL fK;simp only[sG hf.world,Hl hf.aS,NY hf.aT,hp,hl,VT]
 cases fB o.world
 ·rfl
 cases rU o.aS
 ·rfl
 cases rT o.aT (o.aS.length:Int)
 ·rfl
 cases oT o.aI
 ·rfl
 cases hZ (o.lines.map cW)
 ·rfl
 by_cases he:(o.aH.length:Int)=(o.world.aj.length:Int)
 ·rw[Ya he]
  cases Y0 (150<(o.aD.length:Int))
  ·simp only[Jy hf Yn,JA hf Yn,JC hf]
   grind
  rfl
 grind
end
end Go.Proofs.YtdilaemengjipaaGreatDoor
