/- A part of the proof of the statement in the last file of this claim: texts on the language of the program and on its functions. No condition. -/
import Derived.Test.YtdilaemengjipaaGreatDoorCA25
import Derived.Test.YtdilaemengjipaaGreatDoorCA16
import Derived.Test.YtdilaemengjipaaGreatDoorCA13
import Derived.Test.YtdilaemengjipaaGreatDoorCA19
import Derived.Test.YtdilaemengjipaaGreatDoorCA8
import Derived.Test.YtdilaemengjipaaGreatDoorCA14
import Derived.Test.YtdilaemengjipaaGreatDoorCA11
import Derived.Test.YtdilaemengjipaaGreatDoorCA21
import Derived.Test.YtdilaemengjipaaGreatDoorCA4
import Derived.Test.YtdilaemengjipaaGreatDoorCA20
import Derived.Test.YtdilaemengjipaaGreatDoorCA24
import Derived.Test.YtdilaemengjipaaGreatDoorCA1
set_option linter.unusedVariables false
set_option linter.unusedSimpArgs false
set_option linter.unusedSectionVars false
open Option renaming some->YH,none->YI
open Bool renaming true->YJ,false->YK
open Decidable renaming decide->YL
set_option maxHeartbeats 40000000
namespace Go.Proofs.YtdilaemengjipaaGreatDoor
open List renaming foldl_nil->Wi,nil_append->Wz,getElem?_eq_some_iff->VT,getElem?_eq_getElem->VU,mem_of_getElem?->VV,getElem?_set_self->WL,foldl_cons->Wn,getElem?_eq_none->Xa,length_map->Wo,length_nil->VY,getElem_mem->Wm,length_cons->VZ,mem_cons_self->Wp,range->Wg
open Option renaming bind_some->VS,map_eq_some_iff->Wb
open Bool renaming not_true->V5,not_false->Wr,false_eq_true->WA,and_true->XE
open _root_.Int renaming toNat_natCast->WQ
open Nat renaming zero_le->Wu,le_refl->VX
set_option maxRecDepth 10000
open Go.RowKit
variable {du en u:Int}{k:Nat}{w:ax}{α:Type}
theorem Ed:@pA=@jQ:=rfl
def ga(w:ax)(s:bq):ax:={ w with aH:=(nS w.skip (w.aH,w.bd) s).1,bd:=(nS w.skip (w.aH,w.bd) s).2}
structure pJ(w:ax):Prop where
 skip:w.skip.length<=1048576
 len:w.aH.length<=200
 bd:0<=w.bd/\w.bd<=1000000000
theorem eV{a b c:Nat}(h:a+b<=1048576)(hc:c<=1024):bW (bm (a+b) c)=YH ():=by
 refine od ?_;refine X1 ⟨X9,?_⟩;have:(a+b)*c<=1048576*1024:=Nat.mul_le_mul h hc;omega
theorem uW(h:pJ w)(s:bq):pJ (ga w s):=by
 obtain⟨h1,h2,h3⟩:=h;unfold ga nS;refine⟨h1,?_,?_⟩
 all_goals grind
theorem Gt(h:pJ w)(s:bq):fc w s=YH (ga w s):=by
 obtain⟨h1,h2,h3⟩:=h;have hw:aI (w.bd+1)=w.bd+1:=aR X9;have ha:=eV (a:=w.aH.length) (b:=1) (c:=56) X9 X9;unfold fc ga nS;rw[hw,Ed,ye h1]
 grind
theorem Gu(h:pJ w)(s:bq):fU w s=YH (ga w s):=by
 obtain⟨h1,h2,h3⟩:=h;have hw:aI (w.bd+1)=w.bd+1:=aR X9;have ha:=eV (a:=w.aH.length) (b:=1) (c:=56) X9 X9;unfold fU ga nS;simp only[ye h1]
 by_cases hm:w.bd<1000000000
 ·grind
 ·rw[X2 hm]
  simp only[if_neg hm]
  cases hb:w.skip.any λy=>YL (y=w.bd)with
  |true=>simp
  |false=>
   by_cases hl:w.aH.length<200
   ·grind
   ·rw[X2 (show ¬(w.aH.length:Int)<200 by omega)];simp[hl]
abbrev OwT:=Int×Int×Int×(List bK)×(List Int)×(List az)×(List aq)×(List av)×(List Int)×(List bq)
def wA(w:ax):OwT:=(w.aa.change,w.now,w.bd,w.aa.aA,w.aa.off,w.ae,w.ar,w.ah,w.skip,w.aH)
def Ba(i:Int)(w:ax):Int×OwT:=(i,wA w)
def gu(w:ax)(l:List bq):ax:=l.foldl ga w
theorem uX:∀(l:List bq) (w:ax),gu w l={ w with aH:=(l.foldl (nS w.skip) (w.aH,w.bd)).1,bd:=(l.foldl (nS w.skip) (w.aH,w.bd)).2}
 | [],w=>rfl
 |s::l,w=>by
  show gu (ga w s) l=_;rw[uX l (ga w s)];rfl
def mh(f:az->az)(g:Nat->az->List bq)(i:Nat)(o:az)(w:ax):ax:=gu { w with ae:=w.ae.set i (f o)} (g i o)
def tT(f:az->az)(g:Nat->az->List bq):Nat->List az->ax->ax
 |_,[],w=>w
 |i,o::os,w=>tT f g (i+1) os (mh f g i o w)
theorem yD(f:az->az)(g:Nat->az->List bq)(i:Nat)(o:az)(w:ax):mh f g i o w={ w with ae:=w.ae.set i (f o),aH:=((g i o).foldl (nS w.skip) (w.aH,w.bd)).1,bd:=((g i o).foldl (nS w.skip) (w.aH,w.bd)).2}:=by
 unfold mh;rw[uX]
theorem CB(f:az->az)(g:Nat->az->List bq):∀(os pre:List az) (w:ax),w.ae=pre++os->
 tT f g pre.length os w={ w with ae:=pre++os.map f,aH:=((pV g pre.length os).foldl (nS w.skip) (w.aH,w.bd)).1,bd:=((pV g pre.length os).foldl (nS w.skip) (w.aH,w.bd)).2}
 | [],pre,w,h=>by simp only[tT,pV,List.map_nil,Wi];rw[<-h]
 |o::os,pre,w,h=>by
  have zk:w.ae.set pre.length (f o)=(pre++[f o])++os:=by grind
  have:=CB f g os (pre++[f o]) (mh f g pre.length o w) (by rw[yD];omega)
  simp at this
  show tT f g (pre.length+1) os (mh f g pre.length o w)=_;rw[this,yD];simp only[pV,List.foldl_append,List.map_cons,List.append_assoc,List.cons_append,Wz]
theorem tL{f:az->az}{g:Nat->az->List bq}{body:Int×OwT->Option ((Int×OwT)⊕OwT)}{n:Nat}{Inv:ax->Prop}{Good:Nat->az->Prop}
 (h1:∀(i:Nat) (o:az) (w:ax),w.ae.length=n->w.ae[i]?=YH o->Inv w->Good i o->body (Ba i w)=YH (.inl (Ba ((i+1:Nat):Int) (mh f g i o w)))/\Inv (mh f g i o w))
 (h2:∀w:ax,w.ae.length=n->body (Ba n w)=YH (.inr (wA w))):
 ∀(os:List az) (i:Nat) (N:Nat) (w:ax),w.ae.drop i=os->w.ae.length=n->i<=n->os.length<N->Inv w->(∀(j:Nat) (o:az),os[j]?=YH o->Good (i+j) o)->aD body N (Ba i w)=YH (wA (tT f g i os w))
 | [],i,0,w,_,_,_,hN,_,_=>X9
 | [],i,N+1,w,hd,hl,hi,hN,hI,hG=>by
  have:i=n:=by grind
  subst this;simp only[aD,h2 w hl];rfl
 |o::os,i,0,w,_,_,_,hN,_,_=>X9
 |o::os,i,N+1,w,hd,hl,hi,hN,hI,hG=>by
  have ho:w.ae[i]?=YH o:=by
   have:=congrArg (λl:List az=>l[0]?) hd
   grind
  have bU:i<w.ae.length:=(VT.1 ho).1;obtain⟨e1,e2⟩:=h1 i o w hl ho hI (by simpa using hG 0 o rfl)
  have Oj:(mh f g i o w).ae=w.ae.set i (f o):=by rw[yD]
  simp only[aD,e1];refine tL h1 h2 os (i+1) N (mh f g i o w) ?_ Yd X9 Yd e2 λj o' hj=>?_
  ·rw[Oj,List.drop_set]
   have:(w.ae.drop (i+1))=os:=by
    have:=congrArg (List.drop 1) hd
    simpa using this
   grind
  ·have:=hG (j+1) o' Yd
   grind
structure mW(n:aj)(k:Nat)(w:ax):Prop where
 eO:w.aa=n
 aH:pJ w
 ae:w.ae.length<=1048576
theorem xy:∀(l:List bq) (w:ax),pJ w->pJ (gu w l)
 | [],w,h=>h
 |s::l,w,h=>xy l _ (uW h s)
theorem mW.step{n:aj}(h:mW n k w)(f:az->az)(g:Nat->az->List bq)(i:Nat)(o:az):mW n k (mh f g i o w):=by
 have hs:pJ { w with ae:=w.ae.set i (f o)}:=⟨h.aH.skip,h.aH.len,h.aH.bd⟩
 have h1:=xy (g i o) _ hs;rw[yD];rw[uX]at h1
 exact⟨h.eO,h1,by simp;exact h.ae⟩
structure qO(n:aj)(o:az):Prop where
 aN:0<=o.aN/\o.aN<=o.aG.length
 len:o.aG.length<=1048576
 bj:∀t∈o.aG,fV n t=YJ
 Js:o.state=2->o.aN<o.aG.length
theorem pG{xs:List α}{i:Nat}{x:α}(h:xs[i]?=YH x):xs.set i x=xs:=by
 apply List.ext_getElem?
 grind
theorem sa{n:aj}{aP:Int}{i:Nat}{o:az}(h:¬o.state=1\/o.aG[o.aN.toNat]?=YI\/∃t,o.aG[o.aN.toNat]?=YH t/\¬cM n t=aP):nV n aP o=o/\qx n aP i o=[]:=by
 unfold nV qx
 grind
section
variable {n:aj} (hf:cO n) (hn:aV n=YH YJ)
include hf hn
theorem VD(w0:ax)(h0:w0.aa=n)(Ik:w0.ae.length<=1048576){aP:Int}(i:Nat)(o:az)(w:ax)(hl:w.ae.length=w0.ae.length)(ho:w.ae[i]?=YH o)(hI:mW n 0 w)(hG:qO n o):
 gz w0 aP (Ba i w)=YH (.inl (Ba ((i+1:Nat):Int) (mh (cy n aP) (im n aP) i o w))):=by
 have bU:=(VT.1 ho).1;have hgg:=hG.aN;have hg:aB w.ae (i:Int)=YH o:=by rw[aS];omega
 have hr:wC w.ae (i:Int)=YH o:=hg;have hi:aI ((i:Int)+1)=((i+1:Nat):Int):=bE bU X9;have hd:YL ((i:Int)<(w0.ae.length:Int))=true:=X1 X9;have qj:(⟨w.aa.aA,w.aa.off,w0.aa.change⟩:aj)=n:=by rw[hI.eO,h0]
 have Ip:(⟨w.aa.aA,w.aa.off,w.aa.change⟩:aj)=n:=hI.eO;unfold gz Ba wA;simp only[hd,X5,hg,VS,hi,qj,rU]
 by_cases hs:o.state=2
 ·have uQ:=hG.Js hs
  have Cc:o.aN.toNat<o.aG.length:=X9;have ht:o.aG[o.aN.toNat]?=YH o.aG[o.aN.toNat]:=VU Cc;generalize o.aG[o.aN.toNat]=t at ht
  have UL:aB o.aG o.aN=YH t:=by unfold aB;grind
  have yP:=hG.bj t (VV ht);obtain⟨y,hy,_⟩:=fa hf yP;obtain⟨t1,t2,t3,t4,t5⟩:=cR hf hn yP;have JZ:cg n t=y.a8:=by unfold cg;grind
  have hyl:aB w.aa.aA t.bD=YH y:=by grind
  have wY:aI (o.aN+1)=o.aN+1:=aR (by have:=hG.len;omega)
  simp only[X1 hs,V5,X6,UL,VS,t2]
  by_cases he:dF n t=aP
  ·have inv1:∀os:List az,pJ { w with ae:=os}:=λos=>⟨hI.aH.skip,hI.aH.len,hI.aH.bd⟩
   have ea:cy n aP o=Bp n aP o t:=by unfold cy;grind
   have ed:im n aP i o=⟨((i+1:Nat):Int),aP,2,⟨#[]⟩,t⟩::(if cg n t=o.a8 then [⟨((i+1:Nat):Int),aP,4,cg n t,⟨0,0⟩⟩]else []):=by unfold im;grind
   unfold mh;rw[ea,ed];unfold Bp;simp only[X1 he,V5,X6,hr,UL,hyl,VS,Ds,bh,Ip,WQ,wY];rw[show(⟨n,w.ae.set i ⟨o.au,o.a8,o.ay,o.ab,o.aP,o.dW,o.aG,o.aN+1,1,y.a8,o.bB⟩,w.ar,w.ah,w.now,w.aH,w.skip,w.bd⟩:ax)={ w with ae:=w.ae.set i ⟨o.au,o.a8,o.ay,o.ab,o.aP,o.dW,o.aG,o.aN+1,1,y.a8,o.bB⟩}by rw[<-hI.eO]]
   rw[Gt (inv1 _)];have hr2:wC (w.ae.set i (⟨o.au,o.a8,o.ay,o.ab,o.aP,o.dW,o.aG,o.aN+1,1,y.a8,o.bB⟩:az)) (i:Int)=YH ⟨o.au,o.a8,o.ay,o.ab,o.aP,o.dW,o.aG,o.aN+1,1,y.a8,o.bB⟩:=by
    unfold wC;rw[aS,WL bU]
   simp only[VS,ga,hr2,JZ]
   by_cases hc:y.a8=o.a8
   ·have hr3:wC (w.ae.set i (⟨o.au,o.a8,o.ay,o.ab,o.aP,o.dW,o.aG,o.aN+1,3,y.a8,aP⟩:az)) (i:Int)=YH ⟨o.au,o.a8,o.ay,o.ab,o.aP,o.dW,o.aG,o.aN+1,3,y.a8,aP⟩:=by
     unfold wC;rw[aS,WL bU]
    simp only[X1 hc,X5,List.set_set,hr3];have inv2:=uW (inv1 (w.ae.set i ⟨o.au,o.a8,o.ay,o.ab,o.aP,o.dW,o.aG,o.aN+1,3,y.a8,aP⟩)) (⟨((i+1:Nat):Int),aP,2,⟨#[]⟩,t⟩:bq);have e2:=Gt inv2 ⟨((i+1:Nat):Int),aP,4,y.a8,⟨0,0⟩⟩;unfold ga at e2
    simp only[e2,VS,if_pos hc,gu,Wn,Wi,ga]
   ·simp only[X2 hc,X6,if_neg hc,gu,Wn,Wi,ga]
  ·have ea:cy n aP o=o:=by unfold cy;grind
   have ed:im n aP i o=[]:=by unfold im;grind
   simp only[X2 he,Wr,X5,mh,ea,ed,gu,Wi,pG ho]
 ·have ea:cy n aP o=o:=by
   unfold cy
   grind
  have ed:im n aP i o=[]:=by
   unfold im
   grind
  simp only[X2 hs,Wr,X5,mh,ea,ed,gu,Wi,pG ho]
theorem VE{aP:Int}(i:Nat)(o:az)(w:ax)(ho:w.ae[i]?=YH o)(hI:mW n 0 w)(hG:qO n o):
 iK aP (Ba i w)=YH (.inl (Ba ((i+1:Nat):Int) (mh (cy n aP) (im n aP) i o w))):=by
 have bU:=(VT.1 ho).1;have hgg:=hG.aN;have hg:aB w.ae (i:Int)=YH o:=by rw[aS];omega
 have hi:aI ((i:Int)+1)=((i+1:Nat):Int):=bE bU (by have:=hI.ae;omega)
 have hd:YL ((i:Int)<(w.ae.length:Int))=true:=X1 X9;have Ip:(⟨w.aa.aA,w.aa.off,w.aa.change⟩:aj)=n:=hI.eO;unfold iK Ba wA;simp only[hd,X5,hg,VS,hi,Ip]
 by_cases hs:o.state=2
 ·have uQ:=hG.Js hs
  have Cc:o.aN.toNat<o.aG.length:=X9;have ht:o.aG[o.aN.toNat]?=YH o.aG[o.aN.toNat]:=VU Cc;generalize o.aG[o.aN.toNat]=t at ht
  have UL:aB o.aG o.aN=YH t:=by unfold aB;grind
  have yP:=hG.bj t (VV ht);obtain⟨y,hy,_⟩:=fa hf yP;obtain⟨t1,t2,t3,t4,t5⟩:=cR hf hn yP;have JZ:cg n t=y.a8:=by unfold cg;grind
  have wY:aI (o.aN+1)=o.aN+1:=aR (by have:=hG.len;omega)
  simp only[X1 hs,V5,X6,UL,VS,t2]
  by_cases he:dF n t=aP
  ·have ea:cy n aP o=Bp n aP o t:=by unfold cy;grind
   have ed:im n aP i o=⟨((i+1:Nat):Int),aP,2,⟨#[]⟩,t⟩::(if cg n t=o.a8 then [⟨((i+1:Nat):Int),aP,4,cg n t,⟨0,0⟩⟩]else []):=by unfold im;grind
   unfold mh;rw[ea,ed];unfold Bp;simp only[X1 he,V5,Ds,bh,WQ,wY];have e1:=Gu hI.aH ⟨((i+1:Nat):Int),aP,2,⟨#[]⟩,t⟩;have hw:w=⟨n,w.ae,w.ar,w.ah,w.now,w.aH,w.skip,w.bd⟩:=by rw[<-hI.eO]
   rw[<-hI.eO]at hy
   rw[show(⟨n,w.ae,w.ar,w.ah,w.now,w.aH,w.skip,w.bd⟩:ax)=w from hw.symm,e1];simp only[VS,ga,hg,hy,JZ]
   by_cases hc:y.a8=o.a8
   ·have inv2:pJ { ga w ⟨((i+1:Nat):Int),aP,2,⟨#[]⟩,t⟩with ae:=w.ae.set i ⟨o.au,o.a8,o.ay,o.ab,o.aP,o.dW,o.aG,o.aN+1,3,y.a8,aP⟩}:=by
     obtain⟨a,b,c⟩:=uW hI.aH ⟨((i+1:Nat):Int),aP,2,⟨#[]⟩,t⟩;exact⟨a,b,c⟩
    have e2:=Gu inv2 ⟨((i+1:Nat):Int),aP,4,o.a8,⟨0,0⟩⟩;unfold ga at e2
    simp only[if_pos hc,gu,Wn,ga]
    grind
   ·simp only[X2 hc,X6,if_neg hc,gu,Wn,Wi,ga]
  ·have ea:cy n aP o=o:=by unfold cy;grind
   have ed:im n aP i o=[]:=by unfold im;grind
   simp only[X2 he,Wr,X5,mh,ea,ed,gu,Wi,pG ho]
 ·have ea:cy n aP o=o:=by
   unfold cy
   grind
  have ed:im n aP i o=[]:=by
   unfold im
   grind
  simp only[X2 hs,Wr,X5,mh,ea,ed,gu,Wi,pG ho]
theorem VF(w0:ax)(h0:w0.aa=n)(o0:OwT){aP:Int}(i:Nat)(o:az)(w:ax)(hl:w.ae.length=o0.2.2.2.2.2.1.length)(ho:w.ae[i]?=YH o)(hI:mW n 0 w)(hG:qO n o):
 gA w0 aP o0 (Ba i w)=YH (.inl (Ba ((i+1:Nat):Int) (mh (nV n aP) (qx n aP) i o w))):=by
 have bU:=(VT.1 ho).1;have hgg:=hG.aN;have hg:aB w.ae (i:Int)=YH o:=by rw[aS];omega
 have hr:wC w.ae (i:Int)=YH o:=hg;have hi:aI ((i:Int)+1)=((i+1:Nat):Int):=bE bU (by have:=hI.ae;omega)
 have hd:YL ((i:Int)<(o0.2.2.2.2.2.1.length:Int))=true:=X1 X9;have qj:(⟨w.aa.aA,w.aa.off,w0.aa.change⟩:aj)=n:=by rw[hI.eO,h0]
 unfold gA Ba wA;simp only[hd,X5,hg,VS,hi,qj,qf]
 by_cases hs:o.state=1
 ·by_cases uQ:o.aN<o.aG.length
  ·have Cc:o.aN.toNat<o.aG.length:=X9
   have ht:o.aG[o.aN.toNat]?=YH o.aG[o.aN.toNat]:=VU Cc;generalize o.aG[o.aN.toNat]=t at ht
   have UL:aB o.aG o.aN=YH t:=by unfold aB;grind
   have yP:=hG.bj t (VV ht);obtain⟨t1,t2,t3,t4,t5⟩:=cR hf hn yP;simp only[X1 hs,X1 uQ,X5,UL,VS,t1]
   by_cases he:cM n t=aP
   ·have ea:nV n aP o=⟨o.au,o.a8,o.ay,o.ab,o.aP,o.dW,o.aG,o.aN,2,⟨#[]⟩,o.bB⟩:=by unfold nV;grind
    have ed:qx n aP i o=[⟨((i+1:Nat):Int),aP,3,⟨#[]⟩,t⟩]:=by unfold qx;grind
    have hr2:wC (w.ae.set i (⟨o.au,o.a8,o.ay,o.ab,o.aP,o.dW,o.aG,o.aN,2,⟨#[]⟩,o.bB⟩:az)) (i:Int)=YH ⟨o.au,o.a8,o.ay,o.ab,o.aP,o.dW,o.aG,o.aN,2,⟨#[]⟩,o.bB⟩:=by
     unfold wC;rw[aS,WL bU]
    have inv1:pJ { w with ae:=w.ae.set i ⟨o.au,o.a8,o.ay,o.ab,o.aP,o.dW,o.aG,o.aN,2,⟨#[]⟩,o.bB⟩}:=⟨hI.aH.skip,hI.aH.len,hI.aH.bd⟩
    have e1:=Gt inv1 ⟨((i+1:Nat):Int),aP,3,⟨#[]⟩,t⟩;have hnw:w.aa=n:=hI.eO;simp only[hnw]at e1
    unfold mh;rw[ea,ed];simp only[X1 he,X5,hr,VS,Ds,bh,kR,WQ,hr2,UL,e1,gu,Wn,Wi,hnw]
   ·obtain⟨ea,ed⟩:=sa (n:=n) (aP:=aP) (i:=i) (.inr (.inr ⟨t,ht,he⟩))
    simp only[X2 he,X6,mh,ea,ed,gu,Wi,pG ho]
  ·obtain⟨ea,ed⟩:=sa (n:=n) (aP:=aP) (i:=i) (o:=o) (.inr (.inl (Xa X9)))
   simp only[X1 hs,X2 uQ,X5,X6,mh,ea,ed,gu,Wi,pG ho]
 ·obtain⟨ea,ed⟩:=sa (n:=n) (aP:=aP) (i:=i) (o:=o) (.inl hs)
  simp only[X2 hs,X6,mh,ea,ed,gu,Wi,pG ho]
theorem VG{aP:Int}(i:Nat)(o:az)(w:ax)(ho:w.ae[i]?=YH o)(hI:mW n 0 w)(hG:qO n o):
 iL aP (Ba i w)=YH (.inl (Ba ((i+1:Nat):Int) (mh (nV n aP) (qx n aP) i o w))):=by
 have bU:=(VT.1 ho).1;have hgg:=hG.aN;have hg:aB w.ae (i:Int)=YH o:=by rw[aS];omega
 have hi:aI ((i:Int)+1)=((i+1:Nat):Int):=bE bU (by have:=hI.ae;omega)
 have hd:YL ((i:Int)<(w.ae.length:Int))=true:=X1 X9;have Ip:(⟨w.aa.aA,w.aa.off,w.aa.change⟩:aj)=n:=hI.eO;unfold iL Ba wA;simp only[hd,X5,hg,VS,hi,Ip]
 by_cases hs:o.state=1
 ·by_cases uQ:o.aN<o.aG.length
  ·have Cc:o.aN.toNat<o.aG.length:=X9
   have ht:o.aG[o.aN.toNat]?=YH o.aG[o.aN.toNat]:=VU Cc;generalize o.aG[o.aN.toNat]=t at ht
   have UL:aB o.aG o.aN=YH t:=by unfold aB;grind
   have yP:=hG.bj t (VV ht);obtain⟨t1,t2,t3,t4,t5⟩:=cR hf hn yP;simp only[X1 hs,X1 uQ,X5,UL,VS,t1]
   by_cases he:cM n t=aP
   ·have ea:nV n aP o=⟨o.au,o.a8,o.ay,o.ab,o.aP,o.dW,o.aG,o.aN,2,⟨#[]⟩,o.bB⟩:=by unfold nV;grind
    have ed:qx n aP i o=[⟨((i+1:Nat):Int),aP,3,⟨#[]⟩,t⟩]:=by unfold qx;grind
    have inv1:pJ { w with ae:=w.ae.set i ⟨o.au,o.a8,o.ay,o.ab,o.aP,o.dW,o.aG,o.aN,2,⟨#[]⟩,o.bB⟩}:=⟨hI.aH.skip,hI.aH.len,hI.aH.bd⟩
    have e1:=Gu inv1 ⟨((i+1:Nat):Int),aP,3,⟨#[]⟩,t⟩;have hnw:w.aa=n:=hI.eO;simp only[hnw]at e1
    unfold mh;rw[ea,ed];simp only[X1 he,X5,VS,Ds,bh,WQ,e1,gu,Wn,Wi,hnw]
   ·obtain⟨ea,ed⟩:=sa (n:=n) (aP:=aP) (i:=i) (.inr (.inr ⟨t,ht,he⟩))
    simp only[X2 he,X6,mh,ea,ed,gu,Wi,pG ho]
  ·obtain⟨ea,ed⟩:=sa (n:=n) (aP:=aP) (i:=i) (o:=o) (.inr (.inl (Xa X9)))
   simp only[X1 hs,X2 uQ,X5,X6,mh,ea,ed,gu,Wi,pG ho]
 ·obtain⟨ea,ed⟩:=sa (n:=n) (aP:=aP) (i:=i) (o:=o) (.inl hs)
  simp only[X2 hs,X6,mh,ea,ed,gu,Wi,pG ho]
end
structure DM(w:ax):Prop where
 eO:cO w.aa
 MJ:aV w.aa=YH YJ
 inv:mW w.aa 0 w
 ord:∀o∈w.ae,qO w.aa o
theorem I8{n:aj}{aP:Int}{o:az}(h:qO n o):qO n (cy n aP o):=by
 have hs:=uY n aP o;refine⟨?_,by rw[hs.aG];exact h.len,by rw[hs.aG];exact h.bj,?_⟩
 ·have:=h.aN
  unfold cy
  split
  ·rename_i t ht
   split
   ·unfold Bp;grind
   omega
  omega
 ·unfold cy
  split
  ·split
   ·unfold Bp;grind
   grind
  ·exact h.Js
theorem zU(h:DM w)(aP:Int):lI w aP=YH (fR w aP)/\nH w aP=YH (fR w aP):=by
 have hlen:=h.inv.ae;have p1:tT (cy w.aa aP) (im w.aa aP) 0 w.ae w={ w with ae:=w.ae.map (cy w.aa aP),aH:=((pV (im w.aa aP) 0 w.ae).foldl (nS w.skip) (w.aH,w.bd)).1,bd:=((pV (im w.aa aP) 0 w.ae).foldl (nS w.skip) (w.aH,w.bd)).2}:=by
  have:=CB (cy w.aa aP) (im w.aa aP) w.ae [] w rfl
  grind
 have i1:mW w.aa 0 (tT (cy w.aa aP) (im w.aa aP) 0 w.ae w):=by
  have:∀(os:List az) (i:Nat) (v:ax),mW w.aa 0 v->mW w.aa 0 (tT (cy w.aa aP) (im w.aa aP) i os v):=by
   intro os
   induction os with
   |nil=>intro i v hv;exact hv
   |cons o os ih=>intro i v hv;exact ih (i+1) _ (hv.step _ _ i o)
  exact this _ _ _ h.inv
 have p2:=CB (nV w.aa aP) (qx w.aa aP) (w.ae.map (cy w.aa aP)) [] (tT (cy w.aa aP) (im w.aa aP) 0 w.ae w) Yd;simp at p2
 have Rl:∀(j:Nat) (o:az),w.ae[j]?=YH o->qO w.aa o:=λj o ho=>h.ord o (VV ho)
 have Rm:∀(j:Nat) (o:az),(w.ae.map (cy w.aa aP))[j]?=YH o->qO w.aa o:=λj o ho=>by
  rw[List.getElem?_map]at ho
  obtain⟨o0,h0,rfl⟩:=Wb.1 ho;exact I8 (Rl j o0 h0)
 have fin:∀v:ax,v=tT (nV w.aa aP) (qx w.aa aP) 0 (w.ae.map (cy w.aa aP)) (tT (cy w.aa aP) (im w.aa aP) 0 w.ae w)->{ v with now:=aP}=fR w aP:=by
  rw[p2,p1];unfold fR CW pI;simp
 constructor
 ·unfold lI
  have l1:=tL (f:=cy w.aa aP) (g:=im w.aa aP) (body:=gz w aP) (n:=w.ae.length) (Inv:=mW w.aa 0) (Good:=λ_ o=>qO w.aa o)
   (λi o v hv ho hI hG=>⟨VD h.eO h.MJ w rfl hlen i o v hv ho hI hG,hI.step _ _ i o⟩)
   (λv hv=>by unfold gz Ba wA;simp) w.ae 0 NN w rfl rfl (Wu _) Yc h.inv Rl
  have e1:((0:Int),w.aa.change,w.now,w.bd,w.aa.aA,w.aa.off,w.ae,w.ar,w.ah,w.skip,w.aH)=Ba ((0:Nat):Int) w:=rfl;rw[e1,l1,VS];generalize hv1:tT (cy w.aa aP) (im w.aa aP) 0 w.ae w=v1 at *
  have l2:=tL (f:=nV w.aa aP) (g:=qx w.aa aP) (body:=gA w aP (wA v1)) (n:=v1.ae.length) (Inv:=mW w.aa 0) (Good:=λ_ o=>qO w.aa o)
   (λi o v hv ho hI hG=>⟨VF h.eO h.MJ w rfl (wA v1) i o v hv ho hI hG,hI.step _ _ i o⟩)
   (λv hv=>by unfold gA Ba wA;simp) (w.ae.map (cy w.aa aP)) 0 NN v1 Yd rfl (Wu _) (by rw[Wo];unfold NN;omega) i1 Rm
  have e2:((0:Int),(wA v1).1,(wA v1).2.1,(wA v1).2.2.1,(wA v1).2.2.2.1,(wA v1).2.2.2.2.1,(wA v1).2.2.2.2.2.1,(wA v1).2.2.2.2.2.2.1,(wA v1).2.2.2.2.2.2.2.1,(wA v1).2.2.2.2.2.2.2.2.1,(wA v1).2.2.2.2.2.2.2.2.2)=Ba ((0:Nat):Int) v1:=rfl;rw[e2,l2];exact congrArg YH (fin _ rfl)
 ·unfold nH
  have l1:=tL (f:=cy w.aa aP) (g:=im w.aa aP) (body:=iK aP) (n:=w.ae.length) (Inv:=mW w.aa 0) (Good:=λ_ o=>qO w.aa o)
   (λi o v hv ho hI hG=>⟨VE h.eO h.MJ i o v ho hI hG,hI.step _ _ i o⟩)
   (λv hv=>by unfold iK Ba wA;grind) w.ae 0 NN w rfl rfl (Wu _) Yc h.inv Rl
  have e1:((0:Int),w.aa.change,w.now,w.bd,w.aa.aA,w.aa.off,w.ae,w.ar,w.ah,w.skip,w.aH)=Ba ((0:Nat):Int) w:=rfl;rw[e1,l1,VS];generalize hv1:tT (cy w.aa aP) (im w.aa aP) 0 w.ae w=v1 at *
  have l2:=tL (f:=nV w.aa aP) (g:=qx w.aa aP) (body:=iL aP) (n:=v1.ae.length) (Inv:=mW w.aa 0) (Good:=λ_ o=>qO w.aa o)
   (λi o v hv ho hI hG=>⟨VG h.eO h.MJ i o v ho hI hG,hI.step _ _ i o⟩)
   (λv hv=>by unfold iL Ba wA;grind) (w.ae.map (cy w.aa aP)) 0 NN v1 Yd rfl (Wu _) (by rw[Wo];unfold NN;omega) i1 Rm
  have e2:((0:Int),(wA v1).1,(wA v1).2.1,(wA v1).2.2.1,(wA v1).2.2.2.1,(wA v1).2.2.2.2.1,(wA v1).2.2.2.2.2.1,(wA v1).2.2.2.2.2.2.1,(wA v1).2.2.2.2.2.2.2.1,(wA v1).2.2.2.2.2.2.2.2.1,(wA v1).2.2.2.2.2.2.2.2.2)=Ba ((0:Nat):Int) v1:=rfl;rw[e2,l2];exact congrArg YH (fin _ rfl)
theorem my{σ ο:Type}{body:σ->Option (σ⊕ο)}(S:Nat->σ){n:Nat}{o:ο}(h1:∀i,i<n->body (S i)=YH (.inl (S (i+1))))(h2:body (S n)=YH (.inr o)):∀N,n<N->aD body N (S 0)=YH o:=by
 have key:∀d j,j+d=n->∀N,d<N->aD body N (S j)=YH o:=by
  intro d
  induction d with
  |zero=>
   intro j hj N hN;have:j=n:=X9;unfold aD;grind
  |succ d ih=>
   unfold aD
   grind
 grind
theorem zF{A α:Type}(f:A->α->A):∀(xs:List α) (i:Nat) (a:A),tV (λ_ a x=>YH (.inl (f a x):A⊕A)) YH i xs a=YH (xs.foldl f a)
 | [],i,a=>rfl
 |x::xs,i,a=>by
  exact zF f xs (i+1) (f a x)
theorem FX(h:ql w):gw w=YH (fN w):=by
 have qj:=h.eO;have Oj:=h.fit.ae;have e1:aD (fb w) NN ((-1),0)=YH (fN w):=by
  rw[qT (xs:=w.ae) (A:=Int) (λa i=>(a,i)) (λ_ a o=>YH (.inl (qL a (dY w.aa o)))) YH (λa i o ho=>?_) (λa=>?_) Yc (-1)]
  ·exact zF (λa o=>qL a (dY w.aa o)) w.ae 0 (-1)
  ·have bU:=(VT.1 ho).1
   have hg:aB w.ae (i:Int)=YH o:=by rw[aS];omega
   have hi:aI ((i:Int)+1)=((i+1:Nat):Int):=bE bU X9;have hok:=mQ h.fit h.ok ho;unfold fb;simp only[X1 (show(i:Int)<w.ae.length by omega),hg,VS,hi,qf,rU]
   by_cases uQ:o.aN<o.aG.length
   ·obtain⟨t,htg,yP⟩:=Dg h.fit h.ok ho hok.aN.1 uQ
    obtain⟨t1,t2,t3,t4,t5⟩:=cR h.fit.eO qj yP;have ht:o.aG[o.aN.toNat]?=YH t:=by unfold aB at htg;grind
    have ev:dY w.aa o=YH (if o.state=2 then dF w.aa t else cM w.aa t):=by unfold dY;grind
    simp only[qL]
    rcases hok.cases with⟨c1,_⟩ |⟨c1,_⟩ |⟨c1,c2,_⟩
    all_goals grind
   ·have ev:dY w.aa o=none:=by unfold dY;grind
    rw[ev,X2 uQ]
    rcases hok.cases with⟨c1,_⟩ |⟨c1,_⟩ |⟨c1,c2,_⟩
    ·rw[c1];rfl
    ·omega
    ·rw[c1];rfl
  ·unfold fb
   simp
 unfold gw
 grind
theorem Vr(h:ql w):mK w=YH (fN w):=by
 have h1:=Vp h.fit h.ok;rw[FX h]at h1
 unfold mK;rw[qb h.fit,h.ok]
 grind
theorem xJ{n c:Nat}(h:n<=1048576)(hc:c<=1024):bW (bm (0+n) c)=YH ():=eV X9 hc
theorem ZfD{n c:Nat}(h:n<=1048576)(hc:c<=1024):bW (bm n c)=YH ():=by have:=xJ h hc;grind
theorem NM{n:aj}(h:cO n):je n=YH n:=by
 unfold je;simp only[VY,xJ h.aA (show 64<=1024 by omega),xJ h.off (show 8<=1024 by omega),VS,Wz]
theorem sS{l:List av}(h:l.length<=1048576):eX l=YH l:=by
 unfold eX;simp only[VY,xJ h (show 16<=1024 by omega),VS,Wz]
theorem Kl{l:List aq}(h:l.length<=1048576):fP l=YH l:=by
 unfold fP;simp only[VY,xJ h (show 32<=1024 by omega),VS,Wz]
theorem uz{xs:List α}{i:Nat}{x:α}(h:xs[i]?=YH x):xs.take i++[x]=xs.take (i+1):=by
 rw[List.take_add_one,h];rfl
theorem xL(h:qp w):dA w=YH w:=by
 have Oj:=h.ae;unfold dA;rw[NM h.eO,Kl h.ar,sS h.ah];have e:aD (fH w w.aa w.ar w.ah) NN (0,[])=YH w.ae:=by
  have:=my (body:=fH w w.aa w.ar w.ah) (λi:Nat=>((i:Int),w.ae.take i)) (n:=w.ae.length) (o:=w.ae) (λi hi=>?_) ?_ NN Yc
  ·grind
  ·have ho:w.ae[i]?=YH w.ae[i]:=VU hi
   have hg:aB w.ae (i:Int)=YH w.ae[i]:=by rw[aS];omega
   have hw:aI ((i:Int)+1)=((i+1:Nat):Int):=bE hi X9;have hl:(w.ae.take i).length+1<=1048576:=by grind
   unfold fH;simp only[X1 (show(i:Int)<w.ae.length by omega),X5,hg,VS,sS (h.aG _ (Wm hi)),VZ,VY,eV hl (show 128<=1024 by omega),hw]
   rw[<-uz ho]
  ·unfold fH
   simp
 simp only[VY,xJ h.aH (show 56<=1024 by omega),xJ h.skip (show 8<=1024 by omega),VS,e,Wz]
theorem wZ{l:List Int}(h:l.length<=1048576):eA l=YH l:=by
 unfold eA;simp only[VY,xJ h (show 8<=1024 by omega),VS,Wz]
theorem qR{l:List aq}(h:l.length<=1048576):j2 l=YH l:=by
 unfold j2;simp only[VY,xJ h (show 32<=1024 by omega),VS,Wz]
theorem vQ(h:qp w):ee w=YH w:=by
 have Oj:=h.ae;unfold ee;have e:aD (ia w w.aa.off) NN (0,([]:List az))=YH w.ae:=by
  have:=my (body:=ia w w.aa.off) (λi:Nat=>((i:Int),w.ae.take i)) (n:=w.ae.length) (o:=w.ae) (λi hi=>?_) ?_ NN Yc
  ·grind
  ·have ho:w.ae[i]?=YH w.ae[i]:=VU hi
   have hg:aB w.ae (i:Int)=YH w.ae[i]:=by rw[aS];omega
   have hw:aI ((i:Int)+1)=((i+1:Nat):Int):=bE hi X9;have hl:(w.ae.take i).length+1<=1048576:=by grind
   unfold ia;simp only[X1 (show(i:Int)<w.ae.length by omega),X5,hg,VS,ZfD (h.aG _ (Wm hi)) (show 16<=1024 by omega),D9,VZ,VY,Nat.zero_add,eV hl (show 128<=1024 by omega),hw,Wz]
   rw[<-uz ho]
  ·unfold ia
   simp
 simp only[VY,xJ h.eO.aA (show 64<=1024 by omega),wZ h.eO.off,wZ h.skip,xJ h.ah (show 16<=1024 by omega),xJ h.aH (show 56<=1024 by omega),VS,e,qR h.ar,Wz]
abbrev OwA:=Int×Int×Int×(List bK)×(List Int)×(List az)×(List aq)×(List av)×(List bq)×(List Int)
def owA(w:ax):OwA:=(w.aa.change,w.now,w.bd,w.aa.aA,w.aa.off,w.ae,w.ar,w.ah,w.aH,w.skip)
theorem ql.pass(h:ql w):DM w:=by
 have hp:=h.parts;refine⟨h.fit.eO,h.eO,⟨rfl,⟨h.fit.skip,hp.2.2.2.1,X9⟩,h.fit.ae⟩,λo ho=>?_⟩
 obtain⟨i,hi,rfl⟩:=List.getElem_of_mem ho;have hok:=mQ h.fit h.ok (VU hi);refine⟨hok.aN,h.fit.aG _ ho,hok.bj,λhs=>?_⟩
 rcases hok.cases with⟨c,_⟩ |⟨_,c⟩ |⟨c,_⟩
 all_goals omega
theorem yz(h:fN w<0\/u<fN w):tj k w u=w:=by
 cases k with
 |zero=>rfl
 |succ k=>unfold tj;grind
theorem S4(h:ql w)(hk:o6 w<=k)(hu:u<=100000)(hc:¬(fN w<0\/u<fN w)):tj k w u=tj (k-1) (fR w (fN w)) u:=by
 have:=rB h X9
 cases k with
 |zero=>omega
 |succ k=>
  rw[Nat.add_sub_cancel]
  conv=>lhs;unfold tj;rw[if_neg hc]
theorem Bj{u:Int}(hu:u<=100000):∀(N k:Nat) (w:ax),ql w->o6 w<=k->k<N->aD (jN u) N (fN w,owA w)=YH (owA (tj k w u))
 |0,k,w,_,_,hN=>X9
 |N+1,k,w,h,hk,hN=>by
  simp only[aD];unfold jN;simp only[owA]
  by_cases h0:0<=fN w
  ·by_cases h1:fN w<=u
   ·obtain⟨a,b,c⟩:=sU h h0
    have ht:=rB h h0;have hb:=(zU h.pass (fN w)).1;rw[S4 h hk hu X9];simp only[X1 h0,X1 h1,VS,hb,FX a];exact Bj hu N (k-1) _ a X9 X9
   ·rw[yz (.inr X9)]
    grind
  ·rw[yz (.inl X9)]
   grind
theorem Nz(hf:qp w)(u:Int):jB w u=YH (if ew w=YJ/\w.now<=u/\u<=100000 then Fh w u else w):=by
 unfold jB;rw[xL hf,sx hf,gE,cE]
 cases hv:ew w with
 |false=>simp
 |true=>
  have h:ql w:=⟨hf,hv⟩
  by_cases h1:w.now<=u
  ·by_cases h2:u<=100000
   ·have e:(fN w,w.aa.change,w.now,w.bd,w.aa.aA,w.aa.off,w.ae,w.ar,w.ah,w.aH,w.skip)=(fN w,owA w):=rfl
    have hp:=h.parts;have hN:o6 w<NN:=by
     have:∀l:List az,(∀o∈l,o.aG.length<=1048576)->(l.map iX).sum<=2097152*l.length:=by
      intro l
      induction l with
      |nil=>simp
      |cons o l ih=>
       intro hl;have h2:=hl o Wp;have h3:iX o<=2*o.aG.length:=by unfold iX;omega
       grind
     have:=this w.ae hf.aG;unfold o6 NN;omega
    simp only[FX h,VS,h1,h2,e,Bj h2 NN (o6 w) w h (VX _) hN];rfl
   grind
  grind
theorem Nn(h:ql w):o6 w<=240:=by
 have hp:=h.parts;have hv:=h.ok;unfold ew at hv
 simp at hv
 have ht:=hv.2;have key:∀(l:List az) (a:Int),(∀o∈l,o.aG.length<=1048576)->l.length<=30->0<=a->a<=1048576*(30-l.length:Nat)->l.foldl (λa o=>aI (a+(o.aG.length:Int))) a=a+((l.map λo=>o.aG.length).sum:Nat):=by
  intro l
  induction l with
  |nil=>simp
  |cons o l ih=>
   intro a hl hn h0 h1;have h2:=hl o Wp;have hw:aI (a+(o.aG.length:Int))=a+(o.aG.length:Int):=aR X9
   grind
 have hs:=key w.ae 0 h.fit.aG hp.2.1 X9 X9;unfold uC at ht
 have h2:o6 w<=2*((w.ae.map λo=>o.aG.length).sum):=by
  unfold o6;have:∀l:List az,(l.map iX).sum<=2*(l.map λo=>o.aG.length).sum:=by
   intro l
   induction l with
   |nil=>simp
   |cons o l ih=>
    have:iX o<=2*o.aG.length:=by unfold iX;omega
    grind
  grind
 omega
theorem Bl{u:Int}(hu:u<=100000):∀(N k j:Nat) (w:ax),ql w->o6 w<=k->j+k=240->k<N->aD (kN u) N ((j:Int),owA w)=YH (owA (tj k w u))
 |0,k,j,w,_,_,_,hN=>X9
 |N+1,k,j,w,h,hk,hj,hN=>by
  simp only[aD];unfold kN;simp only[owA]
  by_cases hj2:j<240
  ·simp only[X1 (show(j:Int)<240 by omega),Vr h]
   by_cases h0:fN w<0
   ·rw[yz (.inl h0)]
    grind
   ·by_cases h1:u<fN w
    ·rw[yz (.inr h1)]
     grind
    ·obtain⟨a,b,c⟩:=sU h X9
     have ht:=rB h X9;have hb:=(zU h.pass (fN w)).2;have wY:aI ((j:Int)+1)=((j+1:Nat):Int):=by rw[aR X9];omega
     rw[S4 h hk hu X9];simp only[X2 h0,X2 h1,X6,bh,VS,hb,wY];exact Bl hu N (k-1) (j+1) _ a X9 X9 X9
  ·have xU:k=0:=X9
   subst xU;simp only[X2 (show ¬(j:Int)<240 by omega)]
   rfl
theorem yS(hf:qp w)(u:Int):dv w u=YH (if ew w=YJ/\w.now<=u/\u<=100000 then Fh w u else w):=by
 unfold dv;rw[vQ hf,qb hf,cE]
 cases hv:ew w with
 |false=>simp
 |true=>
  have h:ql w:=⟨hf,hv⟩
  by_cases h1:w.now<=u
  ·by_cases h2:u<=100000
   ·have e:((0:Int),w.aa.change,w.now,w.bd,w.aa.aA,w.aa.off,w.ae,w.ar,w.ah,w.aH,w.skip)=(((0:Nat):Int),owA w):=rfl
    simp only[V5,X6,X1 h1,X1 h2,Bool.and_self,h1,h2,and_self,if_true,e,Bl h2 NN 240 0 w h (Nn h) rfl Yc,VS];rw[Zal h (Nn h) (VX _) h2];rfl
   grind
  grind
def bO(x:aU):Ln:=⟨x.order,x.kind,x.bz,x.aP⟩
theorem oJ(n:Int):aI n=wrap64 n:=IntWalk.i64_left n
theorem MY(c x:Int):IntKind.i64.wrap ((aI (c*x)).tdiv 100)=St c x:=by unfold St;rw[<-oJ,<-oJ]
theorem ve(x:aU):l9 x=YH (pr x.order x.kind x.bz x.aP):=by
 unfold l9 pr vd;simp only[tZ]
 grind
theorem x7(x:aU):nP x=YH (pr x.order x.kind x.bz x.aP):=by
 rw[<-ve];rfl
theorem Q3(f:Int->Ln->Int)(l:List aU)(a:Int):l.foldl (λa x=>f a (bO x)) a=(l.map bO).foldl f a:=by rw[List.foldl_map]
theorem ya{l:List aU}{body:Int×Int->Option ((Int×Int)⊕Int)}(f:Int->Ln->Int)(hl:l.length<=1048576)
 (h1:∀a (i:Nat) x,l[i]?=YH x->body (a,(i:Int))=YH (.inl (f a (bO x),aI ((i:Int)+1)))) (h2:∀a,body (a,(l.length:Int))=YH (.inr a)):aD body NN (0,0)=YH ((l.map bO).foldl f 0):=by
 refine(qT (fun(a:Int) (i:Int)=>(a,i)) (λ_ a x=>YH (.inl (f a (bO x)))) YH (λa i x hx=>?_) (λa=>by rw[h2];rfl) Yc 0).trans ?_
 ·rw[h1 a i x hx,bE (VT.1 hx).1 X9];rfl
 ·rw[zF,Q3]
section
variable {l:List aU} (hl:l.length<=1048576)
include hl
theorem C9(o k:Int):db l o k=YH (cr (l.map bO) o k):=by
 unfold db cr;rw[ya (l0 o k) hl (λa i x hx=>?_) λa=>by unfold pO;simp]
 ·rfl
 ·have hg:aB l (i:Int)=YH x:=by rw[aS];omega
  unfold pO;simp only[o4,l0,bO,oJ]
  grind
theorem EW(o k:Int):eM l o k=YH (cr (l.map bO) o k):=by
 unfold eM cr;rw[ya (l0 o k) hl (λa i x hx=>?_) λa=>by unfold pQ;simp]
 ·rfl
 ·have hg:aB l (i:Int)=YH x:=by rw[aS];omega
  unfold pQ;simp only[o4,l0,bO,oJ]
  grind
theorem Ml(o k:Int):lq l o k=YH (xK (l.map bO) o k):=by
 unfold lq xK;rw[ya (rT o k) hl (λa i x hx=>?_) λa=>by unfold ni;simp]
 ·rfl
 ·have hg:aB l (i:Int)=YH x:=by rw[aS];omega
  unfold ni;simp only[o4,rT,bO,oJ]
  grind
theorem yg:bF l=YH l:=by unfold bF;rw[eV Yd X9];rfl
theorem yh:bZ l=YH l:=by unfold bZ;rw[eV Yd X9];rfl
end
theorem Zch{l:List aU}{i:Nat}{x:aU}(hx:l[i]?=YH x):(l.map bO).getD i default=bO x:=by grind
theorem MK(l:List aU)(i:Nat):(l.take i).map bO=(l.map bO).take i:=List.map_take
theorem OG{l:List aU}{i:Nat}{x:aU}(hx:l[i]?=YH x):tc (l.map bO) i=(!xE (l.map bO) i (bO x)&&uH ((l.map bO).take i) (bO x)):=by
 unfold tc;grind
theorem bad_eq{l:List aU}{i:Nat}{x:aU}:xE (l.map bO) i (bO x)=(!pr x.order x.kind x.bz x.aP ||YL (0<i)&&YL (x.aP<((l.map bO).getD (i-1) default).t)):=rfl
theorem Za9{x:aU}(h:pr x.order x.kind x.bz x.aP=YJ):x.kind=1\/x.kind=2\/x.kind=3:=FP (x:=bO x) h
theorem A1{l:List aU}{i:Nat}(hi:i<l.length)(hl:l.length<=200)(t:Int):(cond (YL (0<(i:Int))) ((aB l (aI ((i:Int)-1))).bind λy=>cond (YL (t<y.aP)) (YH (.inr YK)) (YH (.inl ()))) (YH (.inl ())):Option (Unit⊕Bool))=
 YH (if(YL (0<i)&&YL (t<((l.map bO).getD (i-1) default).t))=YJ then .inr YK else .inl ()):=by
 cases i with
 |zero=>rfl
 |succ m=>
  have hm:l[m]?=YH l[m]:=VU X9;have hw:aI (((m+1:Nat):Int)-1)=(m:Int):=by rw[aR X9];omega
  rw[X1 (show(0:Int)<((m+1:Nat):Int)by omega),hw,aS,hm,X1 (show 0<m+1 by omega),Nat.add_sub_cancel,Zch hm]
  show cond (YL (t<l[m].aP)) _ _=YH (if YL (t<l[m].aP)=YJ then _ else _)
  grind
theorem Cp{l:List aU}{body:Int->Option (Int⊕(Unit⊕Bool))}(hl:l.length<=200)
 (h1:∀(i:Nat) x,l[i]?=YH x->(∀j,j<i->tc (l.map bO) j=YJ)->pr x.order x.kind x.bz x.aP=YJ->(YL (0<i)&&YL (x.aP<((l.map bO).getD (i-1) default).t))=YK->body (i:Int)=YH (if uH ((l.map bO).take i) (bO x)=YJ then .inl ((i+1:Nat):Int)else .inr (.inr YK)))
 (h0:∀(i:Nat) x,l[i]?=YH x->xE (l.map bO) i (bO x)=YJ->body (i:Int)=YH (.inr (.inr YK)))
 (h2:body (l.length:Int)=YH (.inr (.inl ()))):(aD body NN 0).bind (bk (λ_=>YH YJ) (λr=>YH r))=YH (dG (l.map bO)):=by
 unfold dG;rw[Wo,X1 hl,og (c:=tc (l.map bO)) (n:=l.length) (r:=.inr YK) (e:=.inl ()) (λi hi hj=>?_) (λ_=>h2) Yc]
 ·unfold xA
  grind
 ·obtain⟨x,hx⟩:∃x,l[i]?=YH x:=⟨_,VU hi⟩
  rw[OG hx]
  cases hb:xE (l.map bO) i (bO x)with
  |true=>grind
  |false=>
   have FF:=hb;rw[bad_eq,Bool.or_eq_false_iff]at FF
   simp_all
section
variable {l:List aU} (h:l.length<=200) {i:Nat} {x:aU} (hx:l[i]?=YH x)
include h hx
theorem yj:i<l.length/\aB l (i:Int)=YH x/\bW (gg 0 (i:Int) l.length)=YH ()/\(l.take i).length<=1048576/\YL ((i:Int)<l.length)=YJ/\aI ((i:Int)+1)=((i+1:Nat):Int):=by
 have hi:=(VT.1 hx).1;exact⟨hi,by rw[aS];omega,od (X1 ⟨X9,X9,X9⟩),by grind,X1 X9,bE hi X9⟩
theorem Zdi(hb:xE (l.map bO) i (bO x)=YJ):gn l (i:Int)=YH (.inr (.inr YK)):=by
 obtain⟨hi,hg,hs,bU,hd,hw⟩:=yj h hx;rw[bad_eq]at hb
 unfold gn;simp only[hd,X5,o4,hg,VS,ve,A1 hi h]
 grind
theorem Zdj(hb:xE (l.map bO) i (bO x)=YJ):gr l (i:Int)=YH (.inr (.inr YK)):=by
 obtain⟨hi,hg,hs,bU,hd,hw⟩:=yj h hx;rw[bad_eq]at hb
 unfold gr;simp only[hd,X5,o4,hg,VS,x7,A1 hi h]
 grind
theorem ZbT(hl:pr x.order x.kind x.bz x.aP=YJ)(hb:(YL (0<i)&&YL (x.aP<((l.map bO).getD (i-1) default).t))=YK):
 gn l (i:Int)=YH (if uH ((l.map bO).take i) (bO x)=YJ then .inl ((i+1:Nat):Int)else .inr (.inr YK)):=by
 obtain⟨hi,hg,hs,bU,hd,hw⟩:=yj h hx;unfold gn;simp only[hd,X5,o4,hg,VS,ve,hl,V5,X6,A1 hi h,hb,hs,wh,C9 bU,MK,hw,bk,WA,if_false]
 rcases Za9 hl with hk|hk|hk
 ·rw[ZbI (x:=bO x) hk]
  simp only[bO]
  grind
 ·rw[ZbJ (x:=bO x) hk]
  simp only[bO,oJ]
  grind
 ·rw[ZbK (x:=bO x) hk]
  simp only[bO]
  grind
theorem ZbU(hj:∀j,j<i->tc (l.map bO) j=YJ)(hl:pr x.order x.kind x.bz x.aP=YJ)(hb:(YL (0<i)&&YL (x.aP<((l.map bO).getD (i-1) default).t))=YK):
 gr l (i:Int)=YH (if uH ((l.map bO).take i) (bO x)=YJ then .inl ((i+1:Nat):Int)else .inr (.inr YK)):=by
 obtain⟨hi,hg,hs,bU,hd,hw⟩:=yj h hx;have hc:=Mh (xs:=l.map bO) (i:=i) x.order 3 (vJ.2 hj) X9;unfold gr;simp only[hd,X5,o4,hg,VS,x7,hl,V5,X6,A1 hi h,hb,hs,wh,EW bU,Ml bU,MK,hw,bk,WA,if_false,hc]
 rcases Za9 hl with hk|hk|hk
 ·rw[ZbI (x:=bO x) hk]
  simp only[hk,bO]
  grind
 ·rw[ZbJ (x:=bO x) hk]
  simp only[hk,bO,oJ]
  grind
 ·rw[ZbK (x:=bO x) hk]
  simp only[hk,bO,beq_iff_eq]
  grind
end
theorem uu(l:List aU):dI l=YH (dG (l.map bO)):=by
 unfold dI
 by_cases h:l.length<=200
 ·rw[X2 (show ¬(200:Int)<l.length by omega)]
  exact Cp h (λi x hx _ hl hb=>ZbT h hx hl hb) (λi x hx hb=>Zdi h hx hb) (by unfold gn;simp)
 ·rw[X1 (show(200:Int)<l.length by omega),X5,vl Yd]
theorem vV(l:List aU):dX l=YH (dG (l.map bO)):=by
 unfold dX
 by_cases h:l.length<=200
 ·rw[X2 (show ¬(200:Int)<l.length by omega)]
  exact Cp h (λi x hx hj hl hb=>ZbU h hx hj hl hb) (λi x hx hb=>Zdj h hx hb) (by unfold gr;simp)
 ·rw[X1 (show(200:Int)<l.length by omega),X5,vl Yd]
theorem Zci{l:List aU}(h:dG (l.map bO)=YJ):l.length<=200:=by
 by_cases h':l.length<=200
 ·omega
 ·rw[vl Yd]at h;cases h
/-! Zdc. -/
theorem ED{l:List Int}(hl:l.length<=1048576){i:Nat}{x:Int}(hx:l[i]?=YH x):(cond (!(YL (0<=x)&&YL (x<=100))) (YH (.inr YK)) (cond (YL (0<(i:Int))) ((aB l (aI ((i:Int)-1))).bind λy=>cond (YL (x<y)) (YH (.inr YK)) (YH (.inl ()))) (YH (.inl ()))):Option (Unit⊕Bool))=
 YH (if sH l i=YJ then .inl ()else .inr YK):=by
 have u9:(YL (0<=x)&&YL (x<=100))=vd x 0 100:=rfl;rw[u9]
 cases h:vd x 0 100 with
 |false=>rw[O2 hx h];rfl
 |true=>
  cases i with
  |zero=>rw[Lh (VX 0) hx h];rfl
  |succ m=>
   have bU:=(VT.1 hx).1;have hm:l[m]?=YH l[m]:=VU X9;have hw:aI (((m+1:Nat):Int)-1)=(m:Int):=by rw[aR X9];omega
   rw[hw,aS]
   by_cases hy:x<l[m]
   ·rw[Lg hm hx hy];grind
   ·rw[Ss hm hx h hy];grind
theorem Li{l:List Int}(hl:l.length<=1048576):eD l=YH (oH l):=by
 unfold eD oH;rw[og (c:=sH l) (n:=l.length) (r:=.inr YK) (e:=.inl ()) (λi hi _=>?_) (λ_=>by unfold kM;simp) Yc]
 ·unfold xA
  cases(Wg l.length).all (sH l)
  ·rfl
  ·rw[tZ];rfl
 ·have hx:l[i]?=YH l[i]:=VU hi
  unfold kM;simp only[o4,aS,hx,VS,tZ,ED hl hx,bE hi X9]
  grind
theorem Lj{l:List Int}(hl:l.length<=1048576):eJ l=YH (oH l):=by
 unfold eJ oH;rw[og (c:=sH l) (n:=l.length) (r:=.inr YK) (e:=.inl ()) (λi hi _=>?_) (λ_=>by unfold kO;simp) Yc]
 ·unfold xA
  cases(Wg l.length).all (sH l)
  ·rfl
  ·rw[cE];rfl
 ·have hx:l[i]?=YH l[i]:=VU hi
  unfold kO;simp only[o4,aS,hx,VS,cE,ED hl hx,bE hi X9]
  grind
/-! Zg9,Zgz,Ze9,ZhI,given back. -/
def sI(l:List aU)(x:aU):List aU×Int:=if 200<=l.length then(l,5)else if dG ((l++[x]).map bO)=YJ then(l++[x],0)else(l,1)
def qt(l:List aU)(o a t:Int):List aU×Int:=
 if dG (l.map bO)=YK then(l,1)else if pr o 1 a t=YK then(l,1)else if YL (0<cr (l.map bO) o 1)=YJ then(l,2)else sI l ⟨o,1,a,t⟩
def DG(l:List aU)(o a t:Int):List aU×Int:=
 if dG (l.map bO)=YK then(l,1)else if pr o 2 a t=YK then(l,1)else if YL (cr (l.map bO) o 1=0)=YJ then(l,3)else if YL (j3 (l.map bO) o<a)=YJ then(l,4)else sI l ⟨o,2,a,t⟩
def rk(l:List aU)(o du en:Int)(ps:List Int)(t:Int):List aU×Int:=
 if dG (l.map bO)=YK then(l,1)else if oH ps=YK then(l,1)else if vd o 1 9999=YK then(l,1)else if vd t 0 100000=YK then(l,1)
 else if YL (cr (l.map bO) o 1=0)=YJ then(l,3)else if YL (0<j3 (l.map bO) o)=YJ then(l,3)else if YL (0<cr (l.map bO) o 3)=YJ then(l,2)
 else if YL (uw (cr (l.map bO) o 1) du en ps=0)=YJ then(l,4)else sI l ⟨o,3,uw (cr (l.map bO) o 1) du en ps,t⟩
section
variable {l:List aU} (hl:l.length<=1048576)
include hl
theorem F4(o:Int):gL l o=YH (j3 (l.map bO) o):=by
 unfold gL j3;simp only[uu,C9 hl,oJ]
 grind
theorem F5(o:Int):eo l o=YH (j3 (l.map bO) o):=by
 unfold eo j3;simp only[vV,EW hl,oJ]
 grind
theorem Lz(x:aU):ku l x=YH (sI l x):=by
 unfold ku sI;rw[yg hl];simp
 by_cases h:200<=l.length
 ·grind
 ·rw[eV Yd X9]
  simp only[uu]
  grind
theorem LA(x:aU):kH l x=YH (sI l x):=by
 unfold kH sI;rw[yh hl];simp only[VS];rw[od (b:=bm (l.length+([x]:List aU).length) 32) (by unfold bm;grind)]
 by_cases h:200<=l.length
 ·grind
 ·simp only[vV]
  grind
theorem QA(o a t:Int):kn l o a t=YH (qt l o a t):=by
 unfold kn qt;simp only[uu,ve,yg hl,C9 hl,Lz hl]
 grind
theorem Hj(o a t:Int):fx l o a t=YH (qt l o a t):=by
 unfold fx qt;simp only[vV,x7,yh hl,EW hl,LA hl]
 grind
theorem ZeJ(o a t:Int):nC l o a t=YH (DG l o a t):=by
 unfold nC DG;simp only[uu,ve,yg hl,C9 hl,F4 hl,Lz hl]
 grind
theorem Sr(o a t:Int):eT l o a t=YH (DG l o a t):=by
 unfold eT DG;simp only[vV,x7,yh hl,EW hl,F5 hl,LA hl]
 grind
end
theorem JN(h:0<=du/\du<=200000)(k:0<=en/\en<=200000)(he:¬en<=du):IntKind.i64.wrap (Int.tdiv (aI ((aI (en-du))-1)) 1440)=(en-du-1) / 1440:=by
 rw[show aI (aI (en-du)-1)=en-du-1 by rw[aR (n:=en-du) X9,aR X9],Int.tdiv_eq_ediv_of_nonneg X9]
 exact aR X9
theorem MZ{ps:List Int}(hp:oH ps=YJ)(he:¬en<=du):aB ps ((qF du en ps:Nat):Int)=YH (ps.getD (qF du en ps) 0):=by
 have:=Jk hp he;rw[aS,List.getD_eq_getElem?_getD,VU this];rfl
theorem Jl{ps:List Int}(hp:ps.length<=1048576)(c du en:Int):mA c du en ps=YH (uw c du en ps):=by
 unfold mA uw CM;simp only[Li hp,tZ]
 cases h1:oH ps
 ·rfl
 cases h2:vd c 0 100000
 ·simp only[vd]at h2;grind
 cases h3:vd du 0 200000
 ·simp only[vd]at h2 h3;grind
 cases h4:vd en 0 200000
 ·simp only[vd]at h2 h3 h4;grind
 by_cases h5:en<=du
 ·grind
 ·have hl:=CC h1
  have e:=JN (oe h3) (oe h4) h5;have hi:(if(aI ((ps.length:Int)-1))<(en-du-1) / 1440 then(aI ((ps.length:Int)-1))else(en-du-1) / 1440)=((qF du en ps:Nat):Int):=by
   rw[aR X9];unfold qF
   grind
  simp only[vd]at h2 h3 h4
  simp only[h2,h3,h4,e,hi,MZ h1 h5,X2 h5,VS,V5,Wr,XE,X6,if_true,MY]
theorem Jm{ps:List Int}(hp:ps.length<=1048576)(c du en:Int):ke c du en ps=YH (uw c du en ps):=by
 unfold ke uw CM;simp only[Lj hp,cE,o4]
 cases h1:oH ps
 ·rfl
 cases h2:vd c 0 100000
 ·simp only[vd]at h2;grind
 cases h3:vd du 0 200000
 ·simp only[vd]at h2 h3;grind
 cases h4:vd en 0 200000
 ·simp only[vd]at h2 h3 h4;grind
 by_cases h5:en<=du
 ·grind
 ·have hl:=CC h1
  have e:=JN (oe h3) (oe h4) h5;have hi:(cond (YL ((ps.length:Int)<=(en-du-1) / 1440)) (YH (.inl (aI ((ps.length:Int)-1)))) (YH (.inl ((en-du-1) / 1440))):Option (Int⊕Empty))=YH (.inl ((qF du en ps:Nat):Int)):=by
   rw[aR X9];unfold qF
   grind
  simp only[vd]at h2 h3 h4
  simp only[h2,h3,h4,e,hi,MZ h1 h5,X2 h5,VS,V5,Wr,XE,X6,if_true,bk,MY]
section
variable {l:List aU} (hl:l.length<=1048576) {ps:List Int} (hp:ps.length<=1048576)
include hl hp
theorem SN(o du en t:Int):ks l o du en ps t=YH (rk l o du en ps t):=by
 unfold ks rk vd;simp only[uu,Li hp,tZ,yg hl,C9 hl,F4 hl,Jl hp,Lz hl,VS]
 grind
theorem Jn(o du en t:Int):fC l o du en ps t=YH (rk l o du en ps t):=by
 unfold fC rk vd;simp only[vV,Lj hp,cE,yh hl,EW hl,Ml hl,F5 hl,Jm hp,LA hl,VS]
 cases hb:dG (l.map bO)
 ·rfl
 ·rw[QC o 3 hb]
  grind
end
structure Zdb(o:aL):Prop where
 world:qp o.world
 aY:rF o.aY
 aX:o.aX.length<=1048576
 sO:o.aM.length<=1048576
 lines:o.lines.length<=1048576
 aK:o.aK.length<=1048576
 aF:o.aF.length<=1048576
 ZeK:∀p∈o.aK,p.label.a8.size<=rq/\p.au.size<=rq/\p.bH.length<NN
 Zdg:∀a∈o.aF,a.aQ.label.a8.size<=rq/\a.aQ.au.size<=rq/\a.aQ.bH.length<NN
def BK(o:aL)(i:Nat)(p:aT)(v:Int×Bool)(x:Option az):Bool:=match x with
 |some x=>v.2&&(YL (x.au=p.au)&&(YL (x.a8=p.label.a8)&&(YL (x.ay=p.label.ay)&&(YL (x.ab=p.ab)&&YL (cr (o.lines.map bO) (((i+1:Nat):Int)) 1=v.1)))))
 |none=>YK
theorem sn(o:aL)(i:Nat)(p:aT)(v:Int×Bool)(x:az):BK o i p v (YH x)=(v.2&&(YL (x.au=p.au)&&(YL (x.a8=p.label.a8)&&(YL (x.ay=p.label.ay)&&(YL (x.ab=p.ab)&&YL (cr (o.lines.map bO) (((i+1:Nat):Int)) 1=v.1)))))):=rfl
def nz(o:aL)(i:Nat)(p:aT):Bool:=BK o i p ((gR o.aY o.aX p).getD (0,YK)) o.world.ae[i]?
def tJ(o:aL)(_:Nat)(x:aU):Bool:=!decide ((o.aK.length:Int)<x.order)&&!decide (o.world.now<x.aP)
def Fg(_:Nat)(a:bV):Bool:=(lS a).getD YK
def iu(o:aL):Bool:=
 ew o.world&&(rM o.aY&&(rJ o.aX (o.aY.length:Int)&&(oH o.aM&&(dG (o.lines.map bO)&&(YL ((o.aK.length:Int)=(o.world.ae.length:Int))&&(!decide (150<(o.aF.length:Int))&&(allI (nz o) 0 o.aK&&(allI (tJ o) 0 o.lines&&allI Fg 0 o.aF))))))))
section
variable {o:aL} (hf:Zdb o)
include hf
theorem IN(hl:o.aK.length=o.world.ae.length):aD (kC o) NN 0=YH (if allI (nz o) 0 o.aK=YJ then .inl ()else .inr YK):=by
 refine fD (A:=Unit) (λ_ i=>i) _ (λa _=>a) (λ_=>()) (λa i p hp=>?_) (λa=>?_) (by have:=hf.aK;unfold NN;omega) ()
 ·have bU:=(VT.1 hp).1
  have wq:=hf.aK;have hg:aB o.aK (i:Int)=YH p:=by rw[aS];omega
  obtain⟨x,hx⟩:∃x,o.world.ae[i]?=YH x:=⟨_,VU X9⟩;have hgx:aB o.world.ae (i:Int)=YH x:=by rw[aS];omega
  have hi:aI ((i:Int)+1)=((i+1:Nat):Int):=bE bU X9;obtain⟨p1,p2,p3⟩:=hf.ZeK p (VV hp);obtain⟨_,v,hv⟩:=yu hf.aY hf.aX p1 p2 p3;have Zgb:eM o.lines ((i+1:Nat):Int) 1=YH (cr (o.lines.map bO) (((i+1:Nat):Int)) 1):=EW hf.lines _ _;unfold kC nZ nz;simp only[hx,sn]
  grind
 ·unfold kC
  simp
theorem IM(hl:o.aK.length=o.world.ae.length):aD (ko o) NN 0=YH (if allI (nz o) 0 o.aK=YJ then .inl ()else .inr YK):=by
 refine fD (A:=Unit) (λ_ i=>i) _ (λa _=>a) (λ_=>()) (λa i p hp=>?_) (λa=>?_) (by have:=hf.aK;unfold NN;omega) ()
 ·have bU:=(VT.1 hp).1
  have wq:=hf.aK;have hg:aB o.aK (i:Int)=YH p:=by rw[aS];omega
  obtain⟨x,hx⟩:∃x,o.world.ae[i]?=YH x:=⟨_,VU X9⟩;have hgx:aB o.world.ae (i:Int)=YH x:=by rw[aS];omega
  have hi:aI ((i:Int)+1)=((i+1:Nat):Int):=bE bU X9;obtain⟨p1,p2,p3⟩:=hf.ZeK p (VV hp);obtain⟨e,v,hv⟩:=yu hf.aY hf.aX p1 p2 p3;have Zgb:db o.lines ((i+1:Nat):Int) 1=YH (cr (o.lines.map bO) (((i+1:Nat):Int)) 1):=C9 hf.lines _ _;unfold ko nz;simp only[hg,hgx,hx,VS,e,hv,sn]
  grind
 ·unfold ko
  simp
theorem IQ:aD (kD o) NN 0=YH (if allI (tJ o) 0 o.lines=YJ then .inl ()else .inr YK):=by
 refine fD (A:=Unit) (λ_ i=>i) _ (λa _=>a) (λ_=>()) (λa i p hp=>?_) (λa=>?_) (by have:=hf.lines;unfold NN;omega) ()
 ·have bU:=(VT.1 hp).1
  have wq:=hf.lines;have hg:aB o.lines (i:Int)=YH p:=by rw[aS];omega
  have hi:aI ((i:Int)+1)=((i+1:Nat):Int):=bE bU X9;unfold kD tJ
  grind
 ·unfold kD
  simp
theorem IP(hl:o.aK.length=o.world.ae.length):aD (kp o) NN 0=YH (if allI (tJ o) 0 o.lines=YJ then .inl ()else .inr YK):=by
 refine fD (A:=Unit) (λ_ i=>i) _ (λa _=>a) (λ_=>()) (λa i p hp=>?_) (λa=>?_) (by have:=hf.lines;unfold NN;omega) ()
 ·have bU:=(VT.1 hp).1
  have wq:=hf.lines;have hg:aB o.lines (i:Int)=YH p:=by rw[aS];omega
  have hi:aI ((i:Int)+1)=((i+1:Nat):Int):=bE bU X9;unfold kp tJ
  grind
 ·unfold kp
  simp
theorem IT:aD (kE o) NN 0=YH (if allI Fg 0 o.aF=YJ then .inl ()else .inr YK):=by
 refine fD (A:=Unit) (λ_ i=>i) _ (λa _=>a) (λ_=>()) (λa i p hp=>?_) (λa=>?_) (by have:=hf.aF;unfold NN;omega) ()
 ·have bU:=(VT.1 hp).1
  have wq:=hf.aF;have hg:aB o.aF (i:Int)=YH p:=by rw[aS];omega
  have hi:aI ((i:Int)+1)=((i+1:Nat):Int):=bE bU X9;obtain⟨p1,p2,p3⟩:=hf.Zdg p (VV hp);obtain⟨b,_,hb⟩:=Bh p1 p2 p3;unfold kE Fg
  grind
 ·unfold kE
  simp
theorem IS:aD (kq o) NN 0=YH (if allI Fg 0 o.aF=YJ then .inl ()else .inr YK):=by
 refine fD (A:=Unit) (λ_ i=>i) _ (λa _=>a) (λ_=>()) (λa i p hp=>?_) (λa=>?_) (by have:=hf.aF;unfold NN;omega) ()
 ·have bU:=(VT.1 hp).1
  have wq:=hf.aF;have hg:aB o.aF (i:Int)=YH p:=by rw[aS];omega
  have hi:aI ((i:Int)+1)=((i+1:Nat):Int):=bE bU X9;obtain⟨p1,p2,p3⟩:=hf.Zdg p (VV hp);obtain⟨b,pk,hb⟩:=Bh p1 p2 p3;unfold kq Fg
  grind
 ·unfold kq
  simp
theorem An:ll o=YH (iu o):=by
 have hp:eJ o.aM=YH (oH o.aM):=Lj hf.sO;have hl:dX o.lines=YH (dG (o.lines.map bO)):=vV _;unfold ll iu;simp only[qb hf.world,GK hf.aY,M4 hf.aX,hp,hl,VS]
 cases ew o.world
 ·rfl
 cases rM o.aY
 ·rfl
 cases rJ o.aX (o.aY.length:Int)
 ·rfl
 cases oH o.aM
 ·rfl
 cases dG (o.lines.map bO)
 ·rfl
 by_cases he:(o.aK.length:Int)=(o.world.ae.length:Int)
 ·rw[X1 he]
  cases YL (150<(o.aF.length:Int))
  ·simp only[IN hf X9,IQ hf,IT hf]
   grind
  rfl
 grind
theorem zZ:jv o=YH (iu o):=by
 have hp:eD o.aM=YH (oH o.aM):=Li hf.sO;have hl:dI o.lines=YH (dG (o.lines.map bO)):=uu _;unfold jv iu;simp only[sx hf.world,GJ hf.aY,M3 hf.aX,hp,hl,VS]
 cases ew o.world
 ·rfl
 cases rM o.aY
 ·rfl
 cases rJ o.aX (o.aY.length:Int)
 ·rfl
 cases oH o.aM
 ·rfl
 cases dG (o.lines.map bO)
 ·rfl
 by_cases he:(o.aK.length:Int)=(o.world.ae.length:Int)
 ·rw[X1 he]
  cases YL (150<(o.aF.length:Int))
  ·simp only[IM hf X9,IP hf X9,IS hf]
   grind
  rfl
 grind
end
end Go.Proofs.YtdilaemengjipaaGreatDoor
