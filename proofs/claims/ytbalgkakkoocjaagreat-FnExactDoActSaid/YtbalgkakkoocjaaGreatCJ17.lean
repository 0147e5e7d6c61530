/- A part of the proof of the statement in the last file of this claim: texts on the language of the program and on its functions. No condition. -/
import Derived.Test.YtbalgkakkoocjaaGreatCJ15
import Derived.Test.YtbalgkakkoocjaaGreatCJ12
import Derived.Test.YtbalgkakkoocjaaGreatCJ8
import Derived.Test.YtbalgkakkoocjaaGreatCJ16
import Derived.Test.YtbalgkakkoocjaaGreatCJ13
import Derived.Test.YtbalgkakkoocjaaGreatCJ5
import Derived.Test.YtbalgkakkoocjaaGreatCJ14
import Derived.Test.YtbalgkakkoocjaaGreatCJ6
import Derived.Test.YtbalgkakkoocjaaGreatCJ10
import Derived.Test.YtbalgkakkoocjaaGreatCJ11
import Derived.Test.YtbalgkakkoocjaaGreatCJ1
set_option linter.unusedVariables false
set_option linter.unusedSimpArgs false
set_option linter.unusedSectionVars false
open Option renaming some->ZA,none->ZB
open Bool renaming true->ZC,false->ZD
open Decidable renaming decide->ZE
open Go.Proofs.Tryz
set_option maxHeartbeats 40000000
namespace Go.Proofs.YtbalgkakkoocjaaGreat
open Option renaming bind_some->VE,map_eq_some_iff->VT,getD_some->Ww,map_some->Wo
open List renaming length_cons->VL,length_nil->VO,foldl_nil->Wf,length_append->VV,foldl_append->X6,map_cons->Wh,nil_append->Wu,getElem?_eq_some_iff->VH,length_set->Ws,getElem?_eq_getElem->VF,mem_of_getElem?->VI,getElem?_set_self->Wa,foldl_cons->Wj,getElem?_eq_none->Wz,length_map->VX,length_take->V3,getElem_mem->Wd,getElem_of_mem->V2,mem_cons_of_mem->V5,mem_cons_self->Wc,sum_cons->WB,range->Wq,findIdx?_eq_some_iff_getElem->XV,getElem?_set_ne->Wk,replicate->VW,length_replicate->XK,map_append->Yo,mem_append->WD
open Nat renaming zero_add->VY,le_refl->VJ,zero_le->WG,add_sub_cancel->Xp
open Bool renaming not_true->VK,not_false->Wl,and_self->Xj,and_eq_true->VN,false_eq_true->WU,true_and->WN
open _root_.Int renaming toNat_natCast->We,toNat->V0,le_refl->Wp
open Option.some renaming inj->VG
set_option maxRecDepth 10000
open Go.RowKit
variable {before gF:List Int}{du en u:Int}{k:Nat}{p q q0:ByteArray}{w:az}{y:bM}{α:Type}{v:α}
theorem ZbL:@uk=@mg:=rfl
def fx(w:az)(s:bc):az:={ w with aJ:=(pe w.skip (w.aJ,w.aT) s).1,aT:=(pe w.skip (w.aJ,w.aT) s).2}
structure rH(w:az):Prop where
 skip:w.skip.length<=1048576
 len:w.aJ.length<=200
 aT:0<=w.aT/\w.aT<=1000000000
theorem eK{a b c:Nat}(h:a+b<=1048576)(hc:c<=1024):dg (bB (a+b) c)=ZA ():=by
 refine pD ?_;unfold bB;refine Yp ⟨YG,?_⟩;have:(a+b)*c<=1048576*1024:=Nat.mul_le_mul h hc;omega
theorem ZhS{c:Prop}[Decidable c]{l:List α}{s:α}(h:c->l.length<200)(h2:l.length<=200):(if c then l++[s]else l).length<=200:=by
 by_cases hc:c
 ·have:=h hc;rw[if_pos hc];simp;omega
 ·rw[if_neg hc];exact h2
theorem za(h:rH w)(s:bc):rH (fx w s):=by
 obtain⟨h1,h2,h3⟩:=h;unfold fx pe;refine⟨h1,?_,?_⟩
 ·exact ZhS (λh=>h.2) h2
 ·simp only
  split<;>omega
theorem NW(h:rH w)(s:bc):eY w s=ZA (fx w s):=by
 obtain⟨h1,h2,h3⟩:=h;have hw:aH (w.aT+1)=w.aT+1:=aL YG;have hm:(if 1000000000<w.aT+1 then 1000000000 else w.aT+1)=(if w.aT<1000000000 then w.aT+1 else w.aT):=by split<;>split<;>omega
 have ha:=eK (a:=w.aJ.length) (b:=1) (c:=56) YG YG;unfold eY fx pe;rw[hw,hm,ZbL,M0 h1];simp only[VE,VL,VO,VY,ha]
 cases hb:w.skip.any λy=>ZE (y=if w.aT<1000000000 then w.aT+1 else w.aT)with
 |true=>simp
 |false=>
  by_cases hl:w.aJ.length<200
  ·rw[Yp (show(w.aJ.length:Int)<200 by omega)];simp[hl]
  ·rw[Yz (show ¬(w.aJ.length:Int)<200 by omega)];simp[hl]
theorem NY(h:rH w)(s:bc):fM w s=ZA (fx w s):=by
 obtain⟨h1,h2,h3⟩:=h;have hw:aH (w.aT+1)=w.aT+1:=aL YG;have ha:=eK (a:=w.aJ.length) (b:=1) (c:=56) YG YG;unfold fM fx pe;rw[hw];simp only[M0 h1,VE,VL,VO,VY,ha]
 by_cases hm:w.aT<1000000000
 ·rw[Yp hm,YC]
  simp only[if_pos hm]
  cases hb:w.skip.any λy=>ZE (y=w.aT+1)with
  |true=>simp
  |false=>
   by_cases hl:w.aJ.length<200
   ·rw[Yp (show(w.aJ.length:Int)<200 by omega)];simp[hl]
   ·rw[Yz (show ¬(w.aJ.length:Int)<200 by omega)];simp[hl]
 ·rw[Yz hm,YD]
  simp only[if_neg hm]
  cases hb:w.skip.any λy=>ZE (y=w.aT)with
  |true=>simp
  |false=>
   by_cases hl:w.aJ.length<200
   ·rw[Yp (show(w.aJ.length:Int)<200 by omega)];simp[hl]
   ·rw[Yz (show ¬(w.aJ.length:Int)<200 by omega)];simp[hl]
abbrev OwT:=Int×Int×Int×(List bM)×(List Int)×(List ay)×(List aj)×(List aw)×(List Int)×(List bc)
def A7(w:az):OwT:=(w.aa.change,w.now,w.aT,w.aa.aB,w.aa.off,w.ae,w.aq,w.ah,w.skip,w.aJ)
def Hf(i:Int)(w:az):Int×OwT:=(i,A7 w)
def gg(w:az)(l:List bc):az:=l.foldl fx w
theorem zd:∀(l:List bc) (w:az),gg w l={ w with aJ:=(l.foldl (pe w.skip) (w.aJ,w.aT)).1,aT:=(l.foldl (pe w.skip) (w.aJ,w.aT)).2}
 | [],w=>rfl
 |s::l,w=>by
  show gg (fx w s) l=_;rw[zd l (fx w s)];rfl
def mj(f:ay->ay)(g:Nat->ay->List bc)(i:Nat)(o:ay)(w:az):az:=gg { w with ae:=w.ae.set i (f o)} (g i o)
def vc(f:ay->ay)(g:Nat->ay->List bc):Nat->List ay->az->az
 |_,[],w=>w
 |i,o::os,w=>vc f g (i+1) os (mj f g i o w)
theorem DS(f:ay->ay)(g:Nat->ay->List bc)(i:Nat)(o:ay)(w:az):mj f g i o w={ w with ae:=w.ae.set i (f o),aJ:=((g i o).foldl (pe w.skip) (w.aJ,w.aT)).1,aT:=((g i o).foldl (pe w.skip) (w.aJ,w.aT)).2}:=by
 unfold mj;rw[zd]
theorem Jp(f:ay->ay)(g:Nat->ay->List bc):∀(os pre:List ay) (w:az),w.ae=pre++os->
 vc f g pre.length os w={ w with ae:=pre++os.map f,aJ:=((rQ g pre.length os).foldl (pe w.skip) (w.aJ,w.aT)).1,aT:=((rQ g pre.length os).foldl (pe w.skip) (w.aJ,w.aT)).2}
 | [],pre,w,h=>by simp only[vc,rQ,List.map_nil,Wf];rw[<-h]
 |o::os,pre,w,h=>by
  have Dc:w.ae.set pre.length (f o)=(pre++[f o])++os:=by rw[h,List.set_append_right _ _ (VJ _)];simp
  have:=Jp f g os (pre++[f o]) (mj f g pre.length o w) (by rw[DS];exact Dc)
  simp only[VV,VL,VO]at this
  show vc f g (pre.length+1) os (mj f g pre.length o w)=_;rw[this,DS];simp only[rQ,X6,Wh,List.append_assoc,List.cons_append,Wu]
theorem xM{f:ay->ay}{g:Nat->ay->List bc}{body:Int×OwT->Option ((Int×OwT)⊕OwT)}{n:Nat}{Inv:az->Prop}{Good:Nat->ay->Prop}
 (h1:∀(i:Nat) (o:ay) (w:az),w.ae.length=n->w.ae[i]?=ZA o->Inv w->Good i o->body (Hf i w)=ZA (.inl (Hf ((i+1:Nat):Int) (mj f g i o w)))/\Inv (mj f g i o w))
 (h2:∀w:az,w.ae.length=n->body (Hf n w)=ZA (.inr (A7 w))):
 ∀(os:List ay) (i:Nat) (N:Nat) (w:az),w.ae.drop i=os->w.ae.length=n->i<=n->os.length<N->Inv w->(∀(j:Nat) (o:ay),os[j]?=ZA o->Good (i+j) o)->aD body N (Hf i w)=ZA (A7 (vc f g i os w))
 | [],i,0,w,_,_,_,hN,_,_=>by simp at hN
 | [],i,N+1,w,hd,hl,hi,hN,hI,hG=>by
  have:i=n:=by have:=congrArg List.length hd;simp at this;omega
  subst this;simp only[aD,h2 w hl,vc];rfl
 |o::os,i,0,w,_,_,_,hN,_,_=>by simp at hN
 |o::os,i,N+1,w,hd,hl,hi,hN,hI,hG=>by
  have ho:w.ae[i]?=ZA o:=by
   have:=congrArg (λl:List ay=>l[0]?) hd
   simpa using this
  have bO:i<w.ae.length:=(VH.1 ho).1;obtain⟨e1,e2⟩:=h1 i o w hl ho hI (by simpa using hG 0 o rfl)
  have hor:(mj f g i o w).ae=w.ae.set i (f o):=by rw[DS]
  simp only[aD,e1,vc];refine xM h1 h2 os (i+1) N (mj f g i o w) ?_ (by rw[hor,Ws];exact hl) YG (by simp at hN;omega) e2 λj o' hj=>?_
  ·rw[hor,List.drop_set]
   have:(w.ae.drop (i+1))=os:=by
    have:=congrArg (List.drop 1) hd
    simpa[List.drop_drop]using this
   rw[if_pos YG,this]
  ·have:=hG (j+1) o' Zs
   rwa[show i+(j+1)=i+1+j by omega]at this
structure nN(n:ak)(k:Nat)(w:az):Prop where
 fv:w.aa=n
 aJ:rH w
 ae:w.ae.length<=1048576
theorem Ct:∀(l:List bc) (w:az),rH w->rH (gg w l)
 | [],w,h=>h
 |s::l,w,h=>Ct l _ (za h s)
theorem nN.step{n:ak}(h:nN n k w)(f:ay->ay)(g:Nat->ay->List bc)(i:Nat)(o:ay):nN n k (mj f g i o w):=by
 have hs:rH { w with ae:=w.ae.set i (f o)}:=⟨h.aJ.skip,h.aJ.len,h.aJ.aT⟩
 have h1:=Ct (g i o) _ hs;rw[DS];unfold mj at *
 rw[zd]at h1
 exact⟨h.fv,h1,by simp only[Ws];exact h.ae⟩
structure tA(n:ak)(o:ay):Prop where
 aN:0<=o.aN/\o.aN<=o.aK.length
 len:o.aK.length<=1048576
 aV:∀t∈o.aK,fw n t=ZC
 LH:o.state=2->o.aN<o.aK.length
theorem rD{xs:List α}{i:Nat}{x:α}(h:xs[i]?=ZA x):xs.set i x=xs:=by
 apply List.ext_getElem?;intro j;rw[List.getElem?_set]
 split
 ·rename_i e;subst e
  split
  ·exact h.symm
  ·rename_i hl;exact absurd (VH.1 h).1 hl
 ·rfl
theorem vG{n:ak}{aO:Int}{i:Nat}{o:ay}(h:¬o.state=1\/o.aK[o.aN.toNat]?=ZB\/∃t,o.aK[o.aN.toNat]?=ZA t/\¬cE n t=aO):ph n aO o=o/\sI n aO i o=[]:=by
 unfold ph sI
 rcases h with h|h|⟨t,h,h'⟩
 ·cases o.aK[o.aN.toNat]? with
  |none=>exact⟨rfl,rfl⟩
  |some t=>simp[h]
 ·rw[h];exact⟨rfl,rfl⟩
 ·rw[h];simp[h']
section
variable {n:ak} (hf:cR n) (hn:ba n=ZA ZC)
include hf hn
theorem Ziq(w0:az)(h0:w0.aa=n)(Oj:w0.ae.length<=1048576){aO:Int}(i:Nat)(o:ay)(w:az)(hl:w.ae.length=w0.ae.length)(ho:w.ae[i]?=ZA o)(hI:nN n 0 w)(hG:tA n o):
 gv w0 aO (Hf i w)=ZA (.inl (Hf ((i+1:Nat):Int) (mj (ct n aO) (gL n aO) i o w))):=by
 have bO:=(VH.1 ho).1;have hgg:=hG.aN;have hg:aA w.ae (i:Int)=ZA o:=by rw[aQ];exact ho
 have hr:A9 w.ae (i:Int)=ZA o:=hg;have hi:aH ((i:Int)+1)=((i+1:Nat):Int):=bI bO Zu;have hd:ZE ((i:Int)<(w0.ae.length:Int))=true:=Yp YG;have yt:(⟨w.aa.aB,w.aa.off,w0.aa.change⟩:ak)=n:=by rw[hI.fv,h0]
 have Fu:(⟨w.aa.aB,w.aa.off,w.aa.change⟩:ak)=n:=hI.fv;unfold gv Hf A7;simp only[hd,YC,hg,VE,hi,yt,vh]
 by_cases hs:o.state=2
 ·have xH:=hG.LH hs
  have GS:o.aN.toNat<o.aK.length:=YG;have ht:o.aK[o.aN.toNat]?=ZA o.aK[o.aN.toNat]:=VF GS;generalize o.aK[o.aN.toNat]=t at ht
  have hgw:aA o.aK o.aN=ZA t:=by unfold aA;rw[if_pos hG.aN.1];exact ht
  have yU:=hG.aV t (VI ht);obtain⟨y,hy,_⟩:=fh hf yU;obtain⟨t1,t2,t3,t4,t5⟩:=cT hf hn yU;have Sd:cd n t=y.aX:=by unfold cd;rw[hy];rfl
  have hyl:aA w.aa.aB t.bG=ZA y:=by rw[hI.fv];exact hy
  have Df:aH (o.aN+1)=o.aN+1:=aL (by have:=hG.len;omega)
  simp only[Yp hs,VK,YD,hgw,VE,t2]
  by_cases he:dm n t=aO
  ·have inv1:∀os:List ay,rH { w with ae:=os}:=λos=>⟨hI.aJ.skip,hI.aJ.len,hI.aJ.aT⟩
   have ea:ct n aO o=Hz n aO o t:=by unfold ct;rw[ht];simp only[hs,he,and_self,if_true]
   have ed:gL n aO i o=⟨((i+1:Nat):Int),aO,2,⟨#[]⟩,t⟩::(if cd n t=o.aX then [⟨((i+1:Nat):Int),aO,4,cd n t,⟨0,0⟩⟩]else []):=by unfold gL;rw[ht];simp only[hs,he,and_self,if_true]
   unfold mj;rw[ea,ed];unfold Hz;simp only[Yp he,VK,YD,hr,hgw,hyl,VE,zp,nG,Fu,We,Df];rw[show(⟨n,w.ae.set i ⟨o.ar,o.aX,o.ax,o.ab,o.aO,o.ec,o.aK,o.aN+1,1,y.aX,o.bK⟩,w.aq,w.ah,w.now,w.aJ,w.skip,w.aT⟩:az)={ w with ae:=w.ae.set i ⟨o.ar,o.aX,o.ax,o.ab,o.aO,o.ec,o.aK,o.aN+1,1,y.aX,o.bK⟩}by rw[<-hI.fv]]
   rw[NW (inv1 _)];have SS:i<(w.ae.set i (⟨o.ar,o.aX,o.ax,o.ab,o.aO,o.ec,o.aK,o.aN+1,1,y.aX,o.bK⟩:ay)).length:=by rw[Ws];exact bO
   have hr2:A9 (w.ae.set i (⟨o.ar,o.aX,o.ax,o.ab,o.aO,o.ec,o.aK,o.aN+1,1,y.aX,o.bK⟩:ay)) (i:Int)=ZA ⟨o.ar,o.aX,o.ax,o.ab,o.aO,o.ec,o.aK,o.aN+1,1,y.aX,o.bK⟩:=by
    unfold A9;rw[aQ,Wa bO]
   simp only[VE,fx,hr2,Sd]
   by_cases hc:y.aX=o.aX
   ·have hr3:A9 (w.ae.set i (⟨o.ar,o.aX,o.ax,o.ab,o.aO,o.ec,o.aK,o.aN+1,3,y.aX,aO⟩:ay)) (i:Int)=ZA ⟨o.ar,o.aX,o.ax,o.ab,o.aO,o.ec,o.aK,o.aN+1,3,y.aX,aO⟩:=by
     unfold A9;rw[aQ,Wa bO]
    simp only[Yp hc,YC,List.set_set,hr3,VE];have inv2:=za (inv1 (w.ae.set i ⟨o.ar,o.aX,o.ax,o.ab,o.aO,o.ec,o.aK,o.aN+1,3,y.aX,aO⟩)) (⟨((i+1:Nat):Int),aO,2,⟨#[]⟩,t⟩:bc);have e2:=NW inv2 ⟨((i+1:Nat):Int),aO,4,y.aX,⟨0,0⟩⟩;unfold fx at e2
    simp only at e2
    simp only[e2,VE,if_pos hc,gg,Wj,Wf,fx]
   ·simp only[Yz hc,YD,if_neg hc,gg,Wj,Wf,fx]
  ·have ea:ct n aO o=o:=by unfold ct;rw[ht];simp only[he,and_false,if_false]
   have ed:gL n aO i o=[]:=by unfold gL;rw[ht];simp only[he,and_false,if_false]
   simp only[Yz he,Wl,YC,mj,ea,ed,gg,Wf,rD ho]
 ·have ea:ct n aO o=o:=by
   unfold ct
   cases o.aK[o.aN.toNat]? with
   |none=>rfl
   |some t=>simp[hs]
  have ed:gL n aO i o=[]:=by
   unfold gL
   cases o.aK[o.aN.toNat]? with
   |none=>rfl
   |some t=>simp[hs]
  simp only[Yz hs,Wl,YC,mj,ea,ed,gg,Wf,rD ho]
theorem Zir{aO:Int}(i:Nat)(o:ay)(w:az)(ho:w.ae[i]?=ZA o)(hI:nN n 0 w)(hG:tA n o):
 iT aO (Hf i w)=ZA (.inl (Hf ((i+1:Nat):Int) (mj (ct n aO) (gL n aO) i o w))):=by
 have bO:=(VH.1 ho).1;have hgg:=hG.aN;have hg:aA w.ae (i:Int)=ZA o:=by rw[aQ];exact ho
 have hi:aH ((i:Int)+1)=((i+1:Nat):Int):=bI bO Zu;have hd:ZE ((i:Int)<(w.ae.length:Int))=true:=Yp YG;have Fu:(⟨w.aa.aB,w.aa.off,w.aa.change⟩:ak)=n:=hI.fv;unfold iT Hf A7;simp only[hd,YC,hg,VE,hi,Fu]
 by_cases hs:o.state=2
 ·have xH:=hG.LH hs
  have GS:o.aN.toNat<o.aK.length:=YG;have ht:o.aK[o.aN.toNat]?=ZA o.aK[o.aN.toNat]:=VF GS;generalize o.aK[o.aN.toNat]=t at ht
  have hgw:aA o.aK o.aN=ZA t:=by unfold aA;rw[if_pos hG.aN.1];exact ht
  have yU:=hG.aV t (VI ht);obtain⟨y,hy,_⟩:=fh hf yU;obtain⟨t1,t2,t3,t4,t5⟩:=cT hf hn yU;have Sd:cd n t=y.aX:=by unfold cd;rw[hy];rfl
  have Df:aH (o.aN+1)=o.aN+1:=aL (by have:=hG.len;omega)
  simp only[Yp hs,VK,YD,hgw,VE,t2]
  by_cases he:dm n t=aO
  ·have ea:ct n aO o=Hz n aO o t:=by unfold ct;rw[ht];simp only[hs,he,and_self,if_true]
   have ed:gL n aO i o=⟨((i+1:Nat):Int),aO,2,⟨#[]⟩,t⟩::(if cd n t=o.aX then [⟨((i+1:Nat):Int),aO,4,cd n t,⟨0,0⟩⟩]else []):=by unfold gL;rw[ht];simp only[hs,he,and_self,if_true]
   unfold mj;rw[ea,ed];unfold Hz;simp only[Yp he,VK,YD,VE,zp,nG,We,Df];have e1:=NY hI.aJ ⟨((i+1:Nat):Int),aO,2,⟨#[]⟩,t⟩;have hw:w=⟨n,w.ae,w.aq,w.ah,w.now,w.aJ,w.skip,w.aT⟩:=by rw[<-hI.fv]
   rw[<-hI.fv]at hy
   rw[show(⟨n,w.ae,w.aq,w.ah,w.now,w.aJ,w.skip,w.aT⟩:az)=w from hw.symm,e1];simp only[VE,fx,hg,hy,Sd]
   by_cases hc:y.aX=o.aX
   ·have inv2:rH { fx w ⟨((i+1:Nat):Int),aO,2,⟨#[]⟩,t⟩with ae:=w.ae.set i ⟨o.ar,o.aX,o.ax,o.ab,o.aO,o.ec,o.aK,o.aN+1,3,y.aX,aO⟩}:=by
     obtain⟨a,b,c⟩:=za hI.aJ ⟨((i+1:Nat):Int),aO,2,⟨#[]⟩,t⟩;exact⟨a,b,c⟩
    have e2:=NY inv2 ⟨((i+1:Nat):Int),aO,4,o.aX,⟨0,0⟩⟩;unfold fx at e2
    simp only at e2
    have Og:ZE (y.aX=o.aX)=true:=Yp hc;simp only[Og,YC,VE,e2,if_pos hc,gg,Wj,Wf,fx];simp only[hc]
   ·simp only[Yz hc,YD,if_neg hc,gg,Wj,Wf,fx]
  ·have ea:ct n aO o=o:=by unfold ct;rw[ht];simp only[he,and_false,if_false]
   have ed:gL n aO i o=[]:=by unfold gL;rw[ht];simp only[he,and_false,if_false]
   simp only[Yz he,Wl,YC,mj,ea,ed,gg,Wf,rD ho]
 ·have ea:ct n aO o=o:=by
   unfold ct
   cases o.aK[o.aN.toNat]? with
   |none=>rfl
   |some t=>simp[hs]
  have ed:gL n aO i o=[]:=by
   unfold gL
   cases o.aK[o.aN.toNat]? with
   |none=>rfl
   |some t=>simp[hs]
  simp only[Yz hs,Wl,YC,mj,ea,ed,gg,Wf,rD ho]
theorem Zis(w0:az)(h0:w0.aa=n)(o0:OwT){aO:Int}(i:Nat)(o:ay)(w:az)(hl:w.ae.length=o0.2.2.2.2.2.1.length)(ho:w.ae[i]?=ZA o)(hI:nN n 0 w)(hG:tA n o):
 gx w0 aO o0 (Hf i w)=ZA (.inl (Hf ((i+1:Nat):Int) (mj (ph n aO) (sI n aO) i o w))):=by
 have bO:=(VH.1 ho).1;have hgg:=hG.aN;have hg:aA w.ae (i:Int)=ZA o:=by rw[aQ];exact ho
 have hr:A9 w.ae (i:Int)=ZA o:=hg;have hi:aH ((i:Int)+1)=((i+1:Nat):Int):=bI bO Zu;have hd:ZE ((i:Int)<(o0.2.2.2.2.2.1.length:Int))=true:=Yp YG;have yt:(⟨w.aa.aB,w.aa.off,w0.aa.change⟩:ak)=n:=by rw[hI.fv,h0]
 have Fu:(⟨w.aa.aB,w.aa.off,w.aa.change⟩:ak)=n:=hI.fv;unfold gx Hf A7;simp only[hd,YC,hg,VE,hi,yt,su]
 by_cases hs:o.state=1
 ·by_cases xH:o.aN<o.aK.length
  ·have GS:o.aN.toNat<o.aK.length:=YG
   have ht:o.aK[o.aN.toNat]?=ZA o.aK[o.aN.toNat]:=VF GS;generalize o.aK[o.aN.toNat]=t at ht
   have hgw:aA o.aK o.aN=ZA t:=by unfold aA;rw[if_pos hG.aN.1];exact ht
   have yU:=hG.aV t (VI ht);obtain⟨t1,t2,t3,t4,t5⟩:=cT hf hn yU;simp only[Yp hs,Yp xH,YC,hgw,VE,t1]
   by_cases he:cE n t=aO
   ·have ea:ph n aO o=⟨o.ar,o.aX,o.ax,o.ab,o.aO,o.ec,o.aK,o.aN,2,⟨#[]⟩,o.bK⟩:=by unfold ph;rw[ht];simp only[hs,he,and_self,if_true]
    have ed:sI n aO i o=[⟨((i+1:Nat):Int),aO,3,⟨#[]⟩,t⟩]:=by unfold sI;rw[ht];simp only[hs,he,and_self,if_true]
    have hr2:A9 (w.ae.set i (⟨o.ar,o.aX,o.ax,o.ab,o.aO,o.ec,o.aK,o.aN,2,⟨#[]⟩,o.bK⟩:ay)) (i:Int)=ZA ⟨o.ar,o.aX,o.ax,o.ab,o.aO,o.ec,o.aK,o.aN,2,⟨#[]⟩,o.bK⟩:=by
     unfold A9;rw[aQ,Wa bO]
    have inv1:rH { w with ae:=w.ae.set i ⟨o.ar,o.aX,o.ax,o.ab,o.aO,o.ec,o.aK,o.aN,2,⟨#[]⟩,o.bK⟩}:=⟨hI.aJ.skip,hI.aJ.len,hI.aJ.aT⟩
    have e1:=NW inv1 ⟨((i+1:Nat):Int),aO,3,⟨#[]⟩,t⟩;have hnw:w.aa=n:=hI.fv;simp only[hnw]at e1
    unfold mj;rw[ea,ed];simp only[Yp he,YC,hr,VE,zp,nG,AX,Fu,We,hr2,hgw,e1,gg,Wj,Wf,fx,hnw]
   ·obtain⟨ea,ed⟩:=vG (n:=n) (aO:=aO) (i:=i) (.inr (.inr ⟨t,ht,he⟩))
    simp only[Yz he,YD,mj,ea,ed,gg,Wf,rD ho]
  ·obtain⟨ea,ed⟩:=vG (n:=n) (aO:=aO) (i:=i) (o:=o) (.inr (.inl (Wz YG)))
   simp only[Yp hs,Yz xH,YC,YD,mj,ea,ed,gg,Wf,rD ho]
 ·obtain⟨ea,ed⟩:=vG (n:=n) (aO:=aO) (i:=i) (o:=o) (.inl hs)
  simp only[Yz hs,YD,mj,ea,ed,gg,Wf,rD ho]
theorem Zit{aO:Int}(i:Nat)(o:ay)(w:az)(ho:w.ae[i]?=ZA o)(hI:nN n 0 w)(hG:tA n o):
 iU aO (Hf i w)=ZA (.inl (Hf ((i+1:Nat):Int) (mj (ph n aO) (sI n aO) i o w))):=by
 have bO:=(VH.1 ho).1;have hgg:=hG.aN;have hg:aA w.ae (i:Int)=ZA o:=by rw[aQ];exact ho
 have hi:aH ((i:Int)+1)=((i+1:Nat):Int):=bI bO Zu;have hd:ZE ((i:Int)<(w.ae.length:Int))=true:=Yp YG;have Fu:(⟨w.aa.aB,w.aa.off,w.aa.change⟩:ak)=n:=hI.fv;unfold iU Hf A7;simp only[hd,YC,hg,VE,hi,Fu]
 by_cases hs:o.state=1
 ·by_cases xH:o.aN<o.aK.length
  ·have GS:o.aN.toNat<o.aK.length:=YG
   have ht:o.aK[o.aN.toNat]?=ZA o.aK[o.aN.toNat]:=VF GS;generalize o.aK[o.aN.toNat]=t at ht
   have hgw:aA o.aK o.aN=ZA t:=by unfold aA;rw[if_pos hG.aN.1];exact ht
   have yU:=hG.aV t (VI ht);obtain⟨t1,t2,t3,t4,t5⟩:=cT hf hn yU;simp only[Yp hs,Yp xH,YC,hgw,VE,t1]
   by_cases he:cE n t=aO
   ·have ea:ph n aO o=⟨o.ar,o.aX,o.ax,o.ab,o.aO,o.ec,o.aK,o.aN,2,⟨#[]⟩,o.bK⟩:=by unfold ph;rw[ht];simp only[hs,he,and_self,if_true]
    have ed:sI n aO i o=[⟨((i+1:Nat):Int),aO,3,⟨#[]⟩,t⟩]:=by unfold sI;rw[ht];simp only[hs,he,and_self,if_true]
    have inv1:rH { w with ae:=w.ae.set i ⟨o.ar,o.aX,o.ax,o.ab,o.aO,o.ec,o.aK,o.aN,2,⟨#[]⟩,o.bK⟩}:=⟨hI.aJ.skip,hI.aJ.len,hI.aJ.aT⟩
    have e1:=NY inv1 ⟨((i+1:Nat):Int),aO,3,⟨#[]⟩,t⟩;have hnw:w.aa=n:=hI.fv;simp only[hnw]at e1
    unfold mj;rw[ea,ed];simp only[Yp he,YC,VE,zp,nG,AX,Fu,We,hgw,e1,gg,Wj,Wf,fx,hnw]
   ·obtain⟨ea,ed⟩:=vG (n:=n) (aO:=aO) (i:=i) (.inr (.inr ⟨t,ht,he⟩))
    simp only[Yz he,YD,mj,ea,ed,gg,Wf,rD ho]
  ·obtain⟨ea,ed⟩:=vG (n:=n) (aO:=aO) (i:=i) (o:=o) (.inr (.inl (Wz YG)))
   simp only[Yp hs,Yz xH,YC,YD,mj,ea,ed,gg,Wf,rD ho]
 ·obtain⟨ea,ed⟩:=vG (n:=n) (aO:=aO) (i:=i) (o:=o) (.inl hs)
  simp only[Yz hs,YD,mj,ea,ed,gg,Wf,rD ho]
end
structure KG(w:az):Prop where
 fv:cR w.aa
 Vs:ba w.aa=ZA ZC
 inv:nN w.aa 0 w
 ord:∀o∈w.ae,tA w.aa o
theorem QI{n:ak}{aO:Int}{o:ay}(h:tA n o):tA n (ct n aO o):=by
 have hs:=zg n aO o;refine⟨?_,by rw[hs.aK];exact h.len,by rw[hs.aK];exact h.aV,?_⟩
 ·rw[hs.aK]
  have:=h.aN;unfold ct
  split
  ·rename_i t ht
   have bO:=(VH.1 ht).1
   split
   ·unfold Hz;split<;>(simp only;omega)
   ·exact this
  ·exact this
 ·unfold ct
  split
  ·split
   ·unfold Hz;split<;>(intro h';simp at h')
   ·exact h.LH
  ·exact h.LH
theorem Fp(h:KG w)(aO:Int):l4 w aO=ZA (fK w aO)/\oL w aO=ZA (fK w aO):=by
 have hlen:=h.inv.ae;have p1:vc (ct w.aa aO) (gL w.aa aO) 0 w.ae w={ w with ae:=w.ae.map (ct w.aa aO),aJ:=((rQ (gL w.aa aO) 0 w.ae).foldl (pe w.skip) (w.aJ,w.aT)).1,aT:=((rQ (gL w.aa aO) 0 w.ae).foldl (pe w.skip) (w.aJ,w.aT)).2}:=by
  have:=Jp (ct w.aa aO) (gL w.aa aO) w.ae [] w rfl
  simpa using this
 have i1:nN w.aa 0 (vc (ct w.aa aO) (gL w.aa aO) 0 w.ae w):=by
  have:∀(os:List ay) (i:Nat) (v:az),nN w.aa 0 v->nN w.aa 0 (vc (ct w.aa aO) (gL w.aa aO) i os v):=by
   intro os
   induction os with
   |nil=>intro i v hv;exact hv
   |cons o os ih=>intro i v hv;exact ih (i+1) _ (hv.step _ _ i o)
  exact this _ _ _ h.inv
 have o1:(vc (ct w.aa aO) (gL w.aa aO) 0 w.ae w).ae=w.ae.map (ct w.aa aO):=by rw[p1]
 have p2:=Jp (ph w.aa aO) (sI w.aa aO) (w.ae.map (ct w.aa aO)) [] (vc (ct w.aa aO) (gL w.aa aO) 0 w.ae w) (by rw[o1];rfl)
 simp only[VO,Wu]at p2
 have ZeC:∀(j:Nat) (o:ay),w.ae[j]?=ZA o->tA w.aa o:=λj o ho=>h.ord o (VI ho)
 have ZeD:∀(j:Nat) (o:ay),(w.ae.map (ct w.aa aO))[j]?=ZA o->tA w.aa o:=λj o ho=>by
  rw[List.getElem?_map]at ho
  obtain⟨o0,h0,rfl⟩:=VT.1 ho;exact QI (ZeC j o0 h0)
 have fin:∀v:az,v=vc (ph w.aa aO) (sI w.aa aO) 0 (w.ae.map (ct w.aa aO)) (vc (ct w.aa aO) (gL w.aa aO) 0 w.ae w)->{ v with now:=aO}=fK w aO:=by
  rintro v rfl;rw[p2,p1];unfold fK JG rF;simp only[List.map_map,X6];rfl
 constructor
 ·unfold l4
  have l1:=xM (f:=ct w.aa aO) (g:=gL w.aa aO) (body:=gv w aO) (n:=w.ae.length) (Inv:=nN w.aa 0) (Good:=λ_ o=>tA w.aa o)
   (λi o v hv ho hI hG=>⟨Ziq h.fv h.Vs w rfl hlen i o v hv ho hI hG,hI.step _ _ i o⟩)
   (λv hv=>by unfold gv Hf A7;simp only[Yz (show ¬(w.ae.length:Int)<(w.ae.length:Int)by omega),YD]) w.ae 0 NN w rfl rfl (WG _) YI h.inv ZeC
  have e1:((0:Int),w.aa.change,w.now,w.aT,w.aa.aB,w.aa.off,w.ae,w.aq,w.ah,w.skip,w.aJ)=Hf ((0:Nat):Int) w:=rfl;rw[e1,l1,VE];generalize hv1:vc (ct w.aa aO) (gL w.aa aO) 0 w.ae w=v1 at *
  have hl2:v1.ae.length=w.ae.length:=by rw[o1,VX]
  have l2:=xM (f:=ph w.aa aO) (g:=sI w.aa aO) (body:=gx w aO (A7 v1)) (n:=v1.ae.length) (Inv:=nN w.aa 0) (Good:=λ_ o=>tA w.aa o)
   (λi o v hv ho hI hG=>⟨Zis h.fv h.Vs w rfl (A7 v1) i o v hv ho hI hG,hI.step _ _ i o⟩)
   (λv hv=>by unfold gx Hf A7;simp only[Yz (show ¬(v1.ae.length:Int)<(v1.ae.length:Int)by omega),YD]) (w.ae.map (ct w.aa aO)) 0 NN v1 (by rw[o1];rfl) rfl (WG _) (by rw[VX];unfold NN;omega) i1 ZeD
  have e2:((0:Int),(A7 v1).1,(A7 v1).2.1,(A7 v1).2.2.1,(A7 v1).2.2.2.1,(A7 v1).2.2.2.2.1,(A7 v1).2.2.2.2.2.1,(A7 v1).2.2.2.2.2.2.1,(A7 v1).2.2.2.2.2.2.2.1,(A7 v1).2.2.2.2.2.2.2.2.1,(A7 v1).2.2.2.2.2.2.2.2.2)=Hf ((0:Nat):Int) v1:=rfl;rw[e2,l2,VE];exact congrArg ZA (fin _ rfl)
 ·unfold oL
  have l1:=xM (f:=ct w.aa aO) (g:=gL w.aa aO) (body:=iT aO) (n:=w.ae.length) (Inv:=nN w.aa 0) (Good:=λ_ o=>tA w.aa o)
   (λi o v hv ho hI hG=>⟨Zir h.fv h.Vs i o v ho hI hG,hI.step _ _ i o⟩)
   (λv hv=>by unfold iT Hf A7;simp only[Yz (show ¬(w.ae.length:Int)<(v.ae.length:Int)by omega),YD]) w.ae 0 NN w rfl rfl (WG _) YI h.inv ZeC
  have e1:((0:Int),w.aa.change,w.now,w.aT,w.aa.aB,w.aa.off,w.ae,w.aq,w.ah,w.skip,w.aJ)=Hf ((0:Nat):Int) w:=rfl;rw[e1,l1,VE];generalize hv1:vc (ct w.aa aO) (gL w.aa aO) 0 w.ae w=v1 at *
  have l2:=xM (f:=ph w.aa aO) (g:=sI w.aa aO) (body:=iU aO) (n:=v1.ae.length) (Inv:=nN w.aa 0) (Good:=λ_ o=>tA w.aa o)
   (λi o v hv ho hI hG=>⟨Zit h.fv h.Vs i o v ho hI hG,hI.step _ _ i o⟩)
   (λv hv=>by unfold iU Hf A7;simp only[Yz (show ¬(v1.ae.length:Int)<(v.ae.length:Int)by omega),YD]) (w.ae.map (ct w.aa aO)) 0 NN v1 (by rw[o1];rfl) rfl (WG _) (by rw[VX];unfold NN;omega) i1 ZeD
  have e2:((0:Int),(A7 v1).1,(A7 v1).2.1,(A7 v1).2.2.1,(A7 v1).2.2.2.1,(A7 v1).2.2.2.2.1,(A7 v1).2.2.2.2.2.1,(A7 v1).2.2.2.2.2.2.1,(A7 v1).2.2.2.2.2.2.2.1,(A7 v1).2.2.2.2.2.2.2.2.1,(A7 v1).2.2.2.2.2.2.2.2.2)=Hf ((0:Nat):Int) v1:=rfl;rw[e2,l2,VE];exact congrArg ZA (fin _ rfl)
theorem oz{σ ο:Type}{body:σ->Option (σ⊕ο)}(S:Nat->σ){n:Nat}{o:ο}(h1:∀i,i<n->body (S i)=ZA (.inl (S (i+1))))(h2:body (S n)=ZA (.inr o)):∀N,n<N->aD body N (S 0)=ZA o:=by
 have key:∀d j,j+d=n->∀N,d<N->aD body N (S j)=ZA o:=by
  intro d
  induction d with
  |zero=>
   intro j hj N hN;obtain⟨N,rfl⟩:∃M,N=M+1:=⟨N-1,YG⟩;have:j=n:=YG;subst this;unfold aD;rw[h2];rfl
  |succ d ih=>
   intro j hj N hN;obtain⟨N,rfl⟩:∃M,N=M+1:=⟨N-1,YG⟩;unfold aD;rw[h1 j YG];exact ih (j+1) YG N YG
 intro N hN;exact key n 0 YG N hN
theorem EX{A α:Type}(f:A->α->A):∀(xs:List α) (i:Nat) (a:A),wa (λ_ a x=>ZA (.inl (f a x):A⊕A)) ZA i xs a=ZA (xs.foldl f a)
 | [],i,a=>rfl
 |x::xs,i,a=>by
  simp only[wa,VE,bm,Wj];exact EX f xs (i+1) (f a x)
theorem Nl(h:tC w):gn w=ZA (fE w):=by
 have yt:=h.fv;have hor:=h.fit.ae;have e1:aD (eX w) NN ((-1),0)=ZA (fE w):=by
  rw[so (xs:=w.ae) (A:=Int) (λa i=>(a,i)) (λ_ a o=>ZA (.inl (tx a (dW w.aa o)))) ZA (λa i o ho=>?_) (λa=>?_) YI (-1)]
  ·exact EX (λa o=>tx a (dW w.aa o)) w.ae 0 (-1)
  ·have bO:=(VH.1 ho).1
   have hg:aA w.ae (i:Int)=ZA o:=by rw[aQ];exact ho
   have hi:aH ((i:Int)+1)=((i+1:Nat):Int):=bI bO YG;have ji:=oU h.fit h.ok ho;unfold eX;simp only[Yp (show(i:Int)<w.ae.length by omega),YC,hg,VE,hi,su,vh]
   by_cases xH:o.aN<o.aK.length
   ·obtain⟨t,htg,yU⟩:=JZ h.fit h.ok ho ji.aN.1 xH
    obtain⟨t1,t2,t3,t4,t5⟩:=cT h.fit.fv yt yU;have ht:o.aK[o.aN.toNat]?=ZA t:=by unfold aA at htg;rwa[if_pos ji.aN.1]at htg
    have ev:dW w.aa o=ZA (if o.state=2 then dm w.aa t else cE w.aa t):=by unfold dW;rw[ht];rfl
    rw[ev];simp only[htg,VE,t1,t2,Yp xH,tx]
    rcases ji.cases with⟨c1,_⟩ |⟨c1,_⟩ |⟨c1,c2,_⟩
    ·rw[c1]
     simp only[show ZE ((1:Int)=2)=ZD from rfl,show ZE ((1:Int)=1)=ZC from rfl,YC,YD,Yp t3,show ¬((1:Int)=2)by omega,if_false,bm]
     by_cases ha:a<0
     ·simp[ha]
     ·by_cases hb:cE w.aa t<a<;>simp[ha,hb]
    ·rw[c1]
     simp only[show ZE ((2:Int)=2)=ZC from rfl,YC,Yp (show 0<=dm w.aa t by omega),if_true,bm]
     by_cases ha:a<0
     ·simp[ha]
     ·by_cases hb:dm w.aa t<a<;>simp[ha,hb]
    ·omega
   ·have Ev:=ji.aN.2
    have ev:dW w.aa o=none:=by unfold dW;rw[Wz YG];rfl
    rw[ev,Yz xH]
    rcases ji.cases with⟨c1,_⟩ |⟨c1,_⟩ |⟨c1,c2,_⟩
    ·rw[c1];rfl
    ·omega
    ·rw[c1];rfl
  ·unfold eX
   simp
 unfold gn;rw[e1];rfl
theorem Zig(h:tC w):nw w=ZA (fE w):=by
 have h1:=Zie h.fit h.ok;rw[Nl h]at h1
 unfold nw;rw[tY h.fit,h.ok];simp only[VE,VK,YD];exact h1.symm
theorem CD{n c:Nat}(h:n<=1048576)(hc:c<=1024):dg (bB (0+n) c)=ZA ():=eK YG hc
theorem ZoJ{n c:Nat}(h:n<=1048576)(hc:c<=1024):dg (bB n c)=ZA ():=by have:=CD h hc;rwa[VY]at this
theorem Za5{n:ak}(h:cR n):jt n=ZA n:=by
 unfold jt;simp only[VO,CD h.aB (show 64<=1024 by omega),CD h.off (show 8<=1024 by omega),VE,Wu]
theorem wR{l:List aw}(h:l.length<=1048576):eR l=ZA l:=by
 unfold eR;simp only[VO,CD h (show 16<=1024 by omega),VE,Wu]
theorem Sy{l:List aj}(h:l.length<=1048576):fH l=ZA l:=by
 unfold fH;simp only[VO,CD h (show 32<=1024 by omega),VE,Wu]
theorem yG{xs:List α}{i:Nat}{x:α}(h:xs[i]?=ZA x):xs.take i++[x]=xs.take (i+1):=by
 rw[List.take_add_one,h];rfl
theorem CF(h:wH w):dC w=ZA w:=by
 have hor:=h.ae;unfold dC;rw[Za5 h.fv,VE,Sy h.aq,VE,wR h.ah,VE];have e:aD (fA w w.aa w.aq w.ah) NN (0,[])=ZA w.ae:=by
  have:=oz (body:=fA w w.aa w.aq w.ah) (λi:Nat=>((i:Int),w.ae.take i)) (n:=w.ae.length) (o:=w.ae) (λi hi=>?_) ?_ NN YI
  ·simpa using this
  ·have ho:w.ae[i]?=ZA w.ae[i]:=VF hi
   have hg:aA w.ae (i:Int)=ZA w.ae[i]:=by rw[aQ];exact ho
   have hw:aH ((i:Int)+1)=((i+1:Nat):Int):=bI hi YG;have hl:(w.ae.take i).length+1<=1048576:=by rw[V3];omega
   unfold fA;simp only[Yp (show(i:Int)<w.ae.length by omega),YC,hg,VE,wR (h.aK _ (Wd hi)),vD,VL,VO,VY,eK hl (show 128<=1024 by omega),hw]
   rw[<-yG ho]
  ·unfold fA
   simp
 simp only[VO,CD h.aJ (show 56<=1024 by omega),CD h.skip (show 8<=1024 by omega),VE,e,Wu]
theorem BV{l:List Int}(h:l.length<=1048576):dN l=ZA l:=by
 unfold dN;simp only[VO,CD h (show 8<=1024 by omega),VE,Wu]
theorem tF{l:List aj}(h:l.length<=1048576):ki l=ZA l:=by
 unfold ki;simp only[VO,CD h (show 32<=1024 by omega),VE,Wu]
theorem CG(h:wH w):eV w=ZA w:=by
 have hor:=h.ae;unfold eV;have e:aD (il w w.aa.off) NN (0,([]:List ay))=ZA w.ae:=by
  have:=oz (body:=il w w.aa.off) (λi:Nat=>((i:Int),w.ae.take i)) (n:=w.ae.length) (o:=w.ae) (λi hi=>?_) ?_ NN YI
  ·simpa using this
  ·have ho:w.ae[i]?=ZA w.ae[i]:=VF hi
   have hg:aA w.ae (i:Int)=ZA w.ae[i]:=by rw[aQ];exact ho
   have hw:aH ((i:Int)+1)=((i+1:Nat):Int):=bI hi YG;have hl:(w.ae.take i).length+1<=1048576:=by rw[V3];omega
   unfold il;simp only[Yp (show(i:Int)<w.ae.length by omega),YC,hg,VE,ZoJ (h.aK _ (Wd hi)) (show 16<=1024 by omega),vD,VL,VO,VY,eK hl (show 128<=1024 by omega),hw,Wu]
   rw[<-yG ho]
  ·unfold il
   simp
 simp only[VO,CD h.fv.aB (show 64<=1024 by omega),BV h.fv.off,BV h.skip,CD h.ah (show 16<=1024 by omega),CD h.aJ (show 56<=1024 by omega),VE,e,tF h.aq,Wu]
abbrev OwA:=Int×Int×Int×(List bM)×(List Int)×(List ay)×(List aj)×(List aw)×(List bc)×(List Int)
def owA(w:az):OwA:=(w.aa.change,w.now,w.aT,w.aa.aB,w.aa.off,w.ae,w.aq,w.ah,w.aJ,w.skip)
theorem tC.pass(h:tC w):KG w:=by
 have hp:=h.parts;refine⟨h.fit.fv,h.fv,⟨rfl,⟨h.fit.skip,hp.2.2.2.1,YG⟩,h.fit.ae⟩,λo ho=>?_⟩
 obtain⟨i,hi,rfl⟩:=V2 ho;have ji:=oU h.fit h.ok (VF hi);refine⟨ji.aN,h.fit.aK _ ho,ji.aV,λhs=>?_⟩
 rcases ji.cases with⟨c,_⟩ |⟨_,c⟩ |⟨c,_⟩
 ·omega
 ·exact c
 ·omega
theorem DN(h:fE w<0\/u<fE w):wK k w u=w:=by
 cases k with
 |zero=>rfl
 |succ k=>unfold wK;rw[if_pos h]
theorem Zgf(h:tC w)(hk:qj w<=k)(hu:u<=100000)(hc:¬(fE w<0\/u<fE w)):wK k w u=wK (k-1) (fK w (fE w)) u:=by
 have:=uz h YG
 cases k with
 |zero=>omega
 |succ k=>
  rw[Xp]
  conv=>lhs;unfold wK;rw[if_neg hc]
theorem Hu{u:Int}(hu:u<=100000):∀(N k:Nat) (w:az),tC w->qj w<=k->k<N->aD (j5 u) N (fE w,owA w)=ZA (owA (wK k w u))
 |0,k,w,_,_,hN=>YG
 |N+1,k,w,h,hk,hN=>by
  simp only[aD];unfold j5;simp only[owA]
  by_cases h0:0<=fE w
  ·by_cases h1:fE w<=u
   ·obtain⟨a,b,c⟩:=wU h h0
    have ht:=uz h h0;have hb:=(Fp h.pass (fE w)).1;have hw:(⟨⟨w.aa.aB,w.aa.off,w.aa.change⟩,w.ae,w.aq,w.ah,w.now,w.aJ,w.skip,w.aT⟩:az)=w:=rfl;rw[Zgf h hk hu YG];simp only[Yp h0,Yp h1,YC,nG,VE,hw,hb,Nl a];exact Hu hu N (k-1) _ a YG YG
   ·rw[DN (.inr YG)]
    simp only[Yp h0,Yz h1,YC,YD];rfl
  ·rw[DN (.inl YG)]
   simp only[Yz h0,YD];rfl
theorem ZaT(hf:wH w)(u:Int):jO w u=ZA (if gf w=ZC/\w.now<=u/\u<=100000 then Ov w u else w):=by
 unfold jO;rw[CF hf,VE,vR hf,VE,iu,dG,VE]
 cases hv:gf w with
 |false=>simp
 |true=>
  have h:tC w:=⟨hf,hv⟩
  by_cases h1:w.now<=u
  ·by_cases h2:u<=100000
   ·have e:(fE w,w.aa.change,w.now,w.aT,w.aa.aB,w.aa.off,w.ae,w.aq,w.ah,w.aJ,w.skip)=(fE w,owA w):=rfl
    have hp:=h.parts;have hN:qj w<NN:=by
     have:∀l:List ay,(∀o∈l,o.aK.length<=1048576)->(l.map jg).sum<=2097152*l.length:=by
      intro l
      induction l with
      |nil=>intro _;simp
      |cons o l ih=>
       intro hl;have:=ih λx hx=>hl x (V5 _ hx)
       have h2:=hl o Wc;have h3:jg o<=2*o.aK.length:=by unfold jg;omega
       simp only[Wh,WB,VL];omega
     have:=this w.ae hf.aK;have h3:=hp.2.1;unfold qj NN;omega
    simp only[VK,YD,Yp h1,Yp h2,Xj,Nl h,VE,h1,h2,and_self,if_true,e,Hu h2 NN (qj w) w h (VJ _) hN];rfl
   ·simp[h1,h2]
  ·simp[h1]
theorem ZaI(h:tC w):qj w<=240:=by
 have hp:=h.parts;have hv:=h.ok;unfold gf at hv
 simp only[VN,YE]at hv
 have ht:=hv.2;have key:∀(l:List ay) (a:Int),(∀o∈l,o.aK.length<=1048576)->l.length<=30->0<=a->a<=1048576*(30-l.length:Nat)->l.foldl (λa o=>aH (a+(o.aK.length:Int))) a=a+((l.map λo=>o.aK.length).sum:Nat):=by
  intro l
  induction l with
  |nil=>intro a _ _ _ _;simp
  |cons o l ih=>
   intro a hl hn h0 h1;have h2:=hl o Wc;simp only[VL]at hn h1
   have hw:aH (a+(o.aK.length:Int))=a+(o.aK.length:Int):=aL YG;simp only[Wj,hw];rw[ih _ (λx hx=>hl x (V5 _ hx)) YG YG YG]
   simp only[Wh,WB];omega
 have hs:=key w.ae 0 h.fit.aK hp.2.1 YG YG;unfold E6 at ht
 rw[hs]at ht
 have h2:qj w<=2*((w.ae.map λo=>o.aK.length).sum):=by
  unfold qj;have:∀l:List ay,(l.map jg).sum<=2*(l.map λo=>o.aK.length).sum:=by
   intro l
   induction l with
   |nil=>simp
   |cons o l ih=>
    have:jg o<=2*o.aK.length:=by unfold jg;omega
    simp only[Wh,WB];omega
  exact this _
 omega
theorem Hv{u:Int}(hu:u<=100000):∀(N k j:Nat) (w:az),tC w->qj w<=k->j+k=240->k<N->aD (lD u) N ((j:Int),owA w)=ZA (owA (wK k w u))
 |0,k,j,w,_,_,_,hN=>YG
 |N+1,k,j,w,h,hk,hj,hN=>by
  simp only[aD];unfold lD;simp only[owA];have hw:(⟨⟨w.aa.aB,w.aa.off,w.aa.change⟩,w.ae,w.aq,w.ah,w.now,w.aJ,w.skip,w.aT⟩:az)=w:=rfl
  by_cases hj2:j<240
  ·simp only[Yp (show(j:Int)<240 by omega),YC,hw,Zig h,VE]
   by_cases h0:fE w<0
   ·rw[DN (.inl h0)]
    simp only[Yp h0,YC];rfl
   ·by_cases h1:u<fE w
    ·rw[DN (.inr h1)]
     simp only[Yz h0,Yp h1,YC,YD];rfl
    ·obtain⟨a,b,c⟩:=wU h YG
     have ht:=uz h YG;have hb:=(Fp h.pass (fE w)).2;have Df:aH ((j:Int)+1)=((j+1:Nat):Int):=by rw[aL YG];omega
     rw[Zgf h hk hu YG];simp only[Yz h0,Yz h1,YD,nG,VE,hb,Df];exact Hv hu N (k-1) (j+1) _ a YG YG YG
  ·have GU:k=0:=YG
   subst GU;simp only[Yz (show ¬(j:Int)<240 by omega),YD]
   rfl
theorem ZaU(hf:wH w)(u:Int):fp w u=ZA (if gf w=ZC/\w.now<=u/\u<=100000 then Ov w u else w):=by
 unfold fp;rw[CG hf,VE,tY hf,VE,dG,VE]
 cases hv:gf w with
 |false=>simp
 |true=>
  have h:tC w:=⟨hf,hv⟩
  by_cases h1:w.now<=u
  ·by_cases h2:u<=100000
   ·have e:((0:Int),w.aa.change,w.now,w.aT,w.aa.aB,w.aa.off,w.ae,w.aq,w.ah,w.aJ,w.skip)=(((0:Nat):Int),owA w):=rfl
    simp only[VK,YD,Yp h1,Yp h2,Xj,h1,h2,and_self,if_true,e,Hv h2 NN 240 0 w h (ZaI h) rfl YI,VE];rw[ZiX h (ZaI h) (VJ _) h2];rfl
   ·simp[h1,h2]
  ·simp[h1]
def cM(x:aU):Ln:=⟨x.order,x.kind,x.bh,x.aO⟩
theorem rG(n:Int):aH n=wrap64 n:=IntWalk.i64_left n
theorem Zag(c x:Int):IntKind.i64.wrap ((aH (c*x)).tdiv 100)=ZfK c x:=by unfold ZfK;rw[<-rG,<-rG]
theorem zv(x:aU):mo x=ZA (uE x.order x.kind x.bh x.aO):=by
 unfold mo uE zu;simp only[wo]
 grind
theorem Dk(x:aU):o9 x=ZA (uE x.order x.kind x.bh x.aO):=by
 rw[<-zv];rfl
theorem Zeo(f:Int->Ln->Int)(l:List aU)(a:Int):l.foldl (λa x=>f a (cM x)) a=(l.map cM).foldl f a:=by rw[List.foldl_map]
theorem I4{l:List aU}{body:Int×Int->Option ((Int×Int)⊕Int)}(f:Int->Ln->Int)(hl:l.length<=1048576)
 (h1:∀a (i:Nat) x,l[i]?=ZA x->body (a,(i:Int))=ZA (.inl (f a (cM x),aH ((i:Int)+1)))) (h2:∀a,body (a,(l.length:Int))=ZA (.inr a)):aD body NN (0,0)=ZA ((l.map cM).foldl f 0):=by
 refine(so (fun(a:Int) (i:Int)=>(a,i)) (λ_ a x=>ZA (.inl (f a (cM x)))) ZA (λa i x hx=>?_) (λa=>by rw[h2];rfl) YI 0).trans ?_
 ·rw[h1 a i x hx,bI (VH.1 hx).1 YG];rfl
 ·rw[EX,Zeo]
section
variable {l:List aU} (hl:l.length<=1048576)
include hl
theorem LQ(o k:Int):dQ l o k=ZA (eI (l.map cM) o k):=by
 unfold dQ eI;rw[I4 (rR o k) hl (λa i x hx=>?_) λa=>by unfold rK;simp]
 ·rfl
 ·have hg:aA l (i:Int)=ZA x:=by rw[aQ];omega
  unfold rK;simp only[nH,rR,cM,rG]
  grind
theorem LU(o k:Int):eD l o k=ZA (eI (l.map cM) o k):=by
 unfold eD eI;rw[I4 (rR o k) hl (λa i x hx=>?_) λa=>by unfold rM;simp]
 ·rfl
 ·have hg:aA l (i:Int)=ZA x:=by rw[aQ];omega
  unfold rM;simp only[nH,rR,cM,rG]
  grind
theorem U5(o k:Int):lQ l o k=ZA (CE (l.map cM) o k):=by
 unfold lQ CE;rw[I4 (vg o k) hl (λa i x hx=>?_) λa=>by unfold nX;simp]
 ·rfl
 ·have hg:aA l (i:Int)=ZA x:=by rw[aQ];omega
  unfold nX;simp only[nH,vg,cM,rG]
  grind
theorem Dr:bL l=ZA l:=by unfold bL;rw[eK YN YG];rfl
theorem Ds:bX l=ZA l:=by unfold bX;rw[eK YN YG];rfl
end
theorem Zk5{l:List aU}{i:Nat}{x:aU}(hx:l[i]?=ZA x):(l.map cM).getD i default=cM x:=by grind
theorem Vt(l:List aU)(i:Nat):(l.take i).map cM=(l.map cM).take i:=List.map_take
theorem ZbY{l:List aU}{i:Nat}{x:aU}(hx:l[i]?=ZA x):yv (l.map cM) i=(!Cz (l.map cM) i (cM x)&&zo ((l.map cM).take i) (cM x)):=by
 unfold yv;grind
theorem Sr{l:List aU}{i:Nat}{x:aU}:Cz (l.map cM) i (cM x)=(!uE x.order x.kind x.bh x.aO ||ZE (0<i)&&ZE (x.aO<((l.map cM).getD (i-1) default).t)):=rfl
theorem ZjA{x:aU}(h:uE x.order x.kind x.bh x.aO=ZC):x.kind=1\/x.kind=2\/x.kind=3:=ZhY (x:=cM x) h
theorem G9{l:List aU}{i:Nat}(hi:i<l.length)(hl:l.length<=200)(t:Int):(cond (ZE (0<(i:Int))) ((aA l (aH ((i:Int)-1))).bind λy=>cond (ZE (t<y.aO)) (ZA (.inr ZD)) (ZA (.inl ()))) (ZA (.inl ())):Option (Unit⊕Bool))=
 ZA (if(ZE (0<i)&&ZE (t<((l.map cM).getD (i-1) default).t))=ZC then .inr ZD else .inl ()):=by
 cases i with
 |zero=>rfl
 |succ m=>
  have hm:l[m]?=ZA l[m]:=VF YG;have hw:aH (((m+1:Nat):Int)-1)=(m:Int):=by rw[aL YG];omega
  rw[Yp (show(0:Int)<((m+1:Nat):Int)by omega),hw,aQ,hm,Yp (show 0<m+1 by omega),Xp,Zk5 hm]
  show cond (ZE (t<l[m].aO)) _ _=ZA (if ZE (t<l[m].aO)=ZC then _ else _)
  grind
theorem I7{l:List aU}{body:Int->Option (Int⊕(Unit⊕Bool))}(hl:l.length<=200)
 (h1:∀(i:Nat) x,l[i]?=ZA x->(∀j,j<i->yv (l.map cM) j=ZC)->uE x.order x.kind x.bh x.aO=ZC->(ZE (0<i)&&ZE (x.aO<((l.map cM).getD (i-1) default).t))=ZD->body (i:Int)=ZA (if zo ((l.map cM).take i) (cM x)=ZC then .inl ((i+1:Nat):Int)else .inr (.inr ZD)))
 (h0:∀(i:Nat) x,l[i]?=ZA x->Cz (l.map cM) i (cM x)=ZC->body (i:Int)=ZA (.inr (.inr ZD)))
 (h2:body (l.length:Int)=ZA (.inr (.inl ()))):(aD body NN 0).bind (bm (λ_=>ZA ZC) (λr=>ZA r))=ZA (gE (l.map cM)):=by
 unfold gE;rw[VX,Yp hl,pJ (c:=yv (l.map cM)) (n:=l.length) (r:=.inr ZD) (e:=.inl ()) (λi hi hj=>?_) (λ_=>h2) YI]
 ·unfold Cv
  grind
 ·obtain⟨x,hx⟩:∃x,l[i]?=ZA x:=⟨_,VF hi⟩
  rw[ZbY hx]
  cases hb:Cz (l.map cM) i (cM x)with
  |true=>grind
  |false=>
   have GQ:=hb;rw[Sr,Bool.or_eq_false_iff]at GQ
   simp_all
section
variable {l:List aU} (h:l.length<=200) {i:Nat} {x:aU} (hx:l[i]?=ZA x)
include h hx
theorem Dt:i<l.length/\aA l (i:Int)=ZA x/\dg (iC 0 (i:Int) l.length)=ZA ()/\(l.take i).length<=1048576/\ZE ((i:Int)<l.length)=ZC/\aH ((i:Int)+1)=((i+1:Nat):Int):=by
 have hi:=(VH.1 hx).1;exact⟨hi,by rw[aQ];omega,pD (Yp ⟨YG,YG,YG⟩),by grind,Yp YG,bI hi YG⟩
theorem Zml(hb:Cz (l.map cM) i (cM x)=ZC):fY l (i:Int)=ZA (.inr (.inr ZD)):=by
 obtain⟨hi,hg,hs,bO,hd,hw⟩:=Dt h hx;rw[Sr]at hb
 unfold fY;simp only[hd,YC,nH,hg,VE,zv,G9 hi h]
 grind
theorem Zmm(hb:Cz (l.map cM) i (cM x)=ZC):ga l (i:Int)=ZA (.inr (.inr ZD)):=by
 obtain⟨hi,hg,hs,bO,hd,hw⟩:=Dt h hx;rw[Sr]at hb
 unfold ga;simp only[hd,YC,nH,hg,VE,Dk,G9 hi h]
 grind
theorem Zko(hl:uE x.order x.kind x.bh x.aO=ZC)(hb:(ZE (0<i)&&ZE (x.aO<((l.map cM).getD (i-1) default).t))=ZD):
 fY l (i:Int)=ZA (if zo ((l.map cM).take i) (cM x)=ZC then .inl ((i+1:Nat):Int)else .inr (.inr ZD)):=by
 obtain⟨hi,hg,hs,bO,hd,hw⟩:=Dt h hx;unfold fY;simp only[hd,YC,nH,hg,VE,zv,hl,VK,YD,G9 hi h,hb,hs,AL,LQ bO,Vt,hw,bm,WU,if_false]
 rcases ZjA hl with hk|hk|hk
 ·rw[ZmL (x:=cM x) hk]
  simp only[cM]
  grind
 ·rw[ZmM (x:=cM x) hk]
  simp only[cM,rG]
  grind
 ·rw[ZmN (x:=cM x) hk]
  simp only[cM]
  grind
theorem Zkp(hj:∀j,j<i->yv (l.map cM) j=ZC)(hl:uE x.order x.kind x.bh x.aO=ZC)(hb:(ZE (0<i)&&ZE (x.aO<((l.map cM).getD (i-1) default).t))=ZD):
 ga l (i:Int)=ZA (if zo ((l.map cM).take i) (cM x)=ZC then .inl ((i+1:Nat):Int)else .inr (.inr ZD)):=by
 obtain⟨hi,hg,hs,bO,hd,hw⟩:=Dt h hx;have hc:=UY (xs:=l.map cM) (i:=i) x.order 3 (Ea.2 hj) YG;unfold ga;simp only[hd,YC,nH,hg,VE,Dk,hl,VK,YD,G9 hi h,hb,hs,AL,LU bO,U5 bO,Vt,hw,bm,WU,if_false,hc]
 rcases ZjA hl with hk|hk|hk
 ·rw[ZmL (x:=cM x) hk]
  simp only[hk,cM]
  grind
 ·rw[ZmM (x:=cM x) hk]
  simp only[hk,cM,rG]
  grind
 ·rw[ZmN (x:=cM x) hk]
  simp only[hk,cM,beq_iff_eq]
  grind
end
theorem Az(l:List aU):dS l=ZA (gE (l.map cM)):=by
 unfold dS
 by_cases h:l.length<=200
 ·rw[Yz (show ¬(200:Int)<l.length by omega)]
  exact I7 h (λi x hx _ hl hb=>Zko h hx hl hb) (λi x hx hb=>Zml h hx hb) (by unfold fY;simp)
 ·rw[Yp (show(200:Int)<l.length by omega),YC,FB YN]
theorem AA(l:List aU):dU l=ZA (gE (l.map cM)):=by
 unfold dU
 by_cases h:l.length<=200
 ·rw[Yz (show ¬(200:Int)<l.length by omega)]
  exact I7 h (λi x hx hj hl hb=>Zkp h hx hj hl hb) (λi x hx hb=>Zmm h hx hb) (by unfold ga;simp)
 ·rw[Yp (show(200:Int)<l.length by omega),YC,FB YN]
/-! Zmf. -/
theorem Ly{l:List Int}(hl:l.length<=1048576){i:Nat}{x:Int}(hx:l[i]?=ZA x):(cond (!(ZE (0<=x)&&ZE (x<=100))) (ZA (.inr ZD)) (cond (ZE (0<(i:Int))) ((aA l (aH ((i:Int)-1))).bind λy=>cond (ZE (x<y)) (ZA (.inr ZD)) (ZA (.inl ()))) (ZA (.inl ()))):Option (Unit⊕Bool))=
 ZA (if vZ l i=ZC then .inl ()else .inr ZD):=by
 have As:(ZE (0<=x)&&ZE (x<=100))=zu x 0 100:=rfl;rw[As]
 cases h:zu x 0 100 with
 |false=>rw[Zcr hx h];rfl
 |true=>
  cases i with
  |zero=>rw[TL (VJ 0) hx h];rfl
  |succ m=>
   have bO:=(VH.1 hx).1;have hm:l[m]?=ZA l[m]:=VF YG;have hw:aH (((m+1:Nat):Int)-1)=(m:Int):=by rw[aL YG];omega
   rw[hw,aQ]
   by_cases hy:x<l[m]
   ·rw[TJ hm hx hy];grind
   ·rw[ZfJ hm hx h hy];grind
theorem TM{l:List Int}(hl:l.length<=1048576):eu l=ZA (td l):=by
 unfold eu td;rw[pJ (c:=vZ l) (n:=l.length) (r:=.inr ZD) (e:=.inl ()) (λi hi _=>?_) (λ_=>by unfold lC;simp) YI]
 ·unfold Cv
  cases(Wq l.length).all (vZ l)
  ·rfl
  ·rw[wo];rfl
 ·have hx:l[i]?=ZA l[i]:=VF hi
  unfold lC;simp only[nH,aQ,hx,VE,wo,Ly hl hx,bI hi YG]
  grind
theorem TN{l:List Int}(hl:l.length<=1048576):eB l=ZA (td l):=by
 unfold eB td;rw[pJ (c:=vZ l) (n:=l.length) (r:=.inr ZD) (e:=.inl ()) (λi hi _=>?_) (λ_=>by unfold lE;simp) YI]
 ·unfold Cv
  cases(Wq l.length).all (vZ l)
  ·rfl
  ·rw[dG];rfl
 ·have hx:l[i]?=ZA l[i]:=VF hi
  unfold lE;simp only[nH,aQ,hx,VE,dG,Ly hl hx,bI hi YG]
  grind
/-! Zrf,Zp3,Zoe,ZrF,given back. -/
def yN(l:List aU)(x:aU):List aU×Int:=if 200<=l.length then(l,5)else if gE ((l++[x]).map cM)=ZC then(l++[x],0)else(l,1)
def wP(l:List aU)(o a t:Int):List aU×Int:=
 if gE (l.map cM)=ZD then(l,1)else if uE o 1 a t=ZD then(l,1)else if ZE (0<eI (l.map cM) o 1)=ZC then(l,2)else yN l ⟨o,1,a,t⟩
def QJ(l:List aU)(o a t:Int):List aU×Int:=
 if gE (l.map cM)=ZD then(l,1)else if uE o 2 a t=ZD then(l,1)else if ZE (eI (l.map cM) o 1=0)=ZC then(l,3)else if ZE (Jm (l.map cM) o<a)=ZC then(l,4)else yN l ⟨o,2,a,t⟩
def xd(l:List aU)(o du en:Int)(ps:List Int)(t:Int):List aU×Int:=
 if gE (l.map cM)=ZD then(l,1)else if td ps=ZD then(l,1)else if zu o 1 9999=ZD then(l,1)else if zu t 0 100000=ZD then(l,1)
 else if ZE (eI (l.map cM) o 1=0)=ZC then(l,3)else if ZE (0<Jm (l.map cM) o)=ZC then(l,3)else if ZE (0<eI (l.map cM) o 3)=ZC then(l,2)
 else if ZE (yw (eI (l.map cM) o 1) du en ps=0)=ZC then(l,4)else yN l ⟨o,3,yw (eI (l.map cM) o 1) du en ps,t⟩
section
variable {l:List aU} (hl:l.length<=1048576)
include hl
theorem ZfG(o:Int):mR l o=ZA (Jm (l.map cM) o):=by
 unfold mR Jm;simp only[Az,LQ hl,rG]
 grind
theorem ZfH(o:Int):nz l o=ZA (Jm (l.map cM) o):=by
 unfold nz Jm;simp only[AA,LU hl,rG]
 grind
theorem T9(x:aU):kM l x=ZA (yN l x):=by
 unfold kM yN;rw[Dr hl];simp
 by_cases h:200<=l.length
 ·grind
 ·rw[eK YN YG]
  simp only[Az]
  grind
theorem Ua(x:aU):ll l x=ZA (yN l x):=by
 unfold ll yN;rw[Ds hl];simp only[VE];rw[pD (b:=bB (l.length+([x]:List aU).length) 32) (by unfold bB;grind)]
 by_cases h:200<=l.length
 ·grind
 ·simp only[AA]
  grind
theorem ZdF(o a t:Int):kH l o a t=ZA (wP l o a t):=by
 unfold kH wP;simp only[Az,zv,Dr hl,LQ hl,T9 hl]
 grind
theorem ZdG(o a t:Int):kZ l o a t=ZA (wP l o a t):=by
 unfold kZ wP;simp only[AA,Dk,Ds hl,LU hl,Ua hl]
 grind
theorem ZnN(o a t:Int):oB l o a t=ZA (QJ l o a t):=by
 unfold oB QJ;simp only[Az,zv,Dr hl,LQ hl,ZfG hl,T9 hl]
 grind
theorem ZnO(o a t:Int):oN l o a t=ZA (QJ l o a t):=by
 unfold oN QJ;simp only[AA,Dk,Ds hl,LU hl,ZfH hl,Ua hl]
 grind
end
theorem RC(h:0<=du/\du<=200000)(k:0<=en/\en<=200000)(he:¬en<=du):IntKind.i64.wrap (Int.tdiv (aH ((aH (en-du))-1)) 1440)=(en-du-1) / 1440:=by
 rw[show aH (aH (en-du)-1)=en-du-1 by rw[aL (n:=en-du) YG,aL YG],Int.tdiv_eq_ediv_of_nonneg YG]
 exact aL YG
theorem Zah{ps:List Int}(hp:td ps=ZC)(he:¬en<=du):aA ps ((tf du en ps:Nat):Int)=ZA (ps.getD (tf du en ps) 0):=by
 have:=QV hp he;rw[aQ,List.getD_eq_getElem?_getD,VF this];rfl
theorem QX{ps:List Int}(hp:ps.length<=1048576)(c du en:Int):mU c du en ps=ZA (yw c du en ps):=by
 unfold mU yw JA;simp only[TM hp,wo]
 cases h1:td ps
 ·rfl
 cases h2:zu c 0 100000
 ·simp only[zu]at h2;grind
 cases h3:zu du 0 200000
 ·simp only[zu]at h2 h3;grind
 cases h4:zu en 0 200000
 ·simp only[zu]at h2 h3 h4;grind
 by_cases h5:en<=du
 ·grind
 ·have hl:=Jq h1
  have e:=RC (uD h3) (uD h4) h5;have hi:(if(aH ((ps.length:Int)-1))<(en-du-1) / 1440 then(aH ((ps.length:Int)-1))else(en-du-1) / 1440)=((tf du en ps:Nat):Int):=by
   rw[aL YG];unfold tf
   grind
  simp only[zu]at h2 h3 h4
  simp only[h2,h3,h4,e,hi,Zah h1 h5,Yz h5,VE,VK,Wl,Bool.and_true,YD,if_true,Zag]
theorem QY{ps:List Int}(hp:ps.length<=1048576)(c du en:Int):ky c du en ps=ZA (yw c du en ps):=by
 unfold ky yw JA;simp only[TN hp,dG,nH]
 cases h1:td ps
 ·rfl
 cases h2:zu c 0 100000
 ·simp only[zu]at h2;grind
 cases h3:zu du 0 200000
 ·simp only[zu]at h2 h3;grind
 cases h4:zu en 0 200000
 ·simp only[zu]at h2 h3 h4;grind
 by_cases h5:en<=du
 ·grind
 ·have hl:=Jq h1
  have e:=RC (uD h3) (uD h4) h5;have hi:(cond (ZE ((ps.length:Int)<=(en-du-1) / 1440)) (ZA (.inl (aH ((ps.length:Int)-1)))) (ZA (.inl ((en-du-1) / 1440))):Option (Int⊕Empty))=ZA (.inl ((tf du en ps:Nat):Int)):=by
   rw[aL YG];unfold tf
   grind
  simp only[zu]at h2 h3 h4
  simp only[h2,h3,h4,e,hi,Zah h1 h5,Yz h5,VE,VK,Wl,Bool.and_true,YD,if_true,bm,Zag]
section
variable {l:List aU} (hl:l.length<=1048576) {ps:List Int} (hp:ps.length<=1048576)
include hl hp
theorem Zf3(o du en t:Int):kL l o du en ps t=ZA (xd l o du en ps t):=by
 unfold kL xd zu;simp only[Az,TM hp,wo,Dr hl,LQ hl,ZfG hl,QX hp,T9 hl,VE]
 grind
theorem Zf4(o du en t:Int):lj l o du en ps t=ZA (xd l o du en ps t):=by
 unfold lj xd zu;simp only[AA,TN hp,dG,Ds hl,LU hl,U5 hl,ZfH hl,QY hp,Ua hl,VE]
 cases hb:gE (l.map cM)
 ·rfl
 ·rw[ZdI o 3 hb]
  grind
end
def ld(o:ZI)(s0:Int):Option (Int⊕(Unit⊕Bool)):=
 cond (ZE (s0<(o.aG.length:Int)))
 ((pr o s0).bind λy6=>
 cond (!y6)
 (ZA (.inr (.inr ZD)))
 (ZA (.inl (aH (s0+1)))))
 (ZA (.inr (.inl ())))
instance (o:ZI):bj (ld o):=⟨λs0=>(.un::.be 0 0 0::.un::vi s0::(U 103 [])),λs0=>[ZA ⟨.of 40,16,[[.sl (o.world.aa.aB.map br),.sl (o.world.aa.off.map aI),vi o.world.aa.change,.sl (o.world.ae.map aY),.sl (o.world.aq.map aC),.sl (o.world.ah.map aS),vi o.world.now,.sl (o.world.aJ.map bt),.sl (o.world.skip.map aI),vi o.world.aT,.sl (o.aP.map b6),.sl (o.aR.map b9),.sl (o.aF.map aI),.sl (o.aG.map bq),.sl (o.lines.map bD),.sl (o.aE.map ZK)]]⟩]⟩
def lf(o:ZI)(s1:Int):Option (Int⊕(Unit⊕Bool)):=
 cond (ZE (s1<(o.lines.length:Int)))
 ((aA o.lines s1).bind λy7=>
 cond (ZE ((o.aG.length:Int)<y7.order))
 (ZA (.inr (.inr ZD)))
 ((aA o.lines s1).bind λy8=>
 cond (ZE (o.world.now<y8.aO))
 (ZA (.inr (.inr ZD)))
 (ZA (.inl (aH (s1+1))))))
 (ZA (.inr (.inl ())))
instance (o:ZI):bj (lf o):=⟨λs1=>(.un::.be 0 0 0::.un::.un::vi s1::(U 102 [])),λs1=>[ZA ⟨.of 40,16,[[.sl (o.world.aa.aB.map br),.sl (o.world.aa.off.map aI),vi o.world.aa.change,.sl (o.world.ae.map aY),.sl (o.world.aq.map aC),.sl (o.world.ah.map aS),vi o.world.now,.sl (o.world.aJ.map bt),.sl (o.world.skip.map aI),vi o.world.aT,.sl (o.aP.map b6),.sl (o.aR.map b9),.sl (o.aF.map aI),.sl (o.aG.map bq),.sl (o.lines.map bD),.sl (o.aE.map ZK)]]⟩]⟩
def lh(o:ZI)(s2:Int):Option (Int⊕(Unit⊕Bool)):=
 cond (ZE (s2<(o.aE.length:Int)))
 ((aA o.aE s2).bind λy9=>
 (nW y9).bind λeE=>
 cond (!eE)
 (ZA (.inr (.inr ZD)))
 (ZA (.inl (aH (s2+1)))))
 (ZA (.inr (.inl ())))
instance (o:ZI):bj (lh o):=⟨λs2=>(.un::.be 0 0 0::(U 3 (vi s2::(U 101 [])))),λs2=>[ZA ⟨.of 40,16,[[.sl (o.world.aa.aB.map br),.sl (o.world.aa.off.map aI),vi o.world.aa.change,.sl (o.world.ae.map aY),.sl (o.world.aq.map aC),.sl (o.world.ah.map aS),vi o.world.now,.sl (o.world.aJ.map bt),.sl (o.world.skip.map aI),vi o.world.aT,.sl (o.aP.map b6),.sl (o.aR.map b9),.sl (o.aF.map aI),.sl (o.aG.map bq),.sl (o.lines.map bD),.sl (o.aE.map ZK)]]⟩]⟩
def oM(o:ZI):Option Bool:=
 (fQ o.world).bind λy1=>
 cond (!y1)
 (ZA ZD)
 ((jI o.aP).bind λy2=>
 cond (!y2)
 (ZA ZD)
 ((lN o.aR (o.aP.length:Int)).bind λy3=>
 cond (!y3)
 (ZA ZD)
 ((eB o.aF).bind λy4=>
 cond (!y4)
 (ZA ZD)
 ((dU o.lines).bind λy5=>
 cond (!y5)
 (ZA ZD)
 (cond (!decide ((o.aG.length:Int)=(o.world.ae.length:Int)))
 (ZA ZD)
 (cond (ZE (150<(o.aE.length:Int)))
 (ZA ZD)
 ((aD (ld o) NN 0).bind (bm (λo0=>
 (aD (lf o) NN 0).bind (bm (λo1=>
 (aD (lh o) NN 0).bind (bm (λo2=>
 ZA ZC) (λr=>ZA r))) (λr=>ZA r))) (λr=>ZA r)))))))))
instance (o:ZI):CT prog (oM o):=⟨51,[.ag (ZM o)],[],λr=>vb r,λr=>[],cw (oM.eq_1 ..) func51 ntmps51 results51⟩
structure Zme(o:ZI):Prop where
 world:wH o.world
 aP:yb o.aP
 aR:o.aR.length<=1048576
 xV:o.aF.length<=1048576
 lines:o.lines.length<=1048576
 aG:o.aG.length<=1048576
 aE:o.aE.length<=1048576
 ZnP:∀p∈o.aG,p.label.aX.size<=AN/\p.ar.size<=AN/\p.bb.length<NN
 Zmi:∀a∈o.aE,a.av.label.aX.size<=AN/\a.av.ar.size<=AN/\a.av.bb.length<NN
def Il(o:ZI)(i:Nat)(p:aM)(v:Int×Bool)(x:Option ay):Bool:=match x with
 |some x=>v.2&&(ZE (x.ar=p.ar)&&(ZE (x.aX=p.label.aX)&&(ZE (x.ax=p.label.ax)&&(ZE (x.ab=p.ab)&&ZE (eI (o.lines.map cM) (((i+1:Nat):Int)) 1=v.1)))))
 |none=>ZD
theorem yi(o:ZI)(i:Nat)(p:aM)(v:Int×Bool)(x:ay):Il o i p v (ZA x)=(v.2&&(ZE (x.ar=p.ar)&&(ZE (x.aX=p.label.aX)&&(ZE (x.ax=p.label.ax)&&(ZE (x.ab=p.ab)&&ZE (eI (o.lines.map cM) (((i+1:Nat):Int)) 1=v.1)))))):=rfl
def mM(o:ZI)(i:Nat)(p:aM):Bool:=Il o i p ((gY o.aP o.aR p).getD (0,ZD)) o.world.ae[i]?
def wV(o:ZI)(_:Nat)(x:aU):Bool:=!decide ((o.aG.length:Int)<x.order)&&!decide (o.world.now<x.aO)
def Ht(_:Nat)(a:ZJ):Bool:=(nW a).getD ZD
def gC(o:ZI):Bool:=
 gf o.world&&(wF o.aP&&(xo o.aR (o.aP.length:Int)&&(td o.aF&&(gE (o.lines.map cM)&&(ZE ((o.aG.length:Int)=(o.world.ae.length:Int))&&(!decide (150<(o.aE.length:Int))&&(allI (mM o) 0 o.aG&&(allI (wV o) 0 o.lines&&allI Ht 0 o.aE))))))))
section
variable {o:ZI} (hf:Zme o)
include hf
theorem Qs(hl:o.aG.length=o.world.ae.length):aD (ld o) NN 0=ZA (if allI (mM o) 0 o.aG=ZC then .inl ()else .inr ZD):=by
 refine fy (A:=Unit) (λ_ i=>i) _ (λa _=>a) (λ_=>()) (λa i p hp=>?_) (λa=>?_) (by have:=hf.aG;unfold NN;omega) ()
 ·have bO:=(VH.1 hp).1
  have IV:=hf.aG;have hg:aA o.aG (i:Int)=ZA p:=by rw[aQ];exact hp
  obtain⟨x,hx⟩:∃x,o.world.ae[i]?=ZA x:=⟨_,VF YG⟩;have hgx:aA o.world.ae (i:Int)=ZA x:=by rw[aQ];exact hx
  have hi:aH ((i:Int)+1)=((i+1:Nat):Int):=bI bO YG;obtain⟨p1,p2,p3⟩:=hf.ZnP p (VI hp);obtain⟨_,v,hv⟩:=Jw hf.aP hf.aR p1 p2 p3;have ZkQ:eD o.lines ((i+1:Nat):Int) 1=ZA (eI (o.lines.map cM) (((i+1:Nat):Int)) 1):=LU hf.lines _ _;unfold ld pr mM;simp only[nH,Yp (show(i:Int)<o.aG.length by omega),YC,hg,hgx,hx,VE,hi,hv,ZkQ,Ww,yi]
  cases v.2<;>cases ZE (x.ar=p.ar)<;>cases ZE (x.aX=p.label.aX)<;>cases ZE (x.ax=p.label.ax)<;>cases ZE (x.ab=p.ab)<;>cases ZE (eI (o.lines.map cM) (((i+1:Nat):Int)) 1=v.1)<;>rfl
 ·unfold ld
  simp
theorem Qr(hl:o.aG.length=o.world.ae.length):aD (kI o) NN 0=ZA (if allI (mM o) 0 o.aG=ZC then .inl ()else .inr ZD):=by
 refine fy (A:=Unit) (λ_ i=>i) _ (λa _=>a) (λ_=>()) (λa i p hp=>?_) (λa=>?_) (by have:=hf.aG;unfold NN;omega) ()
 ·have bO:=(VH.1 hp).1
  have IV:=hf.aG;have hg:aA o.aG (i:Int)=ZA p:=by rw[aQ];exact hp
  obtain⟨x,hx⟩:∃x,o.world.ae[i]?=ZA x:=⟨_,VF YG⟩;have hgx:aA o.world.ae (i:Int)=ZA x:=by rw[aQ];exact hx
  have hi:aH ((i:Int)+1)=((i+1:Nat):Int):=bI bO YG;obtain⟨p1,p2,p3⟩:=hf.ZnP p (VI hp);obtain⟨e,v,hv⟩:=Jw hf.aP hf.aR p1 p2 p3;have ZkQ:dQ o.lines ((i+1:Nat):Int) 1=ZA (eI (o.lines.map cM) (((i+1:Nat):Int)) 1):=LQ hf.lines _ _;unfold kI mM;simp only[nH,Yp (show(i:Int)<o.aG.length by omega),YC,hg,hgx,hx,VE,hi,e,hv,ZkQ,Ww,yi]
  cases v.2<;>cases ZE (x.ar=p.ar)<;>cases ZE (x.aX=p.label.aX)<;>cases ZE (x.ax=p.label.ax)<;>cases ZE (x.ab=p.ab)<;>cases ZE (eI (o.lines.map cM) (((i+1:Nat):Int)) 1=v.1)<;>rfl
 ·unfold kI
  simp
theorem Qu:aD (lf o) NN 0=ZA (if allI (wV o) 0 o.lines=ZC then .inl ()else .inr ZD):=by
 refine fy (A:=Unit) (λ_ i=>i) _ (λa _=>a) (λ_=>()) (λa i p hp=>?_) (λa=>?_) (by have:=hf.lines;unfold NN;omega) ()
 ·have bO:=(VH.1 hp).1
  have IV:=hf.lines;have hg:aA o.lines (i:Int)=ZA p:=by rw[aQ];exact hp
  have hi:aH ((i:Int)+1)=((i+1:Nat):Int):=bI bO YG;unfold lf wV;simp only[nH,Yp (show(i:Int)<o.lines.length by omega),YC,hg,VE,hi]
  cases ZE ((o.aG.length:Int)<p.order)<;>cases ZE (o.world.now<p.aO)<;>rfl
 ·unfold lf
  simp
theorem Qt(hl:o.aG.length=o.world.ae.length):aD (kJ o) NN 0=ZA (if allI (wV o) 0 o.lines=ZC then .inl ()else .inr ZD):=by
 refine fy (A:=Unit) (λ_ i=>i) _ (λa _=>a) (λ_=>()) (λa i p hp=>?_) (λa=>?_) (by have:=hf.lines;unfold NN;omega) ()
 ·have bO:=(VH.1 hp).1
  have IV:=hf.lines;have hg:aA o.lines (i:Int)=ZA p:=by rw[aQ];exact hp
  have hi:aH ((i:Int)+1)=((i+1:Nat):Int):=bI bO YG;unfold kJ wV;rw[hl];simp only[nH,Yp (show(i:Int)<o.lines.length by omega),YC,hg,VE,hi]
  cases ZE ((o.world.ae.length:Int)<p.order)<;>cases ZE (o.world.now<p.aO)<;>rfl
 ·unfold kJ
  simp
theorem Qw:aD (lh o) NN 0=ZA (if allI Ht 0 o.aE=ZC then .inl ()else .inr ZD):=by
 refine fy (A:=Unit) (λ_ i=>i) _ (λa _=>a) (λ_=>()) (λa i p hp=>?_) (λa=>?_) (by have:=hf.aE;unfold NN;omega) ()
 ·have bO:=(VH.1 hp).1
  have IV:=hf.aE;have hg:aA o.aE (i:Int)=ZA p:=by rw[aQ];exact hp
  have hi:aH ((i:Int)+1)=((i+1:Nat):Int):=bI bO YG;obtain⟨p1,p2,p3⟩:=hf.Zmi p (VI hp);obtain⟨b,_,hb⟩:=Mb p1 p2 p3;unfold lh Ht;simp only[nH,Yp (show(i:Int)<o.aE.length by omega),YC,hg,VE,hi,hb,Ww]
  cases b<;>rfl
 ·unfold lh
  simp
theorem Qv:aD (kK o) NN 0=ZA (if allI Ht 0 o.aE=ZC then .inl ()else .inr ZD):=by
 refine fy (A:=Unit) (λ_ i=>i) _ (λa _=>a) (λ_=>()) (λa i p hp=>?_) (λa=>?_) (by have:=hf.aE;unfold NN;omega) ()
 ·have bO:=(VH.1 hp).1
  have IV:=hf.aE;have hg:aA o.aE (i:Int)=ZA p:=by rw[aQ];exact hp
  have hi:aH ((i:Int)+1)=((i+1:Nat):Int):=bI bO YG;obtain⟨p1,p2,p3⟩:=hf.Zmi p (VI hp);obtain⟨b,uQ,hb⟩:=Mb p1 p2 p3;unfold kK Ht;simp only[nH,Yp (show(i:Int)<o.aE.length by omega),YC,hg,VE,hi,uQ,hb,Ww]
  cases b<;>rfl
 ·unfold kK
  simp
theorem Rp:oM o=ZA (gC o):=by
 have hp:eB o.aF=ZA (td o.aF):=TN hf.xV;have hl:dU o.lines=ZA (gE (o.lines.map cM)):=AA _;unfold oM gC;simp only[tY hf.world,Oc hf.aP,Zal hf.aR,hp,hl,VE]
 cases gf o.world
 ·rfl
 cases wF o.aP
 ·rfl
 cases xo o.aR (o.aP.length:Int)
 ·rfl
 cases td o.aF
 ·rfl
 cases gE (o.lines.map cM)
 ·rfl
 by_cases he:(o.aG.length:Int)=(o.world.ae.length:Int)
 ·rw[Yp he]
  cases ZE (150<(o.aE.length:Int))
  ·simp only[Qs hf YG,Qu hf,Qw hf,VK,Wl,YD,WN]
   cases allI (mM o) 0 o.aG<;>cases allI (wV o) 0 o.lines<;>cases allI Ht 0 o.aE<;>rfl
  ·rfl
 ·rw[Yz he];rfl
theorem PS:oA o=ZA (gC o):=by
 have hp:eu o.aF=ZA (td o.aF):=TM hf.xV;have hl:dS o.lines=ZA (gE (o.lines.map cM)):=Az _;unfold oA gC;simp only[vR hf.world,Ob hf.aP,Zak hf.aR,hp,hl,VE]
 cases gf o.world
 ·rfl
 cases wF o.aP
 ·rfl
 cases xo o.aR (o.aP.length:Int)
 ·rfl
 cases td o.aF
 ·rfl
 cases gE (o.lines.map cM)
 ·rfl
 by_cases he:(o.aG.length:Int)=(o.world.ae.length:Int)
 ·rw[Yp he]
  cases ZE (150<(o.aE.length:Int))
  ·simp only[Qr hf YG,Qt hf YG,Qv hf,VK,Wl,YD,WN]
   cases allI (mM o) 0 o.aG<;>cases allI (wV o) 0 o.lines<;>cases allI Ht 0 o.aE<;>rfl
  ·rfl
 ·rw[Yz he];rfl
end
theorem mP(l:List ByteArray)(p:ByteArray):-1<=bd l p/\bd l p<l.length:=by
 unfold bd
 cases h:l.findIdx? λy=>ZE (y=p)with
 |none=>simp;omega
 |some k=>
  have:=(XV.1 h).1;simp only[Option.elim];omega
theorem nP{l:List ByteArray}(h:p∈l):0<=bd l p:=by
 unfold bd
 cases h':l.findIdx? λy=>ZE (y=p)with
 |none=>
  have:=List.findIdx?_eq_none_iff.1 h' p h;simp at this
 |some k=>simp only[Option.elim];omega
theorem ui{n:ak}{l:bM}(h:l∈n.aB):l.ar∈ao n/\l.aX∈ao n:=by
 obtain⟨i,hi,rfl⟩:=V2 h;obtain⟨a,b⟩:=Lr hi;unfold ao;exact⟨Ar.2 (.inl (VI a)),Ar.2 (.inl (VI b))⟩
theorem nQ{xs:List α}{i:Int}(h:0<=i/\i<xs.length):∃x,aA xs i=ZA x/\x∈xs:=by
 have bO:i.toNat<xs.length:=YG;exact⟨xs[i.toNat],by unfold aA;rw[if_pos h.1];exact VF bO,Wd bO⟩
section
variable {n:ak} (hf:cR n)
include hf
theorem TO:(ao n).length<=2097152:=by have:=e9 n;have:=hf.aB;omega
theorem qL(p:ByteArray):bY (ao n) p=ZA (bd (ao n) p):=qw (by have:=TO hf;omega) p
theorem Zgh(bG day:Int):∃b,cy n bG day=ZA b:=(ur hf bG day).2
theorem I5{l:List aj}(hl:l.length<=1048576){ah:List aw}(hc:ah.length<=1048576){bG:Int}(hy:aA n.aB bG=ZA y)(aO ab:Int):ep (cC n l ah bG aO ab) λr=>True:=by
 unfold cC;have Oj:ep (aD (cH n l ah bG aO ab) NN 0) λr=>True:=by
  refine ep.loop (λk s=>∃i:Nat,s=(i:Int)/\i+k=61) (λk s hs=>?_) NN 61 0 ⟨0,rfl,rfl⟩ YI
  obtain⟨i,rfl,hk⟩:=hs;unfold cH;refine ep.cond (λhd=>?_) λhd=>ep.ret trivial
  have hi:=YA hd;have hw:aH ((i:Int)+1)=((i+1:Nat):Int):=by rw[aL YG];omega
  have go:∀{σ:Type},Bi (λk (s:Int)=>∃i:Nat,s=(i:Int)/\i+k=61) (λr:Unit⊕Int=>True) k (Sum.inl (aH ((i:Int)+1))):=⟨k-1,YG,i+1,hw,YG⟩
  obtain⟨b,hb⟩:=Zgh hf bG (i:Int);obtain⟨v,hv⟩:=uN (n:=n) (t:=⟨bG,(i:Int)⟩) hy;obtain⟨q,hq⟩:=wX hl (⟨bG,(i:Int)⟩:aw);rw[hb,VE];refine ep.cond (λ_=>?_) λ_=>ep.ret (go (σ:=Unit))
  rw[hv,VE];refine ep.cond (λ_=>?_) λ_=>ep.ret (go (σ:=Unit))
  rw[iv,gh hc,VE];refine ep.cond (λ_=>?_) λ_=>ep.ret (go (σ:=Unit))
  rw[hy,VE,hq,VE];exact ep.cond (λ_=>ep.ret trivial) λ_=>ep.ret (go (σ:=Unit))
 refine ep.bind Oj λr _=>?_
 cases r with
 |inl u=>exact ep.ret trivial
 |inr v=>exact ep.ret trivial
omit hf in
theorem AI(a:Int)(b:Bool):ep (da n a b) λr=>True:=by
 unfold da;exact ep.cond (λ_=>ep.ret trivial) λ_=>ep.ret trivial
omit hf in
theorem Zh7(a b:Int):ep (mv a b) λr=>True:=by
 unfold mv;exact ep.cond (λ_=>ep.ret trivial) λ_=>ep.ret trivial
theorem Ek(f aO:Int):ep (ia (ao n) f aO) λr=>r.length=(ao n).length:=by
 have hp:=TO hf;unfold ia;refine ep.bind (P:=λo=>o.length=(ao n).length) ?_ λo ho=>ep.ret ho
 refine ep.loop (λk s=>∃i:Nat,s.1=(i:Int)/\i+k=(ao n).length/\s.2.length=i) (λk s hs=>?_) NN (ao n).length _ ⟨0,rfl,YG,rfl⟩ YI
 obtain⟨i,hi,hk,hlen⟩:=hs;unfold ib;rw[hi];refine ep.cond (λhd=>?_) λhd=>ep.ret (by have:=YB hd;simp only[Bi];omega)
 have bO:=YA hd;have hw:aH ((i:Int)+1)=((i+1:Nat):Int):=by rw[aL YG];omega
 rw[hw];have go:∀(x:Int),Bi (λk (s:Int×List Int)=>∃i:Nat,s.1=(i:Int)/\i+k=(ao n).length/\s.2.length=i) (λo:List Int=>o.length=(ao n).length) k (Sum.inl (((i+1:Nat):Int),s.2++[x])):=λx=>⟨k-1,YG,i+1,rfl,YG,by simp[hlen]⟩
 refine ep.cond (λ_=>ep.bind (Zh7 _ _) λy _=>ep.dg (wO YY YG) (ep.ret (go y))) λ_=>ep.dg (wO YY YG) (ep.ret (go _))
theorem Ss{l:List aj}(hb:cb n l=ZC){b:aj}(h:b∈l):fw n b.aV=true:=by
 obtain⟨i,hi,rfl⟩:=V2 h;have:=(CA hb hi).1;unfold UX at this
 rw[VF hi]at this
 simp only[VN]at this
 exact this.1.1.1
omit hf in
theorem ZgQ{l:List aj}(hl:l.length<=1048575)(b:aj):ep (nY l b) λr=>r.length=l.length+1:=by
 unfold nY;refine ep.bind (P:=λo:Int=>0<=o/\o<=l.length) ?_ λo ho=>?_
 ·refine ep.loop (λk s=>∃i:Nat,s=(i:Int)/\i+k=l.length) (λk s hs=>?_) NN l.length 0 ⟨0,rfl,YG⟩ YI
  obtain⟨i,rfl,hk⟩:=hs;unfold rO;refine ep.cond (λhd=>?_) λhd=>ep.ret (by simp only[Bi];omega)
  have bO:=YA hd;have hw:aH ((i:Int)+1)=((i+1:Nat):Int):=by rw[aL YG];omega
  obtain⟨y,hy,hm⟩:=nQ (xs:=l) (i:=(i:Int)) ⟨YG,bO⟩;rw[hy,VE,HY,VE];exact ep.cond (λ_=>ep.ret ⟨k-1,YG,i+1,hw,YG⟩) λ_=>ep.ret (by simp only[Bi];omega)
 ·have l1:(cZ l 0 o).length=o.toNat:=by unfold cZ;simp;omega
  have l2:(cZ l o (l.length:Int)).length=l.length-o.toNat:=by unfold cZ;simp
  refine ep.dg (by unfold iC;exact Yp YG) ?_
  rw[tF YG,VE];refine ep.dg (wO YY YG) (ep.dg (by unfold iC;exact Yp YG) (ep.dg (wO (by simp only[VV,VL,VO];omega) YG) (ep.ret ?_)))
  simp only[VV,VL,VO];omega
theorem Zdy{l:List aj}(hl:l.length<=1048000)(bo ab:Int)(aK:List aw):ep (cg n l bo ab aK) λr=>r.1.length<=l.length+20/\(r.2=ZC->r.1.length<=120):=by
 unfold cg;rw[tF YG,VE,iB hf YG,VE];refine ep.cond (λ_=>ep.ret ⟨by simp only;omega,λh=>by cases h⟩) λ_=>ep.cond (λ_=>ep.ret ⟨by simp only;omega,λh=>by cases h⟩) λhd=>?_
 have hle:=YB hd;refine ep.bind (P:=λo:List aj=>o.length<=l.length+20) ?_ λo ho=>?_
 ·refine ep.loop (λk s=>∃i:Nat,s.1=(i:Int)/\i+k=aK.length/\s.2.length=l.length+i) (λk s hs=>?_) NN aK.length _ ⟨0,rfl,YG,rfl⟩ YI
  obtain⟨i,hi,hk,hlen⟩:=hs;unfold l8;rw[hi];refine ep.cond (λhd=>?_) λhd=>ep.ret (by simp only[Bi];omega)
  have bO:=YA hd;have hw:aH ((i:Int)+1)=((i+1:Nat):Int):=by rw[aL YG];omega
  obtain⟨y,hy,hm⟩:=nQ (xs:=aK) (i:=(i:Int)) ⟨YG,bO⟩;rw[hy,VE,hw];exact ep.bind (ZgQ YG _) λr hr=>ep.ret ⟨k-1,YG,i+1,rfl,YG,by simp only;omega⟩
 ·rw[iB hf YG,VE]
  refine ep.cond (λ_=>ep.ret ⟨by simp only;omega,λh=>by cases h⟩) λhb=>ep.ret ⟨ho,λ_=>(dy (n:=n) (l:=o) (by simpa using hb)).2⟩
end
theorem rI{l:List ByteArray}(h:0<=bd l p):aA l (bd l p)=ZA p:=by
 unfold bd at h⊢
 cases h':l.findIdx? λy=>ZE (y=p)with
 |none=>rw[h']at h;simp at h
 |some k=>
  obtain⟨h1,h2,_⟩:=XV.1 h';have h2:=YA h2;simp only[Option.elim];rw[aQ,VF h1,h2]
theorem Pu{xs:List α}{i j:Int}{v x:α}(hi:0<=i)(h:aA (xs.set (V0 i) v) j=ZA x):(j=i/\x=v)\/aA xs j=ZA x:=by
 obtain⟨h0,h1⟩:=mO h
 by_cases he:j=i
 ·subst he
  rw[List.getElem?_set_self']at h1
  cases hx:xs[j.toNat]? with
  |none=>rw[hx]at h1;simp at h1
  |some y=>rw[hx]at h1;simp at h1;exact .inl ⟨rfl,h1.symm⟩
 ·refine .inr ?_
  rw[Wk YG]at h1
  unfold aA;rw[if_pos h0];exact h1
def AO(n:ak)(l:List aj)(ah:List aw)(ab f:Int)(r:List Int)(x v:Int):Prop:=
 ∃(i:Nat) (y:bM) (d u z:Int),n.aB[i]?=ZA y/\bd (ao n) y.aX=x/\aA r (bd (ao n) y.ar)=ZA u/\¬u<0/\da n u (ZE (bd (ao n) y.ar=f))=ZA z/\cC n l ah (i:Int) z ab=ZA d/\¬d<0/\bp n ⟨(i:Int),d⟩=ZA v
section
variable {n:ak} (hf:cR n)
include hf
theorem JC{l:List aj}(hl:l.length<=1048576){ah:List aw}(hc:ah.length<=1048576)(ab:Int)(hb:gF.length=(ao n).length)(f:Int):ep (dI n l ah ab (ao n) gF f) λr=>r.length=(ao n).length/\∀x v,aA r x=ZA v->aA gF x=ZA v\/AO n l ah ab f gF x v:=by
 have hp:=TO hf;have AY:=hf.aB;unfold dI;refine ep.bind (P:=λr=>r=gF) ?_ λr hr=>?_
 ·by_cases h1:gF.length<=1048576
  ·exact ep.of (BV h1) rfl
  ·unfold dN
   exact ep.dg (wO (by simp only[VO];omega) YG) (ep.ret YJ)
 ·subst hr
  refine ep.bind (P:=λo=>o.length=(ao n).length/\∀x v,aA o x=ZA v->aA r x=ZA v\/AO n l ah ab f r x v) ?_ λo ho=>ep.ret ho
  refine ep.loop (fun(k:Nat) (s:Int×List Int)=>∃i:Nat,s.1=(i:Int)/\i+k=n.aB.length/\s.2.length=(ao n).length/\∀x v,aA s.2 x=ZA v->aA r x=ZA v\/AO n l ah ab f r x v) (λk s hs=>?_) NN n.aB.length _ ⟨0,rfl,YG,hb,λx v h=>.inl h⟩ YI
  obtain⟨i,hi,hk,hlen,Og⟩:=hs;unfold ek;rw[hi];refine ep.cond (λhd=>?_) λhd=>ep.ret ⟨hlen,Og⟩
  have bO:=YA hd;have hw:aH ((i:Int)+1)=((i+1:Nat):Int):=by rw[aL YG];omega
  obtain⟨y,hy,hm⟩:=nQ (xs:=n.aB) (i:=(i:Int)) ⟨YG,bO⟩;obtain⟨m1,m2⟩:=ui hm;have a0:=nP m1;have a1:=(mP (ao n) y.ar).2;have b0:=nP m2;have b1:=(mP (ao n) y.aX).2;obtain⟨v6,g6,_⟩:=nQ (xs:=r) (i:=bd (ao n) y.ar) ⟨a0,YG⟩;obtain⟨v11,g11,_⟩:=nQ (xs:=s.2) (i:=bd (ao n) y.aX) ⟨b0,YG⟩;simp only[hy,VE,qL hf,g6,hw];have go:∀(s':List Int),s'.length=(ao n).length->(∀x v,aA s' x=ZA v->aA r x=ZA v\/AO n l ah ab f r x v)->Bi (fun(k:Nat) (s:Int×List Int)=>∃i:Nat,s.1=(i:Int)/\i+k=n.aB.length/\s.2.length=(ao n).length/\∀x v,aA s.2 x=ZA v->aA r x=ZA v\/AO n l ah ab f r x v) (λo:List Int=>o.length=(ao n).length/\∀x v,aA o x=ZA v->aA r x=ZA v\/AO n l ah ab f r x v) k (Sum.inl (((i+1:Nat):Int),s')):=λs' h' h''=>⟨k-1,YG,i+1,rfl,YG,h',h''⟩
  refine ep.cond (λ_=>ep.ret (go _ hlen Og)) λhu=>?_
  obtain⟨z,ez,_⟩:=AI (n:=n) v6 (ZE (bd (ao n) y.ar=f));obtain⟨d,ed,_⟩:=I5 hf hl hc hy z ab;rw[ez,VE,ed,VE];refine ep.cond (λ_=>ep.ret (go _ hlen Og)) λJ4=>?_
  obtain⟨e,he⟩:=qv (n:=n) (t:=⟨(i:Int),d⟩) hy;simp only[he,VE,g11];have hyi:n.aB[i]?=ZA y:=by rw[aQ]at hy;exact hy
  have new:∀x v,aA (s.2.set (V0 (bd (ao n) y.aX)) e) x=ZA v->aA r x=ZA v\/AO n l ah ab f r x v:=λx v h=>by
   rcases Pu b0 h with⟨rfl,rfl⟩ |h
   ·exact .inr ⟨i,y,d,v6,z,hyi,rfl,g6,YB hu,ez,ed,YB J4,he⟩
   ·exact Og x v h
  exact ep.cond (λ_=>ep.ret (go _ (by rw[Ws];exact hlen) new)) λ_=>ep.cond (λ_=>ep.ret (go _ (by rw[Ws];exact hlen) new)) λ_=>ep.ret (go _ hlen Og)
end
def NT(n:ak)(l:List aj)(ah:List aw)(ab f:Int)(r:List Int):List Int:=(dI n l ah ab (ao n) r f).getD []
def bW(n:ak)(l:List aj)(ah:List aw)(ab f aO:Int):Nat->List Int
 |0=>(ia (ao n) f aO).getD []
 |k+1=>NT n l ah ab f (bW n l ah ab f aO k)
section
variable {n:ak} (hf:cR n) {l:List aj} (hl:l.length<=1048576) {ah:List aw} (hc:ah.length<=1048576) (ab f aO:Int)
include hf hl hc
theorem ot:∀k,(bW n l ah ab f aO k).length=(ao n).length
 |0=>by
  obtain⟨r,e,h⟩:=Ek hf f aO;unfold bW;rw[e];exact h
 |k+1=>by
  obtain⟨r,e,h,_⟩:=JC hf hl hc ab (ot k) f;unfold bW NT;rw[e];exact h
theorem vB(k:Nat):dI n l ah ab (ao n) (bW n l ah ab f aO k) f=ZA (bW n l ah ab f aO (k+1))/\∀x v,aA (bW n l ah ab f aO (k+1)) x=ZA v->aA (bW n l ah ab f aO k) x=ZA v\/AO n l ah ab f (bW n l ah ab f aO k) x v:=by
 obtain⟨r,e,h,h'⟩:=JC hf hl hc ab (ot hf hl hc ab f aO k) f;have:bW n l ah ab f aO (k+1)=r:=by show(dI n l ah ab (ao n) (bW n l ah ab f aO k) f).getD []=r;rw[e];rfl
 rw[this];exact⟨e,h'⟩
theorem sn{ar:ByteArray}(hC:cb n l=ZC/\0<=bd (ao n) ar/\aO<=100000/\1<=ab)(hk:k<=(ao n).length):cX n l ah ar aO ab (k:Int)=ZA (bW n l ah ab (bd (ao n) ar) aO k):=by
 have hp:=TO hf;obtain⟨r0,e0,_⟩:=Ek hf (bd (ao n) ar) aO;have h0:bW n l ah ab (bd (ao n) ar) aO 0=r0:=by unfold bW;rw[e0];rfl
 unfold cX;rw[(dF hf).2];simp only[VE,qL hf,iB hf hl,hC.1,VK,YD,Yz (show ¬bd (ao n) ar<0 by omega),Yz (show ¬100000<aO by omega),Yz (show ¬ab<1 by omega),Yz (show ¬(k:Int)<0 by omega),e0]
 have e:aD (iW n l ah ab (k:Int) (ao n) (bd (ao n) ar)) NN (0,bW n l ah ab (bd (ao n) ar) aO 0)=ZA (bW n l ah ab (bd (ao n) ar) aO k):=by
  refine oz (body:=iW n l ah ab (k:Int) (ao n) (bd (ao n) ar)) (λi:Nat=>((i:Int),bW n l ah ab (bd (ao n) ar) aO i)) (n:=k) (o:=bW n l ah ab (bd (ao n) ar) aO k) (λi hi=>?_) ?_ NN YI
  ·unfold iW
   rw[Yp (show(i:Int)<(k:Int)by omega),Yp (show(i:Int)<((ao n).length:Int)by omega),YC,YC,(vB hf hl hc ab _ aO i).1,VE,aL YG]
   rfl
  ·unfold iW
   simp
 rw[<-h0,e];rfl
end
section
variable {n:ak} (hf:cR n)
include hf
end
theorem QU:@kN=@da:=rfl
def ZlG{σ ο ο':Type}(h:ο->ο'):σ⊕ο->σ⊕ο'
 |.inl s=>.inl s
 |.inr o=>.inr (h o)
theorem Ld{σ ο ο':Type}{b1:σ->Option (σ⊕ο)}{b2:σ->Option (σ⊕ο')}(h:ο->ο')(hb:∀s,b2 s=(b1 s).map (ZlG h)):∀(N:Nat) (s:σ),aD b2 N s=(aD b1 N s).map h
 |0,s=>rfl
 |N+1,s=>by
  have ih:=Ld h hb N;unfold aD;rw[hb s]
  cases h1:b1 s with
  |none=>rfl
  |some r=>
   cases r with
   |inl s'=>exact ih s'
   |inr o=>rfl
theorem ZaY{α β γ:Type}(x:Option α)(f:α->Option β)(g:β->γ):(x.bind f).map g=x.bind λa=>(f a).map g:=by cases x<;>rfl
theorem Za4{β γ:Type}(b:Bool)(x y:Option β)(g:β->γ):(cond b x y).map g=cond b (x.map g) (y.map g):=by grind
def Zep(bG:Int):Unit⊕Int->Unit⊕(aw×Bool)
 |.inl u=>.inl u
 |.inr d=>.inr ((⟨bG,d⟩:aw),ZC)
section
variable {n:ak} (hf:cR n)
include hf
theorem ZbF(l:List aj)(ah:List aw)(bG aO ab:Int)(s:Int):fZ bG aO n ah l ab s=(cH n l ah bG aO ab s).map (ZlG (Zep bG)):=by
 unfold fZ cH;rw[(ur hf bG s).1,su,AB,iv];simp only[Za4,ZaY,Wo,ZlG,Zep]
theorem Vg{l:List aj}(hl:l.length<=1048576){ah:List aw}(hc:ah.length<=1048576){bG:Int}(hy:aA n.aB bG=ZA y)(aO ab:Int):
 ∃d,cC n l ah bG aO ab=ZA d/\ix bG aO n ah l ab=ZA (if d<0 then((⟨0,0⟩:aw),ZD)else((⟨bG,d⟩:aw),ZC)):=by
 have Oj:ep (aD (cH n l ah bG aO ab) NN 0) λr=>∀d,r=.inr d->0<=d:=by
  refine ep.loop (λk s=>∃i:Nat,s=(i:Int)/\i+k=61) (λk s hs=>?_) NN 61 0 ⟨0,rfl,rfl⟩ YI
  obtain⟨i,rfl,hk⟩:=hs;refine ep.cond (λhd=>?_) λhd=>ep.ret (λd h=>by cases h)
  have hi:=YA hd;have hw:aH ((i:Int)+1)=((i+1:Nat):Int):=by rw[aL YG];omega
  have go:Bi (λk (s:Int)=>∃i:Nat,s=(i:Int)/\i+k=61) (λr:Unit⊕Int=>∀d,r=.inr d->0<=d) k (Sum.inl (aH ((i:Int)+1))):=⟨k-1,YG,i+1,hw,YG⟩
  obtain⟨b,hb⟩:=Zgh hf bG (i:Int);obtain⟨v,hv⟩:=uN (n:=n) (t:=⟨bG,(i:Int)⟩) hy;obtain⟨q,hq⟩:=wX hl (⟨bG,(i:Int)⟩:aw);rw[hb];refine ep.cond (λ_=>?_) λ_=>ep.ret go
  rw[hv];refine ep.cond (λ_=>?_) λ_=>ep.ret go
  rw[iv,gh hc];refine ep.cond (λ_=>?_) λ_=>ep.ret go
  rw[hy,hq];exact ep.cond (λ_=>ep.ret (λd h=>by grind)) λ_=>ep.ret go
 obtain⟨r,e,hr⟩:=Oj;have e2:=Ld (Zep bG) (ZbF hf l ah bG aO ab) NN (0:Int);rw[e]at e2
 unfold cC ix;rw[e,e2]
 cases r with
 |inl u=>exact⟨-1,rfl,rfl⟩
 |inr d=>exact⟨d,rfl,by rw[if_neg YN];rfl⟩
theorem Zff{l:List aj}(hl:l.length<=1048576){ah:List aw}(hc:ah.length<=1048576)(ab aB f:Int)(hb:gF.length=(ao n).length)(k:Int){lst:List Int}(Zru:lst.length=(ao n).length)(ch:Bool){i:Nat}(hi:i<n.aB.length):
 ∃Zb2 ch',ek n l ah ab (ao n) gF f ((i:Int),lst)=ZA (.inl (((i+1:Nat):Int),Zb2))/\dc n n ah l ab aB (ao n) f (k,gF) ((i:Int),ch,lst)=ZA (.inl (((i+1:Nat):Int),ch',Zb2))/\Zb2.length=(ao n).length/\((ch'=ch/\Zb2=lst)\/ch'=ZC):=by
 have AY:=hf.aB;have hw:aH ((i:Int)+1)=((i+1:Nat):Int):=by rw[aL YG];omega
 obtain⟨y,hy,hm⟩:=nQ (xs:=n.aB) (i:=(i:Int)) ⟨YG,YG⟩;obtain⟨m1,m2⟩:=ui hm;have a0:=nP m1;have a1:=(mP (ao n) y.ar).2;have b0:=nP m2;have b1:=(mP (ao n) y.aX).2;obtain⟨v6,g6,_⟩:=nQ (xs:=gF) (i:=bd (ao n) y.ar) ⟨a0,YG⟩;obtain⟨v11,g11,_⟩:=nQ (xs:=lst) (i:=bd (ao n) y.aX) ⟨b0,YG⟩;obtain⟨z,ez,_⟩:=AI (n:=n) v6 (ZE (bd (ao n) y.ar=f));obtain⟨d,ed,ef⟩:=Vg hf hl hc hy z ab;obtain⟨e,he⟩:=qv (n:=n) (t:=⟨(i:Int),d⟩) hy;unfold ek dc;have hpa:∀p,bU (ao n) p=ZA (bd (ao n) p):=λp=>by exact qL hf p
 simp only[hy,VE,qL hf,hpa,QU,g11,vh]
 grind
theorem Th{l:List aj}(hl:l.length<=1048576){ah:List aw}(hc:ah.length<=1048576)(ab aB f:Int)(hb:gF.length=(ao n).length)(CX:gF.length<=1048576)(k:Int):
 ∃r ch,dI n l ah ab (ao n) gF f=ZA r/\aD (dc n n ah l ab aB (ao n) f (k,gF)) NN (0,ZD,gF)=ZA (ch,r)/\r.length=(ao n).length/\(ch=ZD->r=gF):=by
 have AY:=hf.aB;have key:∀(d i:Nat),i+d=n.aB.length->∀(lst:List Int) (ch:Bool),lst.length=(ao n).length->(ch=ZD->lst=gF)->∀N,d<N->
  ∃r ch',aD (ek n l ah ab (ao n) gF f) N ((i:Int),lst)=ZA r/\aD (dc n n ah l ab aB (ao n) f (k,gF)) N ((i:Int),ch,lst)=ZA (ch',r)/\r.length=(ao n).length/\(ch'=ZD->r=gF):=by
  intro d
  induction d with
  |zero=>
   intro i hi lst ch h1 h2 N hN;obtain⟨N,rfl⟩:∃M,N=M+1:=⟨N-1,YG⟩;refine⟨lst,ch,?_,?_,h1,h2⟩
   ·unfold aD ek
    grind
   ·unfold aD dc
    grind
  |succ d ih=>
   intro i hi lst ch h1 h2 N hN;obtain⟨N,rfl⟩:∃M,N=M+1:=⟨N-1,YG⟩;obtain⟨Zb2,ch',e1,e2,h3,h4⟩:=Zff hf hl hc ab aB f hb k h1 ch (show i<n.aB.length by omega)
   obtain⟨r,c,q1,q2,q3,q4⟩:=ih (i+1) YG Zb2 ch' h3 (λh=>by
    grind) N YG
   refine⟨r,c,?_,?_,q3,q4⟩
   ·unfold aD;grind
   ·unfold aD;grind
 obtain⟨r,ch,q1,q2,q3,q4⟩:=key n.aB.length 0 YG gF ZD hb (λ_=>rfl) NN YI
 have e0:((0:Nat):Int)=0:=rfl;rw[e0]at q1 q2
 refine⟨r,ch,?_,q2,q3,q4⟩;unfold dI;rw[BV CX,VE,q1];rfl
omit hf in
theorem H3{l:List aj}{ah:List aw}{ab f aO:Int}{i:Nat}(h:bW n l ah ab f aO (i+1)=bW n l ah ab f aO i):∀k,bW n l ah ab f aO (i+k)=bW n l ah ab f aO i
 |0=>rfl
 |k+1=>by
  have ih:=H3 h k;have e1:bW n l ah ab f aO (i+(k+1))=NT n l ah ab f (bW n l ah ab f aO (i+k)):=rfl;have e2:bW n l ah ab f aO (i+1)=NT n l ah ab f (bW n l ah ab f aO i):=rfl
  grind
theorem TB{l:List aj}(hl:l.length<=1048576){ah:List aw}(hc:ah.length<=1048576)(ab f aO:Int)(hp:(ao n).length<=1048576)(aB:Nat)(Zju:aB<=1048576):
 aD (db n n ah l ab (aB:Int) (ao n) f) NN (0,bW n l ah ab f aO 0)=ZA (bW n l ah ab f aO aB):=by
 have key:∀(d i:Nat),i+d=aB->∀N,d<N->aD (db n n ah l ab (aB:Int) (ao n) f) N ((i:Int),bW n l ah ab f aO i)=ZA (bW n l ah ab f aO aB):=by
  intro d
  induction d with
  |zero=>
   intro i hi N hN;obtain⟨N,rfl⟩:∃M,N=M+1:=⟨N-1,YG⟩;have:i=aB:=YG;subst this;unfold aD db;simp only[Yz (show ¬(i:Int)<(i:Int)by omega),YD];rfl
  |succ d ih=>
   intro i hi N hN;obtain⟨N,rfl⟩:∃M,N=M+1:=⟨N-1,YG⟩;have CX:=ot hf hl hc ab f aO i;have Sf:aH ((i:Int)+1)=((i+1:Nat):Int):=by rw[aL YG];omega
   obtain⟨r,ch,q1,q2,q3,q4⟩:=Th hf hl hc ab (aB:Int) f CX YG (i:Int);have hr:bW n l ah ab f aO (i+1)=r:=by
    have:=(vB hf hl hc ab f aO i).1;rw[q1]at this
    exact(VG this).symm
   have ha:dg (bB ((([]:List Int):List Int).length+(bW n l ah ab f aO i).length) 8)=ZA ():=by
    simp only[VO];exact CD YG YG
   have body:db n n ah l ab (aB:Int) (ao n) f ((i:Int),bW n l ah ab f aO i)=(cond (!ch) (ZA (.inr r)) (ZA (.inl (((i+1:Nat):Int),r)))):=by
    unfold db;simp only[Yp (show(i:Int)<(aB:Int)by omega),YC,ha,VE,Wu,q2,Sf]
   unfold aD;rw[body]
   cases ch with
   |false=>
    have e:=q4 rfl;rw[<-hr]at e
    have hconst:=H3 e (d+1);rw[show i+(d+1)=aB by omega]at hconst
    show ZA r=_;rw[<-hr,e,hconst]
   |true=>
    rw[<-hr];exact ih (i+1) YG N YG
 exact key aB 0 YG NN YI
theorem Mr(hp:(ao n).length<=1048576)(f:Int)(hf0:0<=f/\f<((ao n).length:Int))(aO:Int):ia (ao n) f aO=ZA ((VW (ao n).length (-1:Int)).set f.toNat (if 0 > aO then 0 else aO)):=by
 have ZkI:mv aO 0=ZA (if 0 > aO then 0 else aO):=by
  unfold mv
  grind
 generalize hm:(if 0 > aO then 0 else aO:Int)=mx at ZkI⊢
 have hLl:((VW (ao n).length (-1:Int)).set f.toNat mx).length=(ao n).length:=by simp
 have hLi:∀i:Nat,i<(ao n).length->((VW (ao n).length (-1:Int)).set f.toNat mx)[i]?=ZA (if(i:Int)=f then mx else -1):=λi hi=>by
  grind
 generalize (VW (ao n).length (-1:Int)).set f.toNat mx=L at hLl hLi⊢
 have e:aD (ib (ao n) f aO) NN (0,[])=ZA L:=by
  have:=oz (body:=ib (ao n) f aO) (λi:Nat=>((i:Int),L.take i)) (n:=(ao n).length) (o:=L) (λi hi=>?_) ?_ NN YI
  ·grind
  ·have hw:aH ((i:Int)+1)=((i+1:Nat):Int):=by rw[aL YG];omega
   have hx:=hLi i hi;have ha:∀x:Int,dg (bB ((L.take i).length+([x]:List Int).length) 8)=ZA ():=λx=>eK YN YG
   unfold ib;rw[<-yG hx]
   grind
  ·unfold ib
   grind
 unfold ia
 grind
theorem HH{l:List aj}(hl:l.length<=1048576){ah:List aw}(hc:ah.length<=1048576)(ab:Int){ar:ByteArray}(h0:0<=bd (ao n) ar){aO:Int}(Fq:aO<=100000)(hp:(ao n).length<=1048576)(aB:Nat)(Zju:aB<=1048576):
 dR n n ah l ab ar aO (aB:Int)=ZA (bW n l ah ab (bd (ao n) ar) aO aB):=by
 have bO:=(mP (ao n) ar).2;have e0:aD (ey n n ah l ab aO (aB:Int) (ao n) (bd (ao n) ar)) NN (0,[])=ZA (VW (ao n).length (-1:Int)):=by
  refine oz (body:=ey n n ah l ab aO (aB:Int) (ao n) (bd (ao n) ar)) (λi:Nat=>((i:Int),VW i (-1:Int))) (n:=(ao n).length) (o:=VW (ao n).length (-1:Int)) (λi hi=>?_) ?_ NN YI
  ·have hw:aH ((i:Int)+1)=((i+1:Nat):Int):=by rw[aL YG];omega
   have ha:dg (bB ((VW i (-1:Int)).length+([(-1)]:List Int).length) 8)=ZA ():=eK (by simp only[XK,VL,VO];omega) YG
   unfold ey;simp only[Yp (show(i:Int)<((ao n).length:Int)by omega),YC,ha,VE,hw,List.replicate_succ']
  ·unfold ey
   simp
 have ZkE:bW n l ah ab (bd (ao n) ar) aO 0=(VW (ao n).length (-1:Int)).set (bd (ao n) ar).toNat (if 0 > aO then 0 else aO):=by
  unfold bW;rw[Mr hf hp _ ⟨h0,bO⟩];rfl
 obtain⟨x,hx,_⟩:=nQ (xs:=VW (ao n).length (-1:Int)) (i:=bd (ao n) ar) ⟨h0,by rw[XK];exact bO⟩
 unfold dR;rw[oc,(dF hf).1,(dF hf).2];simp only[VE,qL hf,Yz (show ¬bd (ao n) ar<0 by omega),Yz (show ¬100000<aO by omega),Yz (show ¬(aB:Int)<0 by omega),YD,e0,hx,<-ZkE,TB hf hl hc ab _ aO hp aB Zju]
end
section
variable {n:ak} (hf:cR n)
include hf
structure Found(n:ak)(l:List aj)(ah:List aw)(aO ab:Int)(t:aw):Prop where
 aV:fw n t=ZC
 start:aO<=cE n t
 open_:dw ah t=ZA ZD
 jl:∃y q,aA n.aB t.bG=ZA y/\df l t=ZA q/\ab<=aH (y.jl-q)
theorem Qq{l:List aj}{ah:List aw}{bG aO ab d:Int}(h:cC n l ah bG aO ab=ZA d):d=-1\/Found n l ah aO ab ⟨bG,d⟩:=by
 unfold cC at h
 cases e:aD (cH n l ah bG aO ab) NN 0 with
 |none=>rw[e]at h;cases h
 |some r=>
  rw[e]at h
  cases r with
  |inl u=>exact .inl (VG h).symm
  |inr d'=>
   obtain rfl:d'=d:=VG h;refine .inr ?_;have:=Ay (body:=cH n l ah bG aO ab) (P:=λr=>∀d,r=.inr d->Found n l ah aO ab ⟨bG,d⟩) (λs o hs=>?_) NN 0 _ e
   ·exact this d' rfl
   ·unfold cH at hs
    by_cases h60:s<=60
    ·rw[Yp h60,YC]at hs
     obtain⟨_,b,hb⟩:=ur hf bG s;have GQ:=hb;rw[hb,VE]at hs
     intro d hd;subst hd
     cases b with
     |false=>simp at hs
     |true=>
      have ht:fw n ⟨bG,s⟩=true:=by unfold fw;rw[GQ];rfl
      simp only[YC]at hs
      cases h1:bw n ⟨bG,s⟩with
      |none=>rw[h1]at hs;cases hs
      |some v=>
       rw[h1,VE]at hs
       by_cases h2:aO<=v
       ·rw[Yp h2,YC]at hs
        cases h3:dw ah ⟨bG,s⟩with
        |none=>rw[h3]at hs;cases hs
        |some c=>
         rw[h3,VE]at hs
         cases c with
         |true=>simp at hs
         |false=>
          simp only[Wl,YC]at hs
          cases h4:aA n.aB bG with
          |none=>rw[h4]at hs;cases hs
          |some y=>
           rw[h4,VE]at hs
           cases h5:df l ⟨bG,s⟩with
           |none=>rw[h5]at hs;cases hs
           |some q=>
            rw[h5,VE]at hs
            by_cases h6:ab<=aH (y.jl-q)
            ·rw[Yp h6,YC]at hs
             have:s=d:=by simpa using hs
             rw[<-this];exact⟨ht,by unfold cE;rw[h1];exact h2,h3,y,q,h4,h5,h6⟩
            ·rw[Yz h6]at hs;simp at hs
       ·rw[Yz h2]at hs;simp at hs
    ·rw[Yz h60]at hs
     intro d hd;subst hd;simp at hs
theorem Zch{l:List aj}{ah:List aw}{bG aO ab d:Int}(h:cC n l ah bG aO ab=ZA d):d=-1\/fw n ⟨bG,d⟩=true:=by
 rcases Qq hf h with h|h
 ·exact .inl h
 ·exact .inr h.aV
omit hf in
theorem xi{xs:List α}{i:Int}(h0:0<=i)(h1:i<xs.length):aA (xs.set i.toNat v) i=ZA v:=by
 unfold aA;rw[if_pos h0,Wa YG]
omit hf in
theorem Pv{xs:List α}{i j:Int}(h0:0<=i)(h:j≠i):aA (xs.set i.toNat v) j=aA xs j:=by
 unfold aA
 by_cases hj:0<=j
 ·rw[if_pos hj,if_pos hj,Wk YG]
 ·rw[if_neg hj,if_neg hj]
def vI(r:List Int)(x v:Int):Prop:=∃w,aA r x=ZA w/\0<=w/\w<=v
def KE(n:ak)(l:List aj)(ah:List aw)(ab f:Int)(r:List Int)(i:Nat)(x v:Int):Prop:=
 ∃(y:bM) (d u z:Int),n.aB[i]?=ZA y/\bd (ao n) y.aX=x/\aA r (bd (ao n) y.ar)=ZA u/\¬u<0/\da n u (ZE (bd (ao n) y.ar=f))=ZA z/\cC n l ah (i:Int) z ab=ZA d/\¬d<0/\bp n ⟨(i:Int),d⟩=ZA v
theorem Zgc(hn:ba n=ZA ZC){l:List aj}(hl:l.length<=1048576){ah:List aw}(hc:ah.length<=1048576)(ab:Int)(hb:gF.length=(ao n).length)(f:Int):
 ep (dI n l ah ab (ao n) gF f) λr=>(∀x v,aA gF x=ZA v->0<=v->vI r x v)/\∀x v,AO n l ah ab f gF x v->vI r x v:=by
 have hp:=TO hf;have AY:=hf.aB;unfold dI;refine ep.bind (P:=λr=>r=gF) ?_ λr hr=>?_
 ·by_cases h1:gF.length<=1048576
  ·exact ep.of (BV h1) rfl
  ·unfold dN
   exact ep.dg (wO (by simp only[VO];omega) YG) (ep.ret YJ)
 ·subst hr
  refine ep.bind (P:=λo=>(∀x v,aA r x=ZA v->0<=v->vI o x v)/\∀x v,AO n l ah ab f r x v->vI o x v) ?_ λo ho=>ep.ret ho
  refine ep.loop (fun(k:Nat) (s:Int×List Int)=>∃i:Nat,s.1=(i:Int)/\i+k=n.aB.length/\s.2.length=(ao n).length/\(∀x v,aA r x=ZA v->0<=v->vI s.2 x v)/\∀j,j<i->∀x v,KE n l ah ab f r j x v->vI s.2 x v) (λk s hs=>?_) NN n.aB.length _ ⟨0,rfl,YG,hb,λx v h h0=>⟨v,h,h0,Wp _⟩,λj hj=>YG⟩ YI
  obtain⟨i,hi,hk,hlen,hA,hB⟩:=hs;unfold ek;rw[hi];refine ep.cond (λhd=>?_) λhd=>ep.ret ⟨hA,λx v h=>?_⟩
  case refine_2=>
   obtain⟨j,y,d,u,z,c1,c2⟩:=h;have h1:=(VH.1 c1).1;have h2:=YB hd;exact hB j YG x v ⟨y,d,u,z,c1,c2⟩
  have bO:=YA hd;have hw:aH ((i:Int)+1)=((i+1:Nat):Int):=by rw[aL YG];omega
  obtain⟨y,hy,hm⟩:=nQ (xs:=n.aB) (i:=(i:Int)) ⟨YG,bO⟩;obtain⟨m1,m2⟩:=ui hm;have a0:=nP m1;have a1:=(mP (ao n) y.ar).2;have b0:=nP m2;have b1:=(mP (ao n) y.aX).2;obtain⟨v6,g6,_⟩:=nQ (xs:=r) (i:=bd (ao n) y.ar) ⟨a0,YG⟩;obtain⟨v11,g11,_⟩:=nQ (xs:=s.2) (i:=bd (ao n) y.aX) ⟨b0,YG⟩;simp only[hy,VE,qL hf,g6,hw];have hyi:n.aB[i]?=ZA y:=by rw[aQ]at hy;exact hy
  have go:∀(s':List Int),s'.length=(ao n).length->(∀x v,vI s.2 x v->vI s' x v)->(∀x v,KE n l ah ab f r i x v->vI s' x v)->Bi (fun(k:Nat) (s:Int×List Int)=>∃i:Nat,s.1=(i:Int)/\i+k=n.aB.length/\s.2.length=(ao n).length/\(∀x v,aA r x=ZA v->0<=v->vI s.2 x v)/\∀j,j<i->∀x v,KE n l ah ab f r j x v->vI s.2 x v) (λo:List Int=>(∀x v,aA r x=ZA v->0<=v->vI o x v)/\∀x v,AO n l ah ab f r x v->vI o x v) k (Sum.inl (((i+1:Nat):Int),s')):=λs' h1 h2 h3=>
   ⟨k-1,YG,i+1,rfl,YG,h1,λx v h h0=>h2 x v (hA x v h h0),λj hj x v h=>by
    by_cases Cl:j=i
    ·subst Cl;exact h3 x v h
    ·exact h2 x v (hB j YG x v h)⟩
  refine ep.cond (λhu=>ep.ret (go _ hlen (λx v h=>h) λx v h=>?_)) λhu=>?_
  ·exfalso
   obtain⟨y',d,u,z,c1,c2,c3,c4,_⟩:=h;rw[hyi]at c1
   obtain rfl:=VG c1;rw[g6]at c3
   obtain rfl:=VG c3;exact c4 (YA hu)
  obtain⟨z,ez,_⟩:=AI (n:=n) v6 (ZE (bd (ao n) y.ar=f));obtain⟨d,ed,_⟩:=I5 hf hl hc hy z ab;have hcI:∀x v,KE n l ah ab f r i x v->¬d<0/\x=bd (ao n) y.aX/\bp n ⟨(i:Int),d⟩=ZA v:=by
   rintro x v ⟨y',d',u,z',c1,c2,c3,c4,c5,c6,c7,c8⟩;rw[hyi]at c1
   obtain rfl:=VG c1;rw[g6]at c3
   obtain rfl:=VG c3;rw[ez]at c5
   obtain rfl:=VG c5;rw[ed]at c6
   obtain rfl:=VG c6;exact⟨c7,c2.symm,c8⟩
  rw[ez,VE,ed,VE];refine ep.cond (λhdd=>ep.ret (go _ hlen (λx v h=>h) λx v h=>absurd (YA hdd) (hcI x v h).1)) λJ4=>?_
  have Vo:fw n ⟨(i:Int),d⟩=true:=by
   rcases Zch hf ed with h|h
   ·subst h;have:=YB J4;omega
   ·exact h
  obtain⟨e,he⟩:=qv (n:=n) (t:=⟨(i:Int),d⟩) hy;have he0:0<=e:=by
   obtain⟨_,h2,h3,h4,_⟩:=cT hf hn Vo;rw[he]at h2
   have:=VG h2;omega
  simp only[he,VE,g11];have ZjJ:=fun(hv:v11<0\/e<v11)=>go (s.2.set (V0 (bd (ao n) y.aX)) e) (by rw[Ws];exact hlen) (λx v h=>by
   obtain⟨w,Df,Fv,hw3⟩:=h
   by_cases hx:x=bd (ao n) y.aX
   ·subst hx
    rw[g11]at Df
    obtain rfl:=VG Df;exact⟨_,xi b0 YG,he0,YG⟩
   ·exact⟨w,by rw[Pv b0 hx];exact Df,Fv,hw3⟩) (λx v h=>by
   obtain⟨_,rfl,h8⟩:=hcI x v h;rw[he]at h8
   obtain rfl:=VG h8;exact⟨_,xi b0 YG,he0,Wp _⟩)
  refine ep.cond (λh=>ep.ret (ZjJ (.inl (YA h)))) λh1=>ep.cond (λh=>ep.ret (ZjJ (.inr (YA h)))) λh2=>ep.ret (go _ hlen (λx v h=>h) λx v h=>?_)
  obtain⟨_,rfl,h8⟩:=hcI x v h;rw[he]at h8
  obtain rfl:=VG h8;have h1:=YB h1;have h2:=YB h2;exact⟨v11,g11,YG,YG⟩
theorem Ak(hn:ba n=ZA ZC){l:List aj}(hl:l.length<=1048576){ah:List aw}(hc:ah.length<=1048576)(ab f aO:Int)(k:Nat):
 (∀x v,aA (bW n l ah ab f aO k) x=ZA v->0<=v->vI (bW n l ah ab f aO (k+1)) x v)/\∀x v,AO n l ah ab f (bW n l ah ab f aO k) x v->vI (bW n l ah ab f aO (k+1)) x v:=by
 obtain⟨r,e,h⟩:=Zgc hf hn hl hc ab (ot hf hl hc ab f aO k) f;have h1:=(vB hf hl hc ab f aO k).1;rw[e]at h1
 obtain rfl:=VG h1;exact h
end
section
variable {n:ak} (hf:cR n)
include hf
omit hf in
theorem ZhI{l:List ByteArray}(hp:0<=bd l p):ZE (bd l p=bd l q)=ZE (p=q):=by
 by_cases h:p=q
 ·simp_all
 ·rw[Yz h]
  refine Yz λhe=>h ?_
  have h1:=rI hp;have h2:=rI (l:=l) (p:=q) YG
  simp_all
def Zdc(n:ak)(l:List aj)(ah:List aw)(ab f:Int)(r:List Int)(x v:Int)(t:aw):Prop:=
 ∃(i:Nat) (y:bM) (d u z:Int),t=⟨(i:Int),d⟩/\n.aB[i]?=ZA y/\bd (ao n) y.aX=x/\aA r (bd (ao n) y.ar)=ZA u/\¬u<0/\da n u (ZE (bd (ao n) y.ar=f))=ZA z/\cC n l ah (i:Int) z ab=ZA d/\¬d<0/\bp n ⟨(i:Int),d⟩=ZA v
theorem Lk{l:List aj}(hl:l.length<=1048576){ah:List aw}(hc:ah.length<=1048576)(ab:Int){ar:ByteArray}(hb:before.length=(ao n).length){x:Int}(Dg:x=bd (ao n) q0)(hx:0<=x/\x<(ao n).length)(e:Int){i:Nat}(hi:i<n.aB.length):
 (jc n l ah ab (ao n) before (bd (ao n) ar) x e (i:Int)=ZA (.inl ((i+1:Nat):Int))/\ff n n ah l ab (ao n) before ar x e (i:Int)=ZA (.inl ((i+1:Nat):Int))/\¬KE n l ah ab (bd (ao n) ar) before i x e)\/
 ∃t,jc n l ah ab (ao n) before (bd (ao n) ar) x e (i:Int)=ZA (.inr (.inr t))/\ff n n ah l ab (ao n) before ar x e (i:Int)=ZA (.inr (.inr (t,ZC)))/\Zdc n l ah ab (bd (ao n) ar) before x e t:=by
 have AY:=hf.aB;have hw:aH ((i:Int)+1)=((i+1:Nat):Int):=by rw[aL YG];omega
 obtain⟨y,hy,hm⟩:=nQ (xs:=n.aB) (i:=(i:Int)) ⟨YG,YG⟩;have hyi:n.aB[i]?=ZA y:=by rw[aQ]at hy;omega
 obtain⟨m1,m2⟩:=ui hm;have a0:=nP m1;have a1:=(mP (ao n) y.ar).2;obtain⟨v6,g6,_⟩:=nQ (xs:=before) (i:=bd (ao n) y.ar) ⟨a0,YG⟩;obtain⟨p,gp,_⟩:=nQ (xs:=ao n) (i:=x) hx;obtain⟨z,ez,_⟩:=AI (n:=n) v6 (ZE (bd (ao n) y.ar=bd (ao n) ar));obtain⟨d,ed,ef⟩:=Vg hf hl hc hy z ab;obtain⟨v,hv⟩:=qv (n:=n) (t:=⟨(i:Int),d⟩) hy;have hpa:∀p,bU (ao n) p=ZA (bd (ao n) p):=λp=>by rw[oc];exact qL hf p
 have ez':kN n v6 (ZE (y.ar=ar))=ZA z:=by rw[QU,<-ZhI (l:=ao n) a0];omega
 have Bt:∀{P:Prop},(∀y' d' u z',n.aB[i]?=ZA y'->bd (ao n) y'.aX=x->aA before (bd (ao n) y'.ar)=ZA u->¬u<0->da n u (ZE (bd (ao n) y'.ar=bd (ao n) ar))=ZA z'->cC n l ah (i:Int) z' ab=ZA d'->¬d'<0->bp n ⟨(i:Int),d'⟩=ZA e->y'=y->u=v6->z'=z->d'=d->False)->¬KE n l ah ab (bd (ao n) ar) before i x e:=by
  rintro _ H ⟨y',d',u,z',c1,c2,c3,c4,c5,c6,c7,c8⟩
  simp_all
 have S:jc n l ah ab (ao n) before (bd (ao n) ar) x e (i:Int)=cond (!decide (y.aX=p)) (ZA (.inl ((i+1:Nat):Int))) (cond (ZE (v6<0)) (ZA (.inl ((i+1:Nat):Int))) (cond (ZE (0<=d)) (cond (ZE (v=e)) (ZA (.inr (.inr ⟨(i:Int),d⟩))) (ZA (.inl ((i+1:Nat):Int)))) (ZA (.inl ((i+1:Nat):Int))))):=by
  unfold jc;simp only[Yp (show(i:Int)<n.aB.length by omega),YC,hy,VE,qL hf,gp,g6,ez,ed,hv,hw]
 have T:ff n n ah l ab (ao n) before ar x e (i:Int)=cond (!decide (y.aX=p)) (ZA (.inl ((i+1:Nat):Int))) (cond (ZE (v6<0)) (ZA (.inl ((i+1:Nat):Int))) (cond (ZE (0<=d)) (cond (ZE (v=e)) (ZA (.inr (.inr (⟨(i:Int),d⟩,ZC)))) (ZA (.inl ((i+1:Nat):Int)))) (ZA (.inl ((i+1:Nat):Int))))):=by
  unfold ff;simp only[Yp (show(i:Int)<n.aB.length by omega),YC,hy,VE,hpa,gp,g6,ez',ef,hw,vh]
  grind
 rw[S,T]
 by_cases h1:y.aX=p
 ·by_cases h2:v6<0
  ·refine .inl ⟨by simp_all,by simp_all,Bt (P:=True) λy' d' u z' c1 c2 c3 c4 c5 c6 c7 c8 q1 q2 q3 q4=>c4 YG⟩
  ·by_cases h3:0<=d
   ·by_cases h4:v=e
    ·refine .inr ⟨⟨(i:Int),d⟩,by grind,by grind,i,y,d,v6,z,rfl,hyi,?_,g6,h2,ez,ed,YG,by simp_all⟩
     have g:=rI (l:=ao n) (p:=q0) YG
     simp_all
    ·refine .inl ⟨by simp_all,by simp_all,Bt (P:=True) λy' d' u z' c1 c2 c3 c4 c5 c6 c7 c8 q1 q2 q3 q4=>h4 Y9⟩
   ·refine .inl ⟨by grind,by grind,Bt (P:=True) λy' d' u z' c1 c2 c3 c4 c5 c6 c7 c8 q1 q2 q3 q4=>c7 YG⟩
 ·refine .inl ⟨by simp[h1],by simp[h1],Bt (P:=True) λy' d' u z' c1 c2 c3 c4 c5 c6 c7 c8 q1 q2 q3 q4=>h1 ?_⟩
  rw[q1]at c2
  have g:=rI (nP m2);rw[c2,gp]at g
  exact(VG g).symm
theorem Lj{l:List aj}(hl:l.length<=1048576){ah:List aw}(hc:ah.length<=1048576)(ab:Int){ar:ByteArray}(hb:before.length=(ao n).length){x:Int}(Dg:x=bd (ao n) q0)(hx:0<=x/\x<(ao n).length)(e:Int)(Og:AO n l ah ab (bd (ao n) ar) before x e):
 ∃t,ry n l ah ab (ao n) before (bd (ao n) ar) x e=ZA t/\kW n n ah l ab (ao n) before ar x e=ZA (t,ZC)/\Zdc n l ah ab (bd (ao n) ar) before x e t:=by
 have AY:=hf.aB;obtain⟨i0,hci⟩:=Og;have hi0:i0<n.aB.length:=by grind
 have key:∀(d i:Nat),i+d=i0->∀N,d<N->∃t,aD (jc n l ah ab (ao n) before (bd (ao n) ar) x e) N (i:Int)=ZA (.inr t)/\aD (ff n n ah l ab (ao n) before ar x e) N (i:Int)=ZA (.inr (t,ZC))/\Zdc n l ah ab (bd (ao n) ar) before x e t:=by
  intro d
  induction d with
  |zero=>
   intro i hi N hN;obtain⟨N,rfl⟩:∃M,N=M+1:=⟨N-1,YG⟩
   rcases Lk hf hl hc ab hb Dg hx e (ar:=ar) (i:=i) YG with⟨_,_,h⟩ |⟨t,h1,h2,h3⟩
   ·exact absurd ((show i=i0 by omega)▸hci) h
   ·exact⟨t,by unfold aD;simp_all,by unfold aD;simp_all,h3⟩
  |succ d ih=>
   intro i hi N hN;obtain⟨N,rfl⟩:∃M,N=M+1:=⟨N-1,YG⟩
   rcases Lk hf hl hc ab hb Dg hx e (ar:=ar) (i:=i) YG with⟨h1,h2,_⟩ |⟨t,h1,h2,h3⟩
   ·obtain⟨t,q1,q2,q3⟩:=ih (i+1) YG N YG
    exact⟨t,by unfold aD;simp_all,by unfold aD;simp_all,q3⟩
   ·exact⟨t,by unfold aD;simp_all,by unfold aD;simp_all,h3⟩
 obtain⟨t,h1,h2,h3⟩:=key i0 0 YG NN YI;have e0:((0:Nat):Int)=0:=rfl;rw[e0]at h1 h2
 exact⟨t,by unfold ry;simp_all,by unfold kW;simp_all,h3⟩
omit hf in
theorem Zf9{o:List aw}(h:o.length<=1048576):aD (jX o) NN ((aH ((o.length:Int)-1)),([]:List aw))=ZA o.reverse:=by
 have key:∀(m:Nat),m<=o.length->∀N,m<N->aD (jX o) N ((m:Int)-1,(o.drop m).reverse)=ZA o.reverse:=by
  intro m
  induction m with
  |zero=>
   intro hm N hN;obtain⟨N,rfl⟩:∃M,N=M+1:=⟨N-1,YG⟩;rfl
  |succ m ih=>
   intro hm N hN;obtain⟨N,rfl⟩:∃M,N=M+1:=⟨N-1,YG⟩;have hg:aA o (((m+1:Nat):Int)-1)=ZA o[m]:=by
    rw[show((m+1:Nat):Int)-1=(m:Int)by omega,aQ];simp
   have hw:aH (((m+1:Nat):Int)-1-1)=(m:Int)-1:=by rw[aL YG];omega
   have ha:dg (bB ((o.drop (m+1)).reverse.length+([o[m]]:List aw).length) 16)=ZA ():=eK YN YG;have hd:o.drop m=o[m]::o.drop (m+1):=List.drop_eq_getElem_cons YG;have q:=ih YG N YG;rw[hd,List.reverse_cons]at q
   unfold aD;unfold jX;simp only[Yp (show(0:Int)<=((m+1:Nat):Int)-1 by omega),YC,hg,VE,ha,hw]
   exact q
 have:=key o.length (VJ _) NN YI;rw[List.drop_length]at this
 rw[aL YG]
 grind
def Mc(n:ak)(l:List aj)(ah:List aw)(ab f aO:Int):List (List Int):=(Wq ((ao n).length+1)).map (bW n l ah ab f aO)
omit hf in
theorem Cw{l:List aj}{ah:List aw}{ab f aO:Int}(hk:k<=(ao n).length):aA (Mc n l ah ab f aO) (k:Int)=ZA (bW n l ah ab f aO k):=by
 rw[aQ];unfold Mc
 grind
theorem ZaX(hn:ba n=ZA ZC){l:List aj}(hl:l.length<=1048576){ah:List aw}(hc:ah.length<=1048576)(ab:Int){ar:ByteArray}(aO:Int)
 (hC:cb n l=ZC/\0<=bd (ao n) ar/\aO<=100000/\1<=ab):
 ∀(k:Nat) (q0:ByteArray) (x e:Int) (back:List aw),x=bd (ao n) q0->0<=x->aA (bW n l ah ab (bd (ao n) ar) aO k) x=ZA e->0<=e->(k=0\/¬aA (bW n l ah ab (bd (ao n) ar) aO (k-1)) x=ZA e)->back.length+k<=(ao n).length->∀N,k<N->
  ∃OE,aD (ft n l ah ar aO ab (ao n) (bd (ao n) ar)) N (x,e,(k:Int),back.reverse)=ZA OE.reverse/\aD (jW n n ah l ab ar (ao n) (Mc n l ah ab (bd (ao n) ar) aO)) N (x,e,(k:Int),back)=ZA (.inl OE)/\OE.length<=(ao n).length:=by
 have hlg:=uL hn;have hp:(ao n).length<=40:=by have:=e9 n;omega
 intro k
 induction k with
 |zero=>
  intro q0 x e back Dg hx hg he ZeM hlen N hN;obtain⟨N,rfl⟩:∃M,N=M+1:=⟨N-1,YG⟩;refine⟨back,?_,?_,YG⟩
  all_goals rfl
 |succ k ih=>
  intro q0 x e back Dg hx hg he ZeM hlen N hN;obtain⟨N,rfl⟩:∃M,N=M+1:=⟨N-1,YG⟩;have CX:=ot hf hl hc ab (bd (ao n) ar) aO;have hnx:¬aA (bW n l ah ab (bd (ao n) ar) aO k) x=ZA e:=by
   simp_all
  have Og:AO n l ah ab (bd (ao n) ar) (bW n l ah ab (bd (ao n) ar) aO k) x e:=by
   rcases(vB hf hl hc ab (bd (ao n) ar) aO k).2 x e hg with h|h
   all_goals simp_all
  have hxl:x<(ao n).length:=by rw[Dg];exact(mP (ao n) q0).2
  obtain⟨t,hs,hi,i,y,d,u,z,rfl,c1,c2,c3,c4,c5,c6,c7,c8⟩:=Lj hf hl hc ab (CX k) Dg ⟨hx,hxl⟩ e Og;have hfb:=sn hf hl hc ab aO hC (k:=k) YG;have hw:aH (((k+1:Nat):Int)-1)=(k:Int):=by rw[aL YG];omega
  have hy:aA n.aB (i:Int)=ZA y:=by rw[aQ];omega
  have ha1:dg (bB (([⟨(i:Int),d⟩]:List aw).length+back.reverse.length) 16)=ZA ():=eK YN YG;have ha2:dg (bB (back.length+([⟨(i:Int),d⟩]:List aw).length) 16)=ZA ():=eK YN YG;have J3:=Cw (n:=n) (l:=l) (ah:=ah) (ab:=ab) (f:=bd (ao n) ar) (aO:=aO) (k:=k) YG;have hpa:bU (ao n) y.ar=ZA (bd (ao n) y.ar):=by rw[oc];exact qL hf _
  have a0:=nP (ui (VI c1)).1;obtain⟨OE,q1,q2,q3⟩:=ih y.ar (bd (ao n) y.ar) u (back++[⟨(i:Int),d⟩]) rfl a0 c3 YG (by
   by_cases GU:k=0
   ·omega
   ·refine .inr λhu=>hnx ?_
    obtain⟨k',rfl⟩:∃k',k=k'+1:=⟨k-1,YG⟩;have uQ:=(Ak hf hn hl hc ab (bd (ao n) ar) aO k').2 x e ⟨i,y,d,u,z,c1,c2,hu,c4,c5,c6,c7,c8⟩;obtain⟨w,w1,w2,w3⟩:=uQ;obtain⟨w',v1,v2,v3⟩:=(Ak hf hn hl hc ab (bd (ao n) ar) aO (k'+1)).1 x w w1 w2
    grind) (by simp only[VV,VL,VO];omega) N YG
  refine⟨OE,?_,?_,q3⟩
  ·have hb:ft n l ah ar aO ab (ao n) (bd (ao n) ar) (x,e,((k+1:Nat):Int),back.reverse)=ZA (.inl (bd (ao n) y.ar,u,(k:Int),[⟨(i:Int),d⟩]++back.reverse)):=by
    unfold ft;simp only[Yp (show(0:Int)<((k+1:Nat):Int)by omega),YC,hw,hfb,VE,hs,ha1,hy,qL hf,c3]
   rw[List.reverse_append,List.reverse_singleton]at q1
   unfold aD
   simp_all
  ·have hb:jW n n ah l ab ar (ao n) (Mc n l ah ab (bd (ao n) ar) aO) (x,e,((k+1:Nat):Int),back)=ZA (.inl (bd (ao n) y.ar,u,(k:Int),back++[⟨(i:Int),d⟩])):=by
    unfold jW;simp only[Yp (show(0:Int)<((k+1:Nat):Int)by omega),YC,hw,J3,VE,hi,VK,YD,ha2,hy,hpa,c3]
   unfold aD;rw[hb];exact q2
theorem Iz{l:List aj}(hl:l.length<=1048576){ah:List aw}(hc:ah.length<=1048576)(ab:Int){ar:ByteArray}(aO:Int)(hp:(ao n).length<=40)
 (hC:cb n l=ZC/\0<=bd (ao n) ar/\aO<=100000/\1<=ab) {x e:Int} (hx:0<=x/\x<(ao n).length) (hg:aA (bW n l ah ab (bd (ao n) ar) aO (ao n).length) x=ZA e):
 ∃k:Nat,k<=(ao n).length/\aA (bW n l ah ab (bd (ao n) ar) aO k) x=ZA e/\(k=0\/¬aA (bW n l ah ab (bd (ao n) ar) aO (k-1)) x=ZA e)/\
  aD (fr n l ah ar aO ab (ao n) (bd (ao n) ar) x e) NN 0=ZA (k:Int)/\aD (eZ n n ah l ab ar (ao n) x (Mc n l ah ab (bd (ao n) ar) aO) e) NN 0=ZA (k:Int):=by
 have CX:=ot hf hl hc ab (bd (ao n) ar) aO;have key:∀(dd i:Nat),i+dd=(ao n).length->(i=0\/¬aA (bW n l ah ab (bd (ao n) ar) aO (i-1)) x=ZA e)->∀N,dd<N->
  ∃k:Nat,k<=(ao n).length/\aA (bW n l ah ab (bd (ao n) ar) aO k) x=ZA e/\(k=0\/¬aA (bW n l ah ab (bd (ao n) ar) aO (k-1)) x=ZA e)/\
  aD (fr n l ah ar aO ab (ao n) (bd (ao n) ar) x e) N (i:Int)=ZA (k:Int)/\aD (eZ n n ah l ab ar (ao n) x (Mc n l ah ab (bd (ao n) ar) aO) e) N (i:Int)=ZA (k:Int):=by
  intro dd
  induction dd with
  |zero=>
   intro i hi h0 N hN;obtain⟨N,rfl⟩:∃M,N=M+1:=⟨N-1,YG⟩;obtain rfl:i=(ao n).length:=YG;refine⟨(ao n).length,VJ _,hg,h0,?_,?_⟩
   ·unfold aD fr
    simp only[sn hf hl hc ab aO hC (VJ _),VE,hg,decide_true,VK,YD]
   ·unfold aD eZ
    simp only[Cw (VJ _),VE,hg,decide_true,VK,YD]
  |succ dd ih=>
   intro i hi h0 N hN;obtain⟨N,rfl⟩:∃M,N=M+1:=⟨N-1,YG⟩;have hw:aH ((i:Int)+1)=((i+1:Nat):Int):=by rw[aL YG];omega
   obtain⟨v,hv,_⟩:=nQ (xs:=bW n l ah ab (bd (ao n) ar) aO i) (i:=x) ⟨hx.1,by simp_all⟩
   by_cases hve:v=e
   ·subst hve
    refine⟨i,YG,hv,h0,?_,?_⟩
    ·unfold aD fr
     simp only[sn hf hl hc ab aO hC (show i<=(ao n).length by omega),VE,hv,decide_true,VK,YD]
    ·unfold aD eZ
     simp only[Cw (show i<=(ao n).length by omega),VE,hv,decide_true,VK,YD]
   ·obtain⟨k,q1,q2,q3,q4,q5⟩:=ih (i+1) YG (.inr Y9) N YG
    refine⟨k,q1,q2,q3,?_,?_⟩
    ·have hb:fr n l ah ar aO ab (ao n) (bd (ao n) ar) x e (i:Int)=ZA (.inl ((i+1:Nat):Int)):=by
      unfold fr;simp only[sn hf hl hc ab aO hC (show i<=(ao n).length by omega),VE,hv,Yz hve,Wl,YC,hw]
     unfold aD
     simp_all
    ·have hb:eZ n n ah l ab ar (ao n) x (Mc n l ah ab (bd (ao n) ar) aO) e (i:Int)=ZA (.inl ((i+1:Nat):Int)):=by
      unfold eZ;simp only[Cw (show i<=(ao n).length by omega),VE,hv,Yz hve,Wl,YC,hw]
     unfold aD
     simp_all
 obtain⟨k,q1,q2,q3,q4,q5⟩:=key (ao n).length 0 YG (.inl rfl) NN YI
 grind
theorem OC{l:List aj}{ah:List aw}(ab:Int){ar:ByteArray}{aO:Int}(h:bd (ao n) ar<0\/100000<aO)(aB:Int):dR n n ah l ab ar aO aB=ZA []:=by
 unfold dR;rw[oc,(dF hf).1,(dF hf).2];simp only[VE,qL hf]
 grind
theorem ug{l:List aj}(hl:l.length<=1048576){ah:List aw}(hc:ah.length<=1048576)(ar aX:ByteArray)(aO ab:Int):
 ∃r,iw n l ah ar aX aO ab=ZA r/\bN n l ah ar aX aO ab=ZA r:=by
 have ZqJ:=TO hf;have hpa:∀p,bU (ao n) p=ZA (bd (ao n) p):=λp=>by rw[oc];exact qL hf p
 unfold iw bN uj qF;rw[zt hf hl,(dF hf).1,(dF hf).2];simp only[VE,qL hf,hpa]
 by_cases hB:cb n l=ZC
 case neg=>
  have hB:cb n l=false:=by simp_all
  have e:cX n l ah ar aO ab ((ao n).length:Int)=ZA []:=by
   unfold cX;rw[(dF hf).2];simp only[VE,qL hf,iB hf hl,hB,Wl,YC]
  simp_all
 have hn:=(dy hB).1;have hlg:=uL hn;have hp:(ao n).length<=40:=by have:=e9 n;omega
 simp only[hB,VK,YD]
 by_cases Df:ab<1
 ·have e:cX n l ah ar aO ab ((ao n).length:Int)=ZA []:=by
   unfold cX;rw[(dF hf).2];simp only[VE,qL hf,iB hf hl,hB,VK,YD,Yp Df,YC];simp
  simp_all
 simp only[Yz Df,YD]
 by_cases hA:bd (ao n) ar<0\/100000<aO
 ·have e:cX n l ah ar aO ab ((ao n).length:Int)=ZA []:=by
   unfold cX;rw[(dF hf).2];simp only[VE,qL hf,iB hf hl,hB,VK,YD]
   grind
  have e0:aD (dD n n ah l ab ar aO (ao n) (bd (ao n) aX)) NN (0,([]:List (List Int)))=ZA (.inr ([],ZD)):=by
   obtain⟨N,hN⟩:∃N,NN=N+1:=⟨NN-1,by rfl⟩
   rw[hN];unfold aD dD;simp only[Yp (show(0:Int)<=((ao n).length:Int)by omega),YC,OC hf ab hA,VE,VO]
   rfl
  simp_all
 have hC:cb n l=ZC/\0<=bd (ao n) ar/\aO<=100000/\1<=ab:=⟨hB,YG,YG,YG⟩;have CX:=ot hf hl hc ab (bd (ao n) ar) aO;have SP:=(mP (ao n) ar).2;have hav:=fun(k:Nat) (hk:k<=(ao n).length)=>HH hf hl hc ab hC.2.1 hC.2.2.1 YG k YG
 by_cases ht:bd (ao n) aX<0
 ·have e0:aD (dD n n ah l ab ar aO (ao n) (bd (ao n) aX)) NN (0,([]:List (List Int)))=ZA (.inr ([],ZD)):=by
   obtain⟨N,hN⟩:∃N,NN=N+1:=⟨NN-1,by rfl⟩
   rw[hN];have h0:=hav 0 YG;rw[show((0:Nat):Int)=0 from rfl]at h0
   unfold aD dD
   simp_all
  have hfb:=sn hf hl hc ab aO hC (k:=(ao n).length) (VJ _)
  simp_all
 have e0:aD (dD n n ah l ab ar aO (ao n) (bd (ao n) aX)) NN (0,([]:List (List Int)))=ZA (.inl (Mc n l ah ab (bd (ao n) ar) aO)):=by
  refine oz (body:=dD n n ah l ab ar aO (ao n) (bd (ao n) aX)) (λi:Nat=>((i:Int),(Wq i).map (bW n l ah ab (bd (ao n) ar) aO))) (n:=(ao n).length+1) (o:=.inl (Mc n l ah ab (bd (ao n) ar) aO)) (λi hi=>?_) ?_ NN YI
  ·have hw:aH ((i:Int)+1)=((i+1:Nat):Int):=by rw[aL YG];omega
   have ha:dg (bB (((Wq i).map (bW n l ah ab (bd (ao n) ar) aO)).length+([bW n l ah ab (bd (ao n) ar) aO i]:List (List Int)).length) 24)=ZA ():=eK YN YG;unfold dD;simp only[Yp (show(i:Int)<=((ao n).length:Int)by omega),YC,hav i YG,VE,Yz (show ¬(((bW n l ah ab (bd (ao n) ar) aO i).length:Int)=0)by grind),YD,Yz ht,vD,ha,hw,List.range_succ,Yo,Wh,List.map_nil]
  ·unfold dD
   simp only[Yz (show ¬(((ao n).length+1:Nat):Int)<=((ao n).length:Int)by omega),YD]
   rfl
 have htl:=(mP (ao n) aX).2;obtain⟨ec,ZhC,_⟩:=nQ (xs:=bW n l ah ab (bd (ao n) ar) aO (ao n).length) (i:=bd (ao n) aX) ⟨YG,by simp_all⟩
 rw[e0];simp only[VE,bm,Cw (VJ _),ZhC,sn hf hl hc ab aO hC (VJ _),Yz ht,YD,Yz (show ¬(((bW n l ah ab (bd (ao n) ar) aO (ao n).length).length:Int)=0)by grind)]
 by_cases hd:ec<0
 ·simp_all
 simp only[Yz hd,YD];obtain⟨k,q1,q2,q3,q4,q5⟩:=Iz hf hl hc ab aO hp hC ⟨YG,htl⟩ ZhC;obtain⟨back,b1,b2,b3⟩:=ZaX hf hn hl hc ab aO hC k aX (bd (ao n) aX) ec [] rfl YG q2 YG q3 Y9 NN YI;rw[List.reverse_nil]at b1
 refine⟨(back.reverse,ZC),?_,?_⟩
 ·simp only[q5,VE,b2,bm,Zf9 (show back.length<=1048576 by omega)]
 simp_all
end
inductive Hq(n:ak)(l:List aj)(ah:List aw)(ab:Int)(ar:ByteArray)(aO:Int):Nat->ByteArray->Int->List aw->Prop
 |nil {q:ByteArray} {e:Int} (h0:0<=bd (ao n) q) (hg:aA (bW n l ah ab (bd (ao n) ar) aO 0) (bd (ao n) q)=ZA e) (he:0<=e):Hq n l ah ab ar aO 0 q e []
 |snoc {k:Nat} {y:bM} {u z d e:Int} {i:Nat} {aK:List aw} (hp:Hq n l ah ab ar aO k y.ar u aK) (c1:n.aB[i]?=ZA y)
  (hg:aA (bW n l ah ab (bd (ao n) ar) aO (k+1)) (bd (ao n) y.aX)=ZA e)
  (c5:da n u (ZE (bd (ao n) y.ar=bd (ao n) ar))=ZA z) (c6:cC n l ah (i:Int) z ab=ZA d) (c7:¬d<0) (c8:bp n ⟨(i:Int),d⟩=ZA e):Hq n l ah ab ar aO (k+1) y.aX e (aK++[⟨(i:Int),d⟩])
section
variable {n:ak} (hf:cR n)
include hf
theorem Ziu(hn:ba n=ZA ZC){l:List aj}(hl:l.length<=1048576){ah:List aw}(hc:ah.length<=1048576)(ab:Int){ar:ByteArray}(aO:Int)
 (hC:cb n l=ZC/\0<=bd (ao n) ar/\aO<=100000/\1<=ab):
 ∀(k:Nat) (q0:ByteArray) (e:Int) (tail:List aw),0<=bd (ao n) q0->aA (bW n l ah ab (bd (ao n) ar) aO k) (bd (ao n) q0)=ZA e->0<=e->(k=0\/¬aA (bW n l ah ab (bd (ao n) ar) aO (k-1)) (bd (ao n) q0)=ZA e)->tail.length+k<=(ao n).length->∀N,k<N->
  ∃aK,aD (ft n l ah ar aO ab (ao n) (bd (ao n) ar)) N (bd (ao n) q0,e,(k:Int),tail)=ZA (aK++tail)/\Hq n l ah ab ar aO k q0 e aK:=by
 have hlg:=uL hn;have hp:(ao n).length<=40:=by have:=e9 n;omega
 intro k
 induction k with
 |zero=>
  intro q0 e tail hx hg he ZeM hlen N hN;obtain⟨N,rfl⟩:∃M,N=M+1:=⟨N-1,YG⟩;exact⟨[],by rfl,.nil hx hg he⟩
 |succ k ih=>
  intro q0 e tail hx hg he ZeM hlen N hN;obtain⟨N,rfl⟩:∃M,N=M+1:=⟨N-1,YG⟩;have CX:=ot hf hl hc ab (bd (ao n) ar) aO;have hnx:¬aA (bW n l ah ab (bd (ao n) ar) aO k) (bd (ao n) q0)=ZA e:=by
   simp_all
  have Og:AO n l ah ab (bd (ao n) ar) (bW n l ah ab (bd (ao n) ar) aO k) (bd (ao n) q0) e:=by
   rcases(vB hf hl hc ab (bd (ao n) ar) aO k).2 _ e hg with h|h
   all_goals simp_all
  have hxl:=(mP (ao n) q0).2;obtain⟨t,hs,hi,i,y,d,u,z,rfl,c1,c2,c3,c4,c5,c6,c7,c8⟩:=Lj hf hl hc ab (CX k) (q0:=q0) rfl ⟨hx,hxl⟩ e Og;have hfb:=sn hf hl hc ab aO hC (k:=k) YG;have hw:aH (((k+1:Nat):Int)-1)=(k:Int):=by rw[aL YG];omega
  have hy:aA n.aB (i:Int)=ZA y:=by rw[aQ];omega
  have ha1:dg (bB (([⟨(i:Int),d⟩]:List aw).length+tail.length) 16)=ZA ():=eK YN YG;obtain⟨m1,m2⟩:=ui (VI c1);have a0:=nP m1;obtain⟨aK,q1,q2⟩:=ih y.ar u ([⟨(i:Int),d⟩]++tail) a0 c3 YG (by
   by_cases GU:k=0
   ·omega
   ·refine .inr λhu=>hnx ?_
    obtain⟨k',rfl⟩:∃k',k=k'+1:=⟨k-1,YG⟩;have uQ:=(Ak hf hn hl hc ab (bd (ao n) ar) aO k').2 _ e ⟨i,y,d,u,z,c1,c2,hu,c4,c5,c6,c7,c8⟩;obtain⟨w,w1,w2,w3⟩:=uQ;obtain⟨w',v1,v2,v3⟩:=(Ak hf hn hl hc ab (bd (ao n) ar) aO (k'+1)).1 _ w w1 w2
    grind) YN N YG
  have hq:y.aX=q0:=by
   have g1:=rI (nP m2);have g2:=rI hx
   simp_all
  refine⟨aK++[⟨(i:Int),d⟩],?_,?_⟩
  ·have hb:ft n l ah ar aO ab (ao n) (bd (ao n) ar) (bd (ao n) q0,e,((k+1:Nat):Int),tail)=ZA (.inl (bd (ao n) y.ar,u,(k:Int),[⟨(i:Int),d⟩]++tail)):=by
    unfold ft;simp only[Yp (show(0:Int)<((k+1:Nat):Int)by omega),YC,hw,hfb,VE,hs,ha1,hy,qL hf,c3]
   unfold aD
   simp_all
  ·subst hq
   exact .snoc q2 c1 hg c5 c6 c7 c8
omit hf in
theorem Ik{t:aw}(ht:fw n t=ZC):∀(aK:List aw) (p:ByteArray) (a:Int),iM n p a aK->(aK=[]->mB n t=p/\a<=cE n t)->(∀t',aK.getLast?=ZA t'->mB n t=cd n t'/\dm n t'+n.change<=cE n t)->iM n p a (aK++[t])
 | [],p,a,_,h1,_=>⟨ht,(h1 rfl).1,(h1 rfl).2,trivial⟩
 |x::aK,p,a,hc,h1,h2=>by
  obtain⟨c1,c2,c3,c4⟩:=hc;refine⟨c1,c2,c3,Ik ht aK _ _ c4 (λhw=>?_) λt' h=>?_⟩
  all_goals grind
omit hf in
theorem EI:∀(m:Nat) (l:List Nat),l.Nodup->(∀x∈l,x<m)->l.length<=m
 |0,l,_,h=>by
  cases l with
  |nil=>simp
  |cons x xs=>have:=h x YJ;omega
 |m+1,l,hn,h=>by
  have h1:=EI m (l.erase m) (hn.erase m) λx hx=>by
   grind
  grind
section
variable (hn:ba n=ZA ZC) {l:List aj} (hl:l.length<=1048576) {ah:List aw} (hc:ah.length<=1048576) (ab:Int) {ar:ByteArray} (aO:Int) (Sb:0<=bd (ao n) ar) (Fq:aO<=100000)
include hn hl hc Sb Fq
omit Sb Fq in
theorem Al(f:Int){x u:Int}{j:Nat}(hg:aA (bW n l ah ab f aO j) x=ZA u)(h0:0<=u):∀d,vI (bW n l ah ab f aO (j+d)) x u
 |0=>⟨u,hg,h0,Wp _⟩
 |d+1=>by
  obtain⟨w,w1,w2,w3⟩:=Al f hg h0 d;obtain⟨w',v1,v2,v3⟩:=(Ak hf hn hl hc ab f aO (j+d)).1 x w w1 w2;exact⟨w',v1,v2,YG⟩
structure ZjT(n:ak)(l:List aj)(ah:List aw)(ab:Int)(ar:ByteArray)(aO:Int)(k:Nat)(q:ByteArray)(e:Int)(aK:List aw):Prop where
 time:0<=e/\e<=100000
 seen:∀p∈ar::aK.map (cd n),∃(j:Nat) (u:Int),j<=k/\aA (bW n l ah ab (bd (ao n) ar) aO j) (bd (ao n) p)=ZA u/\0<=u/\u<=e
 nodup:(ar::aK.map (cd n)).Nodup
 last:(ar::aK.map (cd n)).getLast?=ZA q
 chain:iM n ar (if 0 > aO then 0 else aO) aK
 ends:aK=[]/\e=(if 0 > aO then 0 else aO)\/∃t,aK.getLast?=ZA t/\dm n t=e
 found:∀t∈aK,dw ah t=ZA ZD/\∃y q,aA n.aB t.bG=ZA y/\df l t=ZA q/\ab<=aH (y.jl-q)
 idx:0<=bd (ao n) q
theorem Ziv{e:Int}{aK:List aw}(h:Hq n l ah ab ar aO k q e aK):ZjT n l ah ab ar aO k q e aK:=by
 have hlg:=uL hn;have hp:(ao n).length<=40:=by have:=e9 n;omega
 have bO:=(mP (ao n) ar).2
 induction h with
 |nil h0 hg he=>
  rename_i q e;have hb:bW n l ah ab (bd (ao n) ar) aO 0=(VW (ao n).length (-1:Int)).set (bd (ao n) ar).toNat (if 0 > aO then 0 else aO):=by
   unfold bW;rw[Mr hf YG _ ⟨Sb,bO⟩];rfl
  rw[hb]at hg
  have hq:bd (ao n) q=bd (ao n) ar/\e=(if 0 > aO then 0 else aO):=by
   rcases Pu Sb hg with⟨a,b⟩ |h
   ·omega
   ·exfalso
    obtain⟨_,h2⟩:=mO h
    grind
  have hqf:ar=q:=by
   have g1:=rI h0;have g2:=rI Sb
   simp_all
  subst hqf;have he2:=hq.2;refine⟨⟨he,YG⟩,λp hp=>?_,by simp,rfl,trivial,.inl ⟨rfl,he2⟩,λt ht=>by grind,Sb⟩
  simp_all
 |snoc hpt c1 hg c5 c6 c7 c8 ih=>
  rename_i k y u z d e i aK;have Zrt:aA n.aB (i:Int)=ZA y:=by rw[aQ];omega
  have hfo:Found n l ah z ab ⟨(i:Int),d⟩:=by
   rcases Qq hf c6 with h|h
   all_goals omega
  obtain⟨_,t2,t3,t4,t5⟩:=cT hf hn hfo.aV;have hee:dm n ⟨(i:Int),d⟩=e:=by simp_all
  have Sd:cd n ⟨(i:Int),d⟩=y.aX:=by unfold cd;simp_all
  have ZqI:mB n ⟨(i:Int),d⟩=y.ar:=by unfold mB;simp_all
  obtain⟨n0,n1⟩:=jJ hn;have hz:z=if bd (ao n) y.ar=bd (ao n) ar then u else u+n.change:=by
   unfold da at c5
   by_cases h:bd (ao n) y.ar=bd (ao n) ar
   ·simp_all
   ·rw[Yz h,YD,aL (by have:=ih.time;omega)]at c5;simp_all
  have hzu:u<=z:=YG;have xu:=hfo.start;have hue:u<e:=YG;obtain⟨m1,m2⟩:=ui (VI c1);have ZkM:∀p∈ar::aK.map (cd n),p≠y.aX:=λp hp heq=>by
   obtain⟨j,u',hj,hg',h0,hu⟩:=ih.seen p hp;rw[heq]at hg'
   obtain⟨w,w1,w2,w3⟩:=Al hf hn hl hc ab aO _ hg' h0 (k+1-j)
   grind
  have ZmY:ar::(aK++[(⟨(i:Int),d⟩:aw)]).map (cd n)=(ar::aK.map (cd n))++[y.aX]:=by
   simp_all
  refine⟨⟨YG,YG⟩,λp hp=>?_,?_,?_,?_,.inr ⟨_,List.getLast?_concat,hee⟩,λt ht=>?_,nP m2⟩
  ·rw[ZmY]at hp
   rcases WD.1 hp with hp|hp
   ·obtain⟨j,u',hj,hg',h0,hu⟩:=ih.seen p hp
    grind
   grind
  ·rw[ZmY,List.nodup_append]
   exact⟨ih.nodup,by simp,λa ha b hb=>by grind⟩
  ·grind
  ·refine Ik hfo.aV aK _ _ ih.chain (λhw=>?_) λt' Lb=>?_
   ·subst hw
    have hq:ar=y.ar:=by have:=ih.last;simp_all
    rcases ih.ends with⟨_,he⟩ |⟨t,ht,_⟩
    all_goals simp_all
   ·have ZeK:t'∈aK:=List.mem_of_getLast? Lb
    have uC:cd n t'=y.ar:=by
     have h1:=ih.last
     grind
    have dX:¬bd (ao n) y.ar=bd (ao n) ar:=λhe=>by
     have g1:=rI (nP m1);have g2:=rI Sb;rw[he,g2]at g1
     have hff:ar=y.ar:=VG g1;have hnd:=ih.nodup
     simp_all
    rw[if_neg dX]at hz
    rcases ih.ends with⟨hw,_⟩ |⟨t'',Zrz,Zrp⟩
    all_goals simp_all
  ·rcases WD.1 ht with ht|ht
   ·exact ih.found t ht
   ·obtain rfl:=List.mem_singleton.1 ht
    exact⟨hfo.open_,hfo.jl⟩
end
end
theorem I8(t:aw):df [] t=ZA 0:=by
 unfold df;obtain⟨N,hN⟩:∃N,NN=N+1:=⟨NN-1,by unfold NN;omega⟩
 rw[hN];unfold aD dh;rfl
section
variable {n:ak} (hf:cR n) (hn:ba n=ZA ZC) (hr:∀l∈n.aB,1<=l.jl)
include hf hn hr
end
def uX(l:List aj)(t:aw):Int:=(l.map λb=>if b.aV=t then b.ab else 0).sum
theorem Qe{l:List aj}(hw:∀b∈l,1<=b.ab/\b.ab<=1000000)(t:aw):0<=uX l t/\uX l t<=1000000*l.length:=by
 induction l with
 |nil=>simp[uX]
 |cons x xs ih=>
  have hx:=hw x Wc;have:=ih λb hb=>hw b (V5 _ hb)
  unfold uX at this⊢
  rw[Wh,WB,VL]
  split<;>omega
theorem Zfh{l:List aj}(hl:l.length<=1000)(hw:∀b∈l,1<=b.ab/\b.ab<=1000000)(t:aw):df l t=ZA (uX l t):=by
 unfold df;have e:aD (dh l t) NN (0,0)=ZA (uX l t):=by
  have:=oz (body:=dh l t) (λi:Nat=>(uX (l.take i) t,(i:Int))) (n:=l.length) (o:=uX l t) (λi hi=>?_) ?_ NN YI
  ·simpa[uX]using this
  ·have ho:l[i]?=ZA l[i]:=VF hi
   have hg:aA l (i:Int)=ZA l[i]:=by rw[aQ];exact ho
   have Sf:aH ((i:Int)+1)=((i+1:Nat):Int):=bI hi YG;have hb:=Qe (l:=l.take i) (λb hb=>hw b (List.mem_of_mem_take hb)) t
   have hx:=hw _ (Wd hi);have hlen:(l.take i).length<=1000:=by rw[V3];omega
   unfold dh;have hs:uX (l.take (i+1)) t=uX (l.take i) t+(if l[i].aV=t then l[i].ab else 0):=by
    unfold uX;rw[<-yG ho,Yo,List.sum_append];simp
   simp only[Yp (show(i:Int)<l.length by omega),YC,hg,VE,Sf]
   rw[hs]
   by_cases ht:l[i].aV=t
   ·rw[Yp ht,if_pos ht,YC,aL YG]
   ·rw[Yz ht,if_neg ht,YD,Int.add_zero]
  ·unfold dh
   simp
 rw[e];rfl
def l7(o:ZI)(p:aM):Option (Int×ZI):=
 (gY o.aP o.aR p).bind λy1=>
 cond (!y1.2)
 (ZA (2,o))
 (cond (ZE (y1.1=0))
 (ZA (2,o))
 ((AX 8 []).bind λ_=>
 (fo o.world p.ar p.label.aX p.label.ax p.ab).bind λy2=>
 cond (!y2.2.2)
 (ZA (3,o))
 ((kZ o.lines y2.2.1 y1.1 y2.1.now).bind λy3=>
 cond (!decide (y3.2=0))
 (ZA (4,o))
 ((gy p).bind λy4=>
 (dg (bB ((o.aG:List aM).length+([y4]:List aM).length) 88)).bind λ_=>
 ZA (0,(⟨y2.1,o.aP,o.aR,o.aF,((o.aG:List aM)++[y4]),y3.1,o.aE⟩:ZI))))))
instance (o:ZI)(p:aM):CT prog (l7 o p):=⟨136,[.be 0 0 0,.ag (bq p)],[ZA ⟨.of 40,16,[[.sl (o.world.aa.aB.map br),.sl (o.world.aa.off.map aI),vi o.world.aa.change,.sl (o.world.ae.map aY),.sl (o.world.aq.map aC),.sl (o.world.ah.map aS),vi o.world.now,.sl (o.world.aJ.map bt),.sl (o.world.skip.map aI),vi o.world.aT,.ms 1,.ms 2,.ms 3,.ms 4,.ms 5,.ms 6]]⟩,ZA ⟨.of 104,2,o.aP.map b6⟩,ZA ⟨.of 107,4,o.aR.map b9⟩,ZA ⟨.of 3,1,o.aF.map aI⟩,ZA ⟨.of 44,7,o.aG.map bq⟩,ZA ⟨.of 111,4,o.lines.map bD⟩,ZA ⟨.of 48,13,o.aE.map ZK⟩],λr=>vi r.1,λr=>[ZA ⟨.of 40,16,[[.sl (r.2.world.aa.aB.map br),.sl (r.2.world.aa.off.map aI),vi r.2.world.aa.change,.sl (r.2.world.ae.map aY),.sl (r.2.world.aq.map aC),.sl (r.2.world.ah.map aS),vi r.2.world.now,.sl (r.2.world.aJ.map bt),.sl (r.2.world.skip.map aI),vi r.2.world.aT,.ms 1,.ms 2,.ms 3,.ms 7,.ms 8,.ms 6]]⟩,ZA ⟨.of 104,2,r.2.aP.map b6⟩,ZA ⟨.of 107,4,r.2.aR.map b9⟩,ZA ⟨.of 3,1,r.2.aF.map aI⟩,ZB,ZB,ZA ⟨.of 48,13,r.2.aE.map ZK⟩,ZA ⟨.of 44,7,r.2.aG.map bq⟩,ZA ⟨.of 111,4,r.2.lines.map bD⟩],cw (l7.eq_1 ..) func136 ntmps136 results136⟩
def lM(o:ZI)(a:ZJ):Option (Int×ZI):=
 cond (ZE (a.kind=1))
 ((nG [0,1,2,3,4,5,6]).bind λ_=>
 (l7 o a.av).bind λy1=>
 ZA (y1.1,y1.2))
 (cond (ZE (a.kind=2))
 (cond (ZE (a.kind=2))
 ((nG [0,1,2,3,4,5,6]).bind λ_=>
 (iV o a).bind λy2=>
 ZA (y2.1,y2.2))
 (cond (ZE (a.kind=3))
 (cond (ZE (a.bn<=o.world.now))
 (ZA (6,o))
 ((AX 8 []).bind λ_=>
 (fp o.world a.bn).bind λy3=>
 ZA (0,(⟨y3,o.aP,o.aR,o.aF,o.aG,o.lines,o.aE⟩:ZI))))
 (cond (ZE (a.kind=4))
 ((AX 8 []).bind λ_=>
 (eh o.world a.aV).bind λy4=>
 cond (!y4.2)
 (ZA (6,o))
 (ZA (0,(⟨y4.1,o.aP,o.aR,o.aF,o.aG,o.lines,o.aE⟩:ZI))))
 ((et o.world).bind λy5=>
 cond (ZE (y5.2=0))
 (ZA (6,o))
 (ZA (0,(⟨y5.1,o.aP,o.aR,o.aF,o.aG,o.lines,o.aE⟩:ZI)))))))
 (cond (ZE (a.kind=6))
 ((nG [0,1,2,3,4,5,6]).bind λ_=>
 (iV o a).bind λy6=>
 ZA (y6.1,y6.2))
 (cond (ZE (a.kind=3))
 (cond (ZE (a.bn<=o.world.now))
 (ZA (6,o))
 ((AX 8 []).bind λ_=>
 (fp o.world a.bn).bind λy7=>
 ZA (0,(⟨y7,o.aP,o.aR,o.aF,o.aG,o.lines,o.aE⟩:ZI))))
 (cond (ZE (a.kind=4))
 ((AX 8 []).bind λ_=>
 (eh o.world a.aV).bind λy8=>
 cond (!y8.2)
 (ZA (6,o))
 (ZA (0,(⟨y8.1,o.aP,o.aR,o.aF,o.aG,o.lines,o.aE⟩:ZI))))
 ((et o.world).bind λy9=>
 cond (ZE (y9.2=0))
 (ZA (6,o))
 (ZA (0,(⟨y9.1,o.aP,o.aR,o.aF,o.aG,o.lines,o.aE⟩:ZI))))))))
instance (o:ZI)(a:ZJ):CT prog (lM o a):=⟨53,[.be 0 0 0,.ag (ZK a)],[ZA ⟨.of 40,16,[[.sl (o.world.aa.aB.map br),.sl (o.world.aa.off.map aI),vi o.world.aa.change,.sl (o.world.ae.map aY),.sl (o.world.aq.map aC),.sl (o.world.ah.map aS),vi o.world.now,.sl (o.world.aJ.map bt),.sl (o.world.skip.map aI),vi o.world.aT,.ms 1,.ms 2,.ms 3,.ms 4,.ms 5,.ms 6]]⟩,ZA ⟨.of 104,2,o.aP.map b6⟩,ZA ⟨.of 107,4,o.aR.map b9⟩,ZA ⟨.of 3,1,o.aF.map aI⟩,ZA ⟨.of 44,7,o.aG.map bq⟩,ZA ⟨.of 111,4,o.lines.map bD⟩,ZA ⟨.of 48,13,o.aE.map ZK⟩],λr=>vi r.1,λr=>[ZA ⟨.of 40,16,[[.sl (r.2.world.aa.aB.map br),.sl (r.2.world.aa.off.map aI),vi r.2.world.aa.change,.sl (r.2.world.ae.map aY),.sl (r.2.world.aq.map aC),.sl (r.2.world.ah.map aS),vi r.2.world.now,.sl (r.2.world.aJ.map bt),.sl (r.2.world.skip.map aI),vi r.2.world.aT,.ms 1,.ms 2,.ms 3,.ms 7,.ms 8,.ms 6]]⟩,ZA ⟨.of 104,2,r.2.aP.map b6⟩,ZA ⟨.of 107,4,r.2.aR.map b9⟩,ZA ⟨.of 3,1,r.2.aF.map aI⟩,ZB,ZB,ZA ⟨.of 48,13,r.2.aE.map ZK⟩,ZA ⟨.of 44,7,r.2.aG.map bq⟩,ZA ⟨.of 111,4,r.2.lines.map bD⟩],cw (lM.eq_1 ..) func53 ntmps53 results53⟩
def ju(o:ZI)(a:ZJ):Option (ZI×Int):=
 (iS o).bind λy1=>
 (oM o).bind λy2=>
 cond (!y2)
 (ZA (y1,1))
 ((nW a).bind λy3=>
 cond (!y3)
 (ZA (y1,1))
 (cond (ZE (150<=(o.aE.length:Int)))
 (ZA (y1,5))
 ((nG [9,3,4,5,6,7,8]).bind λ_=>
 (lM y1 a).bind λy4=>
 cond (!decide (y4.1=0))
 ((iS o).bind λy5=>
 ZA (y5,y4.1))
 ((gy a.av).bind λy6=>
 (dg (bB ((y4.2.aE:List ZJ).length+([(⟨a.kind,y6,a.order,a.bh,a.bn,a.aV⟩:ZJ)]:List ZJ).length) 136)).bind λ_=>
 ZA ((⟨y4.2.world,y4.2.aP,y4.2.aR,y4.2.aF,y4.2.aG,y4.2.lines,((y4.2.aE:List ZJ)++[(⟨a.kind,y6,a.order,a.bh,a.bn,a.aV⟩:ZJ)])⟩:ZI),y4.1)))))
instance (o:ZI)(a:ZJ):CT prog (ju o a):=⟨12,[.ag (ZM o),.ag (ZK a)],[],λr=>.tu [.ag [.sl (r.1.world.aa.aB.map br),.sl (r.1.world.aa.off.map aI),vi r.1.world.aa.change,.sl (r.1.world.ae.map aY),.sl (r.1.world.aq.map aC),.sl (r.1.world.ah.map aS),vi r.1.world.now,.sl (r.1.world.aJ.map bt),.sl (r.1.world.skip.map aI),vi r.1.world.aT,.sl (r.1.aP.map b6),.sl (r.1.aR.map b9),.sl (r.1.aF.map aI),.ms 0,.sl (r.1.lines.map bD),.ms 1],vi r.2],λr=>[ZA ⟨.of 44,7,r.1.aG.map bq⟩,ZA ⟨.of 48,13,r.1.aE.map ZK⟩],cw (ju.eq_1 ..) func12 ntmps12 results12⟩
set_option maxRecDepth 100000
theorem ZoT{x:az}(h:wH x):nd x x=ZA true:=by
 have e0:mY x.aa x.aa=ZA true:=by
  have a0:=Zek x.aa.aB h.fv.aB (λy _=>by simp[qC])
  have a1:=CN x.aa.off h.fv.off;simp[mY,a0,a1]
 have e1:=SJ x.ae h.ae (λy hy=>by
  have:=KX y.aK (h.aK y hy) (λy _=>zn y)
  simp[mZ,this])
 have e2:=Mq x.aq h.aq (λy _=>Po y)
 have e3:=KX x.ah h.ah (λy _=>zn y)
 have e4:=ZbA x.aJ h.aJ (λy _=>by
  have:=zn y.aV;simp[oZ,this])
 have e5:=CN x.skip h.skip;simp[nd,e0,e1,e2,e3,e4,e5]
theorem Ni:∀(os:List ay) (k:Int),vn k os=k+10*(os.length:Int)+2*((os.map λo=>o.aK.length).sum:Nat)
 | [],k=>by simp[vn]
 |o::os,k=>by
  rw[vn,Ni os];simp only[VL,Wh,WB];omega
theorem Zfp{g:az}(h:wH g)(hs:(g.ae.map λo=>o.aK.length).sum<=31457280):KF g 1:=by
 have h1:=h.fv.aB;have h2:=h.fv.off;have h3:=h.ae;have h4:=h.aq;have h5:=h.ah;have h6:=h.aJ;have h7:=h.skip;refine⟨h1,h2,h3,h.aK,h4,h5,h6,h7,YG,?_⟩;unfold k6W k5W k4W k3W Tk;rw[Ni];unfold Li;omega
theorem Zi4{os:List ay}(h:∀o∈os,o.aK.length<=1048576):(os.map λo=>o.aK.length).sum<=1048576*os.length:=by
 induction os with
 |nil=>simp
 |cons o os ih=>
  have:=ih λx hx=>h x (V5 _ hx)
  have:=h o Wc;simp only[Wh,WB,VL];omega
end Go.Proofs.YtbalgkakkoocjaaGreat
