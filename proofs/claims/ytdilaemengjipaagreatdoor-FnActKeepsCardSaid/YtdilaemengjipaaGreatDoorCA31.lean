/- A part of the proof of the statement in the last file of this claim: texts on the language of the program and on its functions. No condition. -/
import Derived.Test.YtdilaemengjipaaGreatDoorCA29
import Derived.Test.YtdilaemengjipaaGreatDoorCA24
import Derived.Test.YtdilaemengjipaaGreatDoorCA22
import Derived.Test.YtdilaemengjipaaGreatDoorCA12
import Derived.Test.YtdilaemengjipaaGreatDoorCA27
import Derived.Test.YtdilaemengjipaaGreatDoorCA1
set_option linter.unusedVariables false
set_option linter.unusedSimpArgs false
set_option linter.unusedSectionVars false
open Option renaming some->YH,none->YI
open Bool renaming true->YJ,false->YK
open Decidable renaming decide->YL
namespace Go.Proofs.YtdilaemengjipaaGreatDoor
open List renaming mem_of_getElem?->VV,getElem?_eq_getElem->VU,getElem_mem->Wm,length_take->WR,length_append->V3,getElem?_append_left->Wt,getElem?_take_of_lt->Xn
open Option renaming bind_some->VS,getD_some->Xe
set_option maxRecDepth 10000
open Go.RowKit
variable {c:aO}{l:bK}{o o':az}{r:List av}{w:ax}
structure Qa(n:aj)(o:az):Prop where
 aN:0<=o.aN/\o.aN<=100001
 comes:bb o<=o.aG.length
 aG:o.aG.length<=110000
 bD:∀(k:Nat) t,(k:Int)<bb o->o.aG[k]?=YH t->∃y,aB n.aA t.bD=YH y
def Zfg(n:aj)(o:az):Prop:=bb o=o.aG.length\/∀t,o.aG.getLast?=YH t->cg n t=o.a8
structure P4(n:aj)(now:Int)(o:az):Prop where
 ends:Zfg n o
 started:o.state=2->∃t,o.aG[o.aN.toNat]?=YH t/\cM n t<=now
 aN:0<=o.aN/\o.aN<=100001
structure AgD(n:aj)(w:ax):Prop where
 eO:w.aa=n
 ae:w.ae.length<=30
 ar:w.ar.length<=120
 ah:w.ah.length<=21
 aH:w.aH.length<=201
 skip:w.skip.length<=50
 ord:∀o∈w.ae,Qa n o
 fin:∀o∈w.ae,P4 n w.now o
theorem E6{n:aj}(h:tn n o):o.aG.length<=100001:=by
 have key:∀(i:Nat) t,o.aG[i]?=YH t->(i:Int)<=cM n t:=by
  intro i
  induction i with
  |zero=>intro t ht;exact(h.bj t (VV ht)).1
  |succ i ih=>
   intro t ht;have bU:=(List.getElem?_eq_some_iff.1 ht).1;have h1:o.aG[i]?=YH o.aG[i]:=VU X9;have:=ih _ h1;have:=h.bj _ (Wm (show i<o.aG.length by omega))
   have:=h.next i _ _ h1 ht;omega
 rcases Nat.eq_zero_or_pos o.aG.length with h0|h0
 ·omega
 ·have bU:o.aG.length-1<o.aG.length:=X9
  have h1:=key _ _ (VU bU);have h2:=h.bj _ (Wm bU);omega
theorem ql.ag(h:ql w)(rV:∀o∈w.ae,P4 w.aa w.now o):AgD w.aa w:=by
 obtain⟨p1,p2,p3,p4,p5,p6,p7⟩:=h.parts;refine⟨rfl,p2,p7,X9,X9,p5,λo ho=>?_,rV⟩
 obtain⟨i,hi,rfl⟩:=List.getElem_of_mem ho;have mZ:=VU hi;have hw:=h.aG mZ;have hok:=mQ h.fit h.ok mZ;have hs:=E6 hw;have hg:=hw.aN;refine⟨⟨hg.1,X9⟩,?_,X9,λk t _ ht=>?_⟩
 ·unfold bb
  split
  ·rename_i h2
   rcases hok.cases with⟨c,_⟩ |⟨_,c⟩ |⟨c,_⟩<;>omega
  ·exact hg.2
 ·obtain⟨y,hy,_⟩:=fa h.fit.eO (hok.bj t (VV ht))
  exact⟨y,hy⟩
theorem AgD.fit{n:aj}(hf:cO n)(h:AgD n w):qp w:=by
 have h1:=h.ae;have h2:=h.ar;have h3:=h.ah;have h4:=h.aH;have h5:=h.skip;exact⟨by rw[h.eO];exact hf,X9,X9,X9,X9,X9,λo ho=>by have:=(h.ord o ho).aG;omega⟩
theorem Qa.on{n:aj}(h:Qa n o)(hg:o'.aN=o.aN)(hs:o'.state=o.state)(hw:o'.aG=cH o.aG 0 (bb o)++r)(hr:r.length<=2000):Qa n o':=by
 have tD:=h.comes;have g:=h.aN;have hc:bb o'=bb o:=by unfold bb;rw[hg,hs]
 have c0:0<=bb o/\bb o<=100002:=by unfold bb;split<;>omega
 have uq:cH o.aG 0 (bb o)=o.aG.take (bb o).toNat:=by unfold cH;simp
 have hlen:(cH o.aG 0 (bb o)).length=(bb o).toNat:=by rw[uq,WR];omega
 refine⟨by rw[hg];exact g,?_,?_,λk t hk ht=>?_⟩
 ·rw[hc,hw,V3,hlen];omega
 ·rw[hw,V3,hlen];omega
 ·rw[hc]at hk
  rw[hw,Wt (by rw[hlen];omega),uq,Xn X9]at ht
  exact h.bD k t hk ht
theorem P4.on{n:aj}{now:Int}(h:Qa n o)(hF:P4 n now o)(hg:o'.aN=o.aN)(hs:o'.state=o.state)(ht:o'.a8=o.a8)(hw:o'.aG=cH o.aG 0 (bb o)++r)(hr:∀t,r.getLast?=YH t->cg n t=o.a8):P4 n now o':=by
 have tD:=h.comes;have g:=h.aN;have hc:bb o'=bb o:=by unfold bb;rw[hg,hs]
 have c0:0<=bb o/\bb o<=100002:=by unfold bb;split<;>omega
 have uq:cH o.aG 0 (bb o)=o.aG.take (bb o).toNat:=by unfold cH;simp
 have hlen:(cH o.aG 0 (bb o)).length=(bb o).toNat:=by rw[uq,WR];omega
 refine⟨?_,λh2=>?_,by rw[hg];exact g⟩
 ·cases r with
  |nil=>exact .inl (by rw[hc,hw,List.append_nil,hlen];omega)
  |cons a as'=>
   refine .inr λt hl=>?_
   rw[hw,List.getLast?_append,ht]at *
   refine hr t ?_
   cases hx:(a::as').getLast? with
   |none=>simp at hx
   |some z=>rw[hx]at hl;exact hl
 ·rw[hs]at h2
  obtain⟨t,k1,k2⟩:=hF.started h2;refine⟨t,?_,k2⟩;have zj:bb o=o.aN+1:=by unfold bb;rw[if_pos h2]
  rw[hg,hw,Wt (by rw[hlen];omega),uq,Xn X9]
  exact k1
section
variable {n:aj} (hf:cO n) (hn:n.aA.length<=20)
include hf hn
end
theorem Bc.fit(h:Bc l):Co l:=⟨by rw[(qv _ h.au).2];decide,by rw[(qv _ h.a8).2];decide⟩
theorem Bc.ok(h:Bc l):fq l=YH true:=by
 have h1:=h.start;have h2:=h.mP;have h3:=h.uK;have h4:=h.iU;unfold fq;rw[(qv _ h.au).1,(qv _ h.a8).1];simp only[VS,X5,X2 h.ne,Bool.not_false,cE,X1 h1.1,X1 h1.2,X1 h2.1,X1 h2.2,X1 h3.1,X1 h3.2,X1 h4.1,X1 h4.2,Bool.and_self]
theorem qN.fit{n:aj}(h:qN n):cO n:=⟨by have:=h.len;omega,by rcases h.off with e|⟨a,b,e,_⟩<;>rw[e]<;>simp,λl hl=>(h.bD l hl).fit⟩
theorem qN.ok{n:aj}(h:qN n):aV n=YH true:=by
 have hlen:=h.len;have Cb:=h.change;have e0:aJ (aD (bX n) NN 0) λr=>r=.inl ():=by
  refine aJ.loop (fun(k:Nat) (s:Int)=>∃i:Nat,s=(i:Int)/\i+k=n.aA.length) (λk s hs=>?_) NN n.aA.length _ ⟨0,rfl,X9⟩ Yc
  obtain⟨i,rfl,hk⟩:=hs;unfold bX;refine aJ.cond (λhd=>?_) λhd=>aJ.ret rfl
  have bU:=X3 hd;have wI:aI ((i:Int)+1)=((i+1:Nat):Int):=by rw[aR X9];omega
  obtain⟨x,hx,hm⟩:=ki (xs:=n.aA) (i:=(i:Int)) ⟨X9,bU⟩;rw[hx,VS,(h.bD x hm).ok,VS,wI];exact aJ.cond (λe=>by cases e) λ_=>aJ.ret ⟨k-1,X9,i+1,rfl,X9⟩
 have e1:aJ (aD (bY n) NN 0) λr=>r=.inl ():=by
  rcases h.off with e|⟨a,b,e,g1,g2,g3⟩
  ·refine aJ.loop (fun(k:Nat) (s:Int)=>s=0) (λk s hs=>?_) NN 0 _ rfl Yc
   subst hs;unfold bY;rw[e];exact aJ.cond (λhd=>by simp at hd) λhd=>aJ.ret rfl
  ·refine aJ.loop (fun(k:Nat) (s:Int)=>(s=0/\k=2)\/(s=1/\k=1)\/(s=2/\k=0)) (λk s hs=>?_) NN 2 _ (.inl ⟨rfl,rfl⟩) Yc
   unfold bY;rw[e];have x0:aB [a,b] 0=YH a:=rfl;have x1:aB [a,b] 1=YH b:=rfl;have w1:aI (0+1)=1:=by decide
   have w2:aI (1+1)=2:=by decide
   have w0:aI (1-1)=0:=by decide
   rcases hs with⟨rfl,rfl⟩ |⟨rfl,rfl⟩ |⟨rfl,rfl⟩
   ·refine aJ.cond (λ_=>?_) λhd=>by simp at hd
    rw[x0,VS,cE,VS,X1 g1,X1 (show a<=60 by omega),w1]
    exact aJ.cond (λe=>by cases e) λ_=>aJ.cond (λe=>by simp at e) λ_=>aJ.ret ⟨1,X9,.inr (.inl ⟨rfl,rfl⟩)⟩
   ·refine aJ.cond (λ_=>?_) λhd=>by simp at hd
    rw[x1,VS,cE,VS,X1 (show 0<=b by omega),X1 g3,w2,w0,x0,VS,VS]
    exact aJ.cond (λe=>by cases e) λ_=>aJ.cond (λ_=>aJ.cond (λe=>by have:=X3 e;omega) λ_=>aJ.ret ⟨0,X9,.inr (.inr ⟨rfl,rfl⟩)⟩) λe=>by simp at e
   ·exact aJ.cond (λhd=>by simp at hd) λhd=>aJ.ret rfl
 obtain⟨_,r0,rfl⟩:=e0;obtain⟨_,r1,rfl⟩:=e1;unfold aV;rw[r0,VS];simp only[bk];rw[r1,VS];simp only[bk];have ho:(n.off.length:Int)<=10:=by rcases h.off with e|⟨a,b,e,_⟩<;>rw[e]<;>simp
 rw[X1 (show(n.aA.length:Int)<=20 by omega),X1 ho,cE,X1 Cb.1,X1 Cb.2]
 rfl
theorem Ex{n:aj}(h:qN n){skip:List Int}(hs:skip.length<=50):gQ n skip=YH ((⟨n,[],[],[],0,[],skip,0⟩:ax),YJ):=by
 have hf:qp (⟨n,[],[],[],0,[],skip,0⟩:ax):=⟨h.fit,by simp,by simp,by simp,by simp,by simp only;omega,λo ho=>by cases ho⟩
 have hv:ew (⟨n,[],[],[],0,[],skip,0⟩:ax)=true:=by
  unfold ew cn uC;simp only[h.ok,Xe];simp[allI];omega
 unfold gQ;rw[vQ hf,VS,qb hf,hv];rfl
section
variable {n:aj} (hn:qN n)
include hn
theorem JR(h:bQ c):aJ (j9 c n) λr=>bQ r.2:=by
 have hl:=hn.len;unfold j9;refine aJ.dq (aJ.bind (bg h _) λy1 h1=>aJ.dq (aJ.bind (bg h1.2 10) λy2 h2=>?_))
 obtain⟨y,hy,_⟩:=ki (xs:=n.aA) (i:=y1.1) ⟨h1.1.1,h1.1.2.1 X9⟩;refine aJ.bind (Cm hn.fit hy _) λy3 _=>aJ.cond (λ_=>aJ.dq (aJ.bind (iD h2.2 4) λy4 h4=>aJ.cond (λ_=>aJ.ret h4) λ_=>aJ.ret h4)) λ_=>aJ.ret h2.2
theorem E0(h:bQ c):aJ (kb c n) λr=>bQ r.2.1/\r.2.2=n:=by
 have hl:=hn.len;unfold kb;refine aJ.dq (aJ.bind (bg h _) λy1 h1=>aJ.dq (aJ.bind (bg h1.2 10) λy2 h2=>?_))
 obtain⟨y,hy,_⟩:=ki (xs:=n.aA) (i:=y1.1) ⟨h1.1.1,h1.1.2.1 X9⟩;refine aJ.bind (Cm hn.fit hy _) λy3 _=>aJ.cond (λ_=>aJ.dq (aJ.bind (iD h2.2 4) λy4 h4=>aJ.cond (λ_=>aJ.ret ⟨h4,rfl⟩) λ_=>aJ.ret ⟨h4,rfl⟩)) λ_=>aJ.ret ⟨h2.2,rfl⟩
theorem E9(h:bQ c)(hw:w.aa=n):aJ (dO c w) λr=>bQ r.2:=by
 unfold dO;rw[hw];refine aJ.cond (λhd=>aJ.dq (aJ.bind (iD h 4) λy1 h1=>aJ.cond (λ_=>aJ.D3 (aJ.dq (aJ.bind (bg h1 _) λy2 h2=>aJ.get h2.1.1 (h2.1.2.1 (X3 hd)) λx _ _=>aJ.ret h2.2))) λ_=>aJ.dq (aJ.bind (JR hn h1) λy4 h4=>aJ.ret h4))) λ_=>aJ.dq (aJ.bind (JR hn h) λy4 h4=>aJ.ret h4)
theorem L4(h:bQ c)(hw:w.aa=n):aJ (lQ c w) λr=>bQ r.2.1/\r.2.2=w:=by
 subst hw;unfold lQ;refine aJ.cond (λhd=>aJ.dq (aJ.bind (iD h 4) λy1 h1=>aJ.cond (λ_=>aJ.D3 (aJ.dq (aJ.bind (bg h1 _) λy2 h2=>aJ.get h2.1.1 (h2.1.2.1 (X3 hd)) λx _ _=>aJ.ret ⟨h2.2,rfl⟩))) λ_=>aJ.dq (aJ.bind (E0 hn h1) λy4 h4=>aJ.ret ⟨h4.1,?_⟩))) λ_=>aJ.dq (aJ.bind (E0 hn h) λy4 h4=>aJ.ret ⟨h4.1,?_⟩)
 ·simp only[h4.2]
 ·simp only[h4.2]
theorem Sk(h:bQ c):aJ (cx c n) λr=>bQ r.2:=by
 have hl:=hn.len;have hp:0<(ak n).length:=by
  have:=(pL (n:=n) (Wm (show 0<n.aA.length by omega))).1
  exact List.length_pos_of_mem this
 unfold cx;rw[(dh hn.fit).2,VS];refine aJ.dq (aJ.bind (iD h 9) λy2 h2=>aJ.cond (λ_=>aJ.dq (aJ.bind (sg h2) λy3 h3=>aJ.ret h3.2)) λ_=>aJ.dq (aJ.bind (bg h2 _) λy4 h4=>aJ.get h4.1.1 (h4.1.2.1 X9) λx _ _=>aJ.ret h4.2))
end
theorem qp.set{w:ax}(h:qp w){i:Nat}{x:az}{o:az}(ho:o∈w.ae)(hx:x.aG=o.aG):∀y∈w.ae.set i x,y.aG.length<=1048576:=λy hy=>by
 rcases List.mem_or_eq_of_mem_set hy with hy|rfl
 ·exact h.aG y hy
 ·rw[hx];exact h.aG o ho
end Go.Proofs.YtdilaemengjipaaGreatDoor
