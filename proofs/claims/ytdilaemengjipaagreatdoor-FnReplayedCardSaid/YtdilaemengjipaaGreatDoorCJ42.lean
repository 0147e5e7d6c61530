/- A part of the proof of the statement in the last file of this claim: texts on the language of the program and on its functions. No condition. -/
import Derived.Test.YtdilaemengjipaaGreatDoorCJ41
import Derived.Test.YtdilaemengjipaaGreatDoorCJ4
import Derived.Test.YtdilaemengjipaaGreatDoorCJ7
import Derived.Test.YtdilaemengjipaaGreatDoorCJ16
import Derived.Test.YtdilaemengjipaaGreatDoorCJ25
import Derived.Test.YtdilaemengjipaaGreatDoorCJ23
import Derived.Test.YtdilaemengjipaaGreatDoorCJ31
import Derived.Test.YtdilaemengjipaaGreatDoorCJ26
import Derived.Test.YtdilaemengjipaaGreatDoorCJ20
import Derived.Test.YtdilaemengjipaaGreatDoorCJ28
import Derived.Test.YtdilaemengjipaaGreatDoorCJ30
import Derived.Test.YtdilaemengjipaaGreatDoorCJ21
import Derived.Test.YtdilaemengjipaaGreatDoorCJ5
import Derived.Test.YtdilaemengjipaaGreatDoorCJ19
import Derived.Test.YtdilaemengjipaaGreatDoorCJ6
import Derived.Test.YtdilaemengjipaaGreatDoorCJ1
set_option linter.unusedVariables false
set_option linter.unusedSimpArgs false
set_option linter.unusedSectionVars false
open Option renaming some->YW,none->YX
open Bool renaming true->YY,false->YZ
open Decidable renaming decide->Y0
namespace Go.Proofs.YtdilaemengjipaaGreatDoor
open List renaming length_append->VZ,length_cons->V0,length_nil->V1,mem_cons->V5,not_mem_nil->V4,getElem?_eq_some_iff->VU,getElem?_eq_getElem->VV,length_set->W5,flatMap_cons->XT,all_eq_true->V2,mem_of_mem_take->Wt,take_succ_cons->WU,mem_of_getElem?->VW,length_map->Wj,length_take->Wg
open Option renaming bind_some->VT,getD_some->Xj
open Bool renaming and_eq_true->Wd,not_true->V3
set_option maxRecDepth 10000
open Go.RowKit
variable {a:ba}{aT:List bF}{code:List Y6}{l:List ba}{o:aF}{p:List Int}{ο σ:Type}{body:σ->Option (σ⊕ο)}
structure uZ(p:aL):Prop where
 aY:p.label.aY.size<=100
 ar:p.ar.size<=100
 bE:p.bE.length<=1000
theorem b60{k:Nat}(h:k<=100):k<=sy:=by unfold sy;omega
theorem uZ.pf{p:aL}(h:uZ p):PF p:=⟨b60 h.aY,b60 h.ar,by have:=h.bE;omega⟩
structure OD(n:ah)(K:Nat)(o:aF):Prop where
 of:OF o
 w:Hx n K o.world
 pl:o.aH.length<=K
 jl:o.aD.length<=K
 rl:1<=o.aT.length
theorem OD.mono{n:ah}{K:Nat}{o:aF}(h:OD n K o):OD n (K+1) o:=⟨h.of,h.w.mono,by have:=h.pl;omega,by have:=h.jl;omega,h.rl⟩
theorem Hf{α:Type}{x:Option α}{r:α}{P:α->Prop}(h:aV x P)(e:x=YW r):P r:=by
 obtain⟨y,e',h⟩:=h;rw[e]at e';rw[Option.some.inj e'];exact h
theorem VB{n:ah}(hn:tD n){K:Nat}(h:OD n K o)(ha:PF a.aJ):aV (jA o a) λr=>OD n (K+1) r.1:=by
 obtain⟨x,c,_,e,hx⟩:=By h.of ha;refine aV.of e ?_
 rcases hx with⟨_,rfl⟩ |⟨_,hD⟩
 ·exact h.mono
 have hx:=(F2 h.of ha hD).1;obtain⟨y,rfl,hy⟩:=hD.how;have hu:a.kind=3->a.bI<=100000:=λhk=>by
  have:=BY ha.fit.1 ha.fit.2.1 ha.fit.2.2 hD.act;omega
 have xL:=h.pl;have Bc:(o.aD++[a]).length<=K+1:=by rw[VZ];have:=h.jl;simp only[V0,V1];omega
 rcases hy with⟨_,hy⟩ |⟨_,hy⟩ |⟨_,w,rfl,hy⟩
 ·obtain⟨v,aK,ys,eJ,_,_,_,_,q⟩:=hy.mr
  have hw:Hx n (K+1) y.world:=Hf (P:=λr:ax×Int×Bool=>Hx n (K+1) r.1) (Hz hn h.w _ _ _ _) q
  refine⟨hx,hw,?_,Bc,by show 1<=y.aT.length;rw[hy.aT];exact h.rl⟩
  show y.aH.length<=K+1;rw[hy.aH,VZ];simp only[V0,V1];omega
 ·obtain⟨l,z,rfl,_⟩:=hy
  exact⟨hx,h.w.mono,Nat.le_succ_of_le xL,Bc,h.rl⟩
 ·refine⟨hx,?_,Nat.le_succ_of_le xL,Bc,h.rl⟩
  rcases hy with⟨hk,bX,rfl⟩ |⟨_,q,_⟩ |⟨_,m,_,q,_⟩
  ·have:=Hf (Rk hn h.w a.bI) (zm h.w.ok.fit _)
   rwa[if_pos ⟨h.w.ok.ok,Int.le_of_lt bX,hu hk⟩]at this
  ·exact Hf (P:=λr:ax×Bool=>Hx n (K+1) r.1) (QA hn h.w _) q
  ·exact Hf (P:=λr:ax×Int=>Hx n (K+1) r.1) (MA hn h.w) q
theorem Mg{n:ah}(hd:tD n){p:ByteArray}(h:p∈ak n):p.size<=100:=by
 have key:p∈iL n:=by unfold ak at h;rw[sn]at h;simpa using h
 unfold iL at key
 obtain⟨l,hl,hp⟩:=List.mem_flatMap.1 key;simp only[V5,V4,or_false]at hp
 rcases hp with rfl|rfl
 ·have:=(qz _ (hd.bH l hl).ar).2;omega
 ·have:=(qz _ (hd.bH l hl).aY).2;omega
theorem BJ{n:ah}(hn:tD n){c:bj}(h:dv c):aV (cB c n) λr=>r.1.size<=100/\dv r.2:=by
 have hl:=hn.len;have hp:0<(ak n).length:=by
  have:=(qD (n:=n) (List.getElem_mem (show 0<n.aA.length by omega))).1
  exact List.length_pos_of_mem this
 unfold cB;rw[(dH hn.fit).2,VT];refine aV.fV (aV.bind (mW h 9) λy2 h2=>aV.cond (λ_=>aV.fV (aV.bind (ue h2) λy3 h3=>aV.ret ⟨le_of_eq_of_le (qz _ h3.1).2 Yy,h3.2⟩)) λ_=>aV.fV (aV.bind (bJ h2 _) λy4 h4=>aV.get h4.1.1 (h4.1.2.1 Yn) λx hx _=>aV.ret ⟨Mg hn hx,h4.2⟩))
theorem JU{l:List Int}(h:l=[25,50,100]\/l=[10]\/l=[0,100]\/l=[0]\/l=[1,1,2,3,50,100]):oT l=YY/\l.length<=6:=by
 rcases h with rfl|rfl|rfl|rfl|rfl<;>exact⟨by decide,by decide⟩
theorem GO{c:bj}(h:dv c):aV (iR c) λr=>(oT r.1=YY/\r.1.length<=6)/\dv r.2:=by
 unfold iR;refine aV.fV (aV.bind (bJ h 5) λy hy=>aV.cond (λ_=>aV.ret ⟨JU Yq,hy.2⟩) λh0=>aV.cond (λ_=>aV.ret ⟨JU Yq,hy.2⟩) λh1=>aV.cond (λ_=>aV.ret ⟨JU Yq,hy.2⟩) λh2=>aV.cond (λ_=>aV.ret ⟨JU Yq,hy.2⟩) λh3=>aV.cond (λ_=>aV.ret ⟨JU Yq,hy.2⟩) λh4=>?_)
 have:=Yi h0;have:=Yi h1;have:=Yi h2;have:=Yi h3;have:=Yi h4;have:=hy.1.1;have:=hy.1.2.1 Yn;omega
theorem Pz{c:bj}(h:dv c):aV (lY c) λr=>r.1.aY.size<=100/\dv r.2:=by
 unfold lY;have sz:∀p∈rV,p.size<=100:=λp hp=>by have:=(qz p hp).2;omega
 exact aV.fV (aV.bind (bJ h 3) λy1 h1=>aV.fV (aV.bind (bJ h1.2 1000) λy2 h2=>aV.fV (aV.bind (ue h2.2) λy3 h3=>aV.fV (aV.bind (mW h3.2 3) λy4 h4=>aV.cond (λ_=>aV.fV (aV.bind (pQ h4 Yq) λy5 h5=>aV.ret ⟨sz _ h3.1,h5.2⟩)) λ_=>aV.ret ⟨sz _ h3.1,h4⟩))))
theorem QC{c:bj}(h:dv c):aV (lZ c) λr=>r.1.length<=3/\dv r.2:=by
 unfold lZ;exact aV.fV (aV.bind (bJ h _) λy1 h1=>aV.fV (aV.bind (bJ h1.2 _) λy2 h2=>aV.fV (aV.bind (bJ h2.2 _) λy3 h3=>aV.ret ⟨by simp,h3.2⟩)))
theorem Dj{c:bj}(h:dv c):aV (de c) λr=>uZ r.1/\dv r.2:=by
 unfold de;have sz:∀p∈rV,p.size<=100:=λp hp=>by have:=(qz p hp).2;omega
 have osl:(⟨#[79,83,76]⟩:ByteArray).size<=100:=by decide
 refine aV.fV (aV.bind (Pz h) λy1 h1=>aV.fV (aV.bind (ue h1.2) λy2 h2=>aV.fV (aV.bind (bJ h2.2 _) λy3 h3=>aV.fV (aV.bind (QC h3.2) λy4 h4=>aV.fV (aV.bind (bJ h4.2 _) λy5 h5=>?_)))))
 have hs:y4.1.length<=1000:=Yn;exact aV.cond (λ_=>aV.fV (aV.bind (mW h5.2 3) λy6 h6=>aV.cond (λ_=>aV.fV (aV.bind (pQ h6 Yq) λy7 h7=>aV.ret ⟨⟨h1.1,osl,hs⟩,h7.2⟩)) λ_=>aV.ret ⟨⟨h1.1,osl,hs⟩,h6⟩)) λ_=>aV.fV (aV.bind (mW h5.2 3) λy6 h6=>aV.cond (λ_=>aV.fV (aV.bind (pQ h6 Yq) λy7 h7=>aV.ret ⟨⟨h1.1,sz _ h2.1,hs⟩,h7.2⟩)) λ_=>aV.ret ⟨⟨h1.1,sz _ h2.1,hs⟩,h6⟩)
theorem Ox{n:ah}(hn:tD n){c:bj}(h:dv c)(hl:o.lines.length<=1048576)(hw:o.world.aa=n):aV (mP c o) λr=>uZ r.1.aJ/\dv r.2:=by
 have osl:(⟨#[79,83,76]⟩:ByteArray).size<=100:=by decide
 have pz:uZ (⟨⟨0,0,⟨#[]⟩⟩,⟨#[]⟩,0,[],0⟩:aL):=⟨by decide,by decide,by simp⟩
 unfold mP;rw[hw];refine aV.fV (aV.bind (bJ h 9) λy1 h1=>?_)
 have take:aV ((bq [0]).bind λ_=>(de y1.2).bind λy2=>(bq [0]).bind λ_=>(ay y2.2 6000).bind λy3=>(bq [0]).bind λ_=>(ay y3.2 300).bind λy4=>(bq [0]).bind λ_=>(ay y4.2 200).bind λy5=>(bq [0]).bind λ_=>(ay y5.2 200).bind λy6=>(bq [0]).bind λ_=>(cB y6.2 n).bind λy7=>(bq [0]).bind λ_=>(cB y7.2 n).bind λy8=>
  cond (Y0 (y7.1=y8.1)) (YW ((⟨1,(⟨(⟨y2.1.label.aw,y2.1.label.bO,y8.1⟩:bl),⟨#[79,83,76]⟩,(aM (200+y3.1)),[(aM (100+y4.1)),(aM (100+y5.1)),(aM (50+y6.1))],y2.1.value⟩:aL),0,0,0,(⟨0,0⟩:av)⟩:ba),y8.2))
  (YW ((⟨1,(⟨(⟨y2.1.label.aw,y2.1.label.bO,y8.1⟩:bl),y7.1,(aM (200+y3.1)),[(aM (100+y4.1)),(aM (100+y5.1)),(aM (50+y6.1))],y2.1.value⟩:aL),0,0,0,(⟨0,0⟩:av)⟩:ba),y8.2))) λr:ba×bj=>uZ r.1.aJ/\dv r.2:=
  aV.fV (aV.bind (Dj h1.2) λy2 h2=>aV.fV (aV.bind (bJ h2.2 _) λy3 h3=>aV.fV (aV.bind (bJ h3.2 _) λy4 h4=>aV.fV (aV.bind (bJ h4.2 _) λy5 h5=>aV.fV (aV.bind (bJ h5.2 _) λy6 h6=>aV.fV (aV.bind (BJ hn h6.2) λy7 h7=>aV.fV (aV.bind (BJ hn h7.2) λy8 h8=>aV.cond (λ_=>aV.ret ⟨⟨h8.1,osl,by simp⟩,h8.2⟩) λ_=>aV.ret ⟨⟨h8.1,h7.1,by simp⟩,h8.2⟩)))))))
 have g:∀{b:Bool} {x y:Option (ba×bj)},(aV x λr=>uZ r.1.aJ/\dv r.2)->(aV y λr=>uZ r.1.aJ/\dv r.2)->aV (cond b x y) λr=>uZ r.1.aJ/\dv r.2:=λh k=>aV.cond (λ_=>h) λ_=>k
 have rest:aV (cond (Y0 (y1.1=3))
      ((bq [0]).bind λ_=>(ay y1.2 (aM ((o.aH.length:Int)+1))).bind λy9=>(dX o.lines (aM (1+y9.1))).bind λeh=>(bq [0,3]).bind λ_=>(bW y9.2 ([0,0,0,100])).bind λlr=>(fA 1 (aM (eh-lr.1))).bind λoV=>YW ((⟨2,(⟨(⟨0,0,⟨#[]⟩⟩:bl),⟨#[]⟩,0,[],0⟩:aL),(aM (1+y9.1)),oV,0,(⟨0,0⟩:av)⟩:ba),lr.2.1))
      (cond (Y0 (y1.1=4)) ((bq [0]).bind λ_=>(dy y1.2 o.world).bind λoD=>YW ((⟨4,(⟨(⟨0,0,⟨#[]⟩⟩:bl),⟨#[]⟩,0,[],0⟩:aL),0,0,0,oD.1⟩:ba),oD.2))
      (cond (Y0 (y1.1=5)) (YW ((⟨5,(⟨(⟨0,0,⟨#[]⟩⟩:bl),⟨#[]⟩,0,[],0⟩:aL),0,0,0,(⟨0,0⟩:av)⟩:ba),y1.2))
      (cond (Y0 (y1.1=6)) ((bq [0]).bind λ_=>(ay y1.2 (aM ((o.aH.length:Int)+1))).bind λnF=>YW ((⟨6,(⟨(⟨0,0,⟨#[]⟩⟩:bl),⟨#[]⟩,0,[],0⟩:aL),(aM (1+nF.1)),0,0,(⟨0,0⟩:av)⟩:ba),nF.2))
      ((oe 8 [4]).bind λ_=>(bq [0]).bind λ_=>(ay y1.2 90).bind λpZ=>YW ((⟨3,(⟨(⟨0,0,⟨#[]⟩⟩:bl),⟨#[]⟩,0,[],0⟩:aL),0,0,(aM (o.world.now+(aM (30*pZ.1)))),(⟨0,0⟩:av)⟩:ba),pZ.2)))))) λr:ba×bj=>uZ r.1.aJ/\dv r.2:=
  g (aV.fV (aV.bind (bJ h1.2 _) λy9 h9=>aV.bind (aV.of (Q:=λ_=>True) (Gz hl _) trivial) λeh _=>aV.fV (aV.bind (pQ h9.2 Yq) λlr EL=>aV.bind (Gr _ _) λoV _=>aV.ret ⟨pz,EL.2⟩)))
   (g (aV.fV (aV.bind (FJ hn h1.2 hw) λoD h13=>aV.ret ⟨pz,h13⟩)) (g (aV.ret ⟨pz,h1.2⟩) (g (aV.fV (aV.bind (bJ h1.2 _) λnF h14=>aV.ret ⟨pz,h14.2⟩)) (aV.drw (aV.fV (aV.bind (bJ h1.2 _) λpZ h15=>aV.ret ⟨pz,h15.2⟩))))))
 exact g (g take rest) (g (g take rest) (g take rest))
abbrev ZZ:List ct:=[(⟨⟨#[65,65,65]⟩,⟨#[67,90,90]⟩⟩:ct),(⟨⟨#[68,65,65]⟩,⟨#[90,90,90]⟩⟩:ct)]
theorem ZdV:sQ ZZ:=⟨by simp,λz hz=>by
 simp only[V5,V4,or_false]at hz
 rcases hz with rfl|rfl<;>exact⟨b60 Yy,b60 Yy⟩⟩
theorem Zf7:rU ZZ=true:=by decide +kernel
def ZbS(i:Nat)(r:bF):Prop:=r.nG=((i / 6:Nat):Int)/\r.aw=((1+i % 6 / 2:Nat):Int)/\(i % 2=0->r.oi=5000/\500<=r.mr/\r.mr<=900)/\(i % 2=1->r.oi=40000/\1000<=r.mr/\r.mr<=1800)
def tn(l:List bF):Prop:=∀(i:Nat) r,l[i]?=YW r->ZbS i r
theorem tn.snoc{l:List bF}{r:bF}(h:tn l)(hr:ZbS l.length r):tn (l++[r]):=λi x hx=>by
 rw[List.getElem?_append]at hx
 split at hx
 ·exact h i x hx
 ·rename_i hn
  have hi:i-l.length=0:=by
   have:=(VU.1 hx).1;simp only[V0,V1]at this
   omega
  rw[hi]at hx
  have:i=l.length:=Yn;subst this;simp at hx
  rw[<-hx];exact hr
theorem TS{l:List bF}(h:tn l)(hl:l.length=12):rT l 2=true:=by
 unfold rT;rw[Wd];refine⟨cP.2 λj x hx=>?_,Ya Yn⟩
 have hj:=(VU.1 hx).1;rw[hl]at hj
 obtain⟨a,b,c,d⟩:=h j x hx;unfold Fj;have z0:x.nG=0\/x.nG=1:=Yn;have hs:1<=x.aw/\x.aw<=3:=Yn;have Sr:1<=x.oi/\x.oi<=1000000000:=Yn;have hp:0<=x.mr/\x.mr<=100000:=Yn;have Zfo:(Y0 (0+j=0) ||T8 l[0+j-1]? x)=true:=by
  by_cases h0:j=0
  ·subst h0;rfl
  ·obtain⟨y,hy⟩:∃y,l[j-1]?=YW y:=⟨_,VV Yn⟩
   obtain⟨a',b',c',d'⟩:=h (j-1) y hy;rw[show 0+j-1=j-1 by omega,hy,GX]
   unfold uu;simp only[Bool.or_eq_true,Wd,decide_eq_true_eq];omega
 simp only[Wd,Bool.not_eq_true',decide_eq_true_eq,Ym];exact⟨Yn,Yn,hs,Sr,hp,Zfo⟩
section
variable {n:ah} (hd:tD n) {skip:List Int} (hs:skip.length<=50)
include hd hs
theorem ZaG:rF (⟨n,[],[],[],0,[],skip,0⟩:ax):=⟨hd.fit,by simp,by simp,by simp,by simp,by simp only;omega,λo ho=>by cases ho⟩
theorem ZfK:fB (⟨n,[],[],[],0,[],skip,0⟩:ax)=true:=by
 unfold fB cu uP;simp only[hd.ok,Xj];simp[allI];omega
theorem Tl(hl:aT.length=12)(hp:p.length<=6)(K:Nat):OD n K (⟨⟨n,[],[],[],0,[],skip,0⟩,ZZ,aT,p,[],[],[]⟩:aF):=
 ⟨⟨ZaG hd hs,ZdV,by simp only;omega,by simp only;omega,by simp,by simp,by simp,λp hp=>(by cases hp),λa ha=>(by cases ha)⟩,ZhK hd hs K,Nat.zero_le _,Nat.zero_le _,by simp only;omega⟩
theorem Tk(hr:tn aT)(hl:aT.length=12)(hp:oT p=YY):fK (⟨⟨n,[],[],[],0,[],skip,0⟩,ZZ,aT,p,[],[],[]⟩:aF)=true:=
 tY (ZfK hd hs) Zf7 (by rw[show((ZZ.length:Nat):Int)=2 from rfl];exact TS hr hl) hp rfl rfl Yq rfl rfl rfl
theorem LY(hr:tn aT)(hl:aT.length=12)(hp:oT p=YY/\p.length<=6):
 kI n skip ZZ aT p=YW ((⟨⟨n,[],[],[],0,[],skip,0⟩,ZZ,aT,p,[],[],[]⟩:aF),YY):=by
 have ho:=Tl hd hs hl hp.2 0;unfold kI;rw[PO hd hs,VT];show(gf _).bind _=_;rw[Bv ho.of,VT,AV ho.of.fit,Tk hd hs hr hl hp.1];rfl
end
theorem LX{c:bj}(h:dv c):aV (mM c) λr=>(∃n,tD n/\OD n 0 r.1/\fK r.1=YY/\∃skip,r.1.world=⟨n,[],[],[],0,[],skip,0⟩)/\dv r.2:=by
 unfold mM;refine aV.fV (aV.bind (ZaF h) λy1 h1=>?_)
 obtain⟨h1,CL⟩:=h1;refine aV.bind (P:=λo=>dv ⟨o.1,o.2.1,o.2.2.1⟩/\tD ⟨o.2.2.2,y1.1.off,y1.1.change⟩) ?_ λo0 Pk=>?_
 ·have hlen:=h1.len
  refine aV.loop (fun(k:Nat) (s:Int×(List Y6)×Int×Int×(List bP))=>∃i:Nat,s.1=(i:Int)/\i+k=s.2.2.2.2.length/\dv ⟨s.2.1,s.2.2.1,s.2.2.2.1⟩/\tD ⟨s.2.2.2.2,y1.1.off,y1.1.change⟩) (λk s hs=>?_) NN y1.1.aA.length _ ⟨0,rfl,by simp,CL,h1⟩ Ys
  obtain⟨i,hi,hk,hc,hd⟩:=hs;have QV:=hd.len;simp only at QV
  unfold pr;rw[hi];refine aV.cond (λbX=>?_) λ_=>aV.ret ⟨hc,hd⟩
  have bX:=Yh bX;have BE:aM ((i:Int)+1)=((i+1:Nat):Int):=by rw[aR Yn];omega
  rw[BE];refine aV.fV (aV.bind (mW hc 3) λy2 h2=>aV.cond (λ_=>aV.drw (aV.fV (aV.bind (bJ h2 20) λy3 h3=>?_))) λ_=>aV.ret ⟨k-1,Yn,i+1,rfl,by simp only;omega,h2,hd⟩)
  refine aV.get Yn bX λx hx _=>aV.ret ⟨k-1,Yn,i+1,rfl,by simp only[W5];omega,h3.2,?_⟩
  have b3:=h3.1.2.1 Yn;have b0:=h3.1.1;have hr:aM (3000+aM (1000*y3.1))=3000+1000*y3.1:=by rw[aR (n:=1000*y3.1) Yn,aR Yn]
  refine⟨by simp only[W5];exact QV,λl hl=>?_,hd.off,hd.change⟩
  rcases List.mem_or_eq_of_mem_set hl with hl|rfl
  ·exact hd.bH l hl
  ·obtain⟨a1,a2,a3,a4,a5,a6,a7⟩:=hd.bH x hx
   exact⟨a1,a2,a3,a4,a5,a6,by simp only[hr];omega⟩
 refine aV.fV (aV.bind (bJ Pk.1 5) λy5 h5=>?_)
 have b5:=h5.1.2.1 Yn;have b5':=h5.1.1;refine aV.bind (P:=λo=>dv ⟨o.1,o.2.1,o.2.2.1⟩/\o.2.2.2.length<=50) ?_ λo1 LB=>?_
 ·refine aV.loop (fun(k:Nat) (s:Int×(List Y6)×Int×Int×(List Int))=>s.1=(k:Int)/\s.2.2.2.2.length+k<=5/\dv ⟨s.2.1,s.2.2.1,s.2.2.2.1⟩) (λk s hs=>?_) NN y5.1.toNat _ ⟨by simp only;omega,by simp only[V1];omega,h5.2⟩ Ys
  obtain⟨hk,hl,hc⟩:=hs;unfold pt;refine aV.cond (λhd=>?_) λ_=>aV.ret ⟨hc,by simp only;omega⟩
  have hd:=Yh hd;have BE:aM (s.1-1)=((k-1:Nat):Int):=by rw[aR Yn];omega
  exact aV.fV (aV.bind (bJ hc 20) λy6 h6=>aV.cr (oX YN Yn) (aV.ret ⟨k-1,Yn,BE,by simp only[VZ,V0,V1];omega,h6.2⟩))
 refine aV.bind (P:=λo=>dv ⟨o.1,o.2.1,o.2.2.1⟩/\tn o.2.2.2/\o.2.2.2.length=12) ?_ λo2 CQ=>?_
 ·refine aV.loop (fun(k:Nat) (s:Int×(List Y6)×Int×Int×(List bF))=>∃z:Nat,s.1=(z:Int)/\z+k=2/\dv ⟨s.2.1,s.2.2.1,s.2.2.2.1⟩/\tn s.2.2.2.2/\s.2.2.2.2.length=6*z) (λk s hs=>?_) NN 2 _ ⟨0,rfl,rfl,LB.1,λi r hr=>(by simp at hr),rfl⟩ Ys
  obtain⟨z,hz,hk,hc,hR,hL⟩:=hs;unfold pv;rw[hz];refine aV.cond (λbX=>?_) λze=>aV.ret ⟨hc,hR,by have:=Yi ze;rw[hL];omega⟩
  have bX:=Yh bX;have hwz:aM ((z:Int)+1)=((z+1:Nat):Int):=by rw[aR Yn];omega
  rw[hwz];refine aV.bind (P:=λo=>dv ⟨o.1,o.2.1,o.2.2.1⟩/\tn o.2.2.2/\o.2.2.2.length=6*(z+1)) ?_ λo3 SC=>aV.ret ⟨k-1,Yn,z+1,rfl,Yn,SC.1,SC.2.1,SC.2.2⟩
  refine aV.loop (fun(k:Nat) (s3:Int×(List Y6)×Int×Int×(List bF))=>∃t:Nat,s3.1=((t+1:Nat):Int)/\t+k=3/\dv ⟨s3.2.1,s3.2.2.1,s3.2.2.2.1⟩/\tn s3.2.2.2.2/\s3.2.2.2.2.length=6*z+2*t) (λk s3 hs3=>?_) NN 3 _ ⟨0,rfl,rfl,hc,hR,hL⟩ Ys
  obtain⟨t,ht,hk3,hc3,hR3,hL3⟩:=hs3;unfold pw;rw[ht];refine aV.cond (λhle=>?_) λBa=>aV.ret ⟨hc3,hR3,by have:=Yi Ba;rw[hL3];omega⟩
  have hle:=Yh hle;have hwt:aM (((t+1:Nat):Int)+1)=((t+1+1:Nat):Int):=by rw[aR Yn];omega
  rw[hwt];refine aV.fV (aV.bind (bJ hc3 5) λy7 h7=>aV.cr (oX YN Yn) (aV.fV (aV.bind (bJ h7.2 9) λy8 h8=>aV.cr (oX (by simp only[VZ,V0,V1];omega) Yn) (aV.ret ⟨k-1,Yn,t+1,rfl,Yn,h8.2,?_,by simp only[VZ,V0,V1];omega⟩))))
  have b7:=h7.1.2.1 Yn;have b7':=h7.1.1;have b8:=h8.1.2.1 Yn;have b8':=h8.1.1;have e7:aM (500+aM (100*y7.1))=500+100*y7.1:=by rw[aR (n:=100*y7.1) Yn,aR Yn]
  have e8:aM (1000+aM (100*y8.1))=1000+100*y8.1:=by rw[aR (n:=100*y8.1) Yn,aR Yn]
  refine(hR3.snoc ?_).snoc ?_
  ·rw[hL3]
   refine⟨?_,?_,λ_=>⟨rfl,?_,?_⟩,λ_=>?_⟩<;>simp only[e7,hz]<;>omega
  ·simp only[VZ,V0,V1,hL3]
   refine⟨?_,?_,λ_=>?_,λ_=>⟨rfl,?_,?_⟩⟩<;>simp only[e8,hz]<;>omega
 refine aV.A8 (aV.drw (aV.fV (aV.bind (GO CQ.1) λy9 h9=>?_)))
 rw[LY Pk.2 LB.2 CQ.2.1 CQ.2.2 h9.1,VT];exact aV.ret ⟨⟨_,Pk.2,Tl Pk.2 LB.2 CQ.2.2 h9.1.2 0,Tk Pk.2 LB.2 CQ.2.1 CQ.2.2 h9.1.1,_,rfl⟩,h9.2⟩
theorem OD.le{n:ah}{o:aF}{K:Nat}(h:OD n K o):∀j,OD n (K+j) o
 |0=>h
 |j+1=>(OD.le h j).mono
abbrev tO(o:aF):(List bP)×(List Int)×Int×(List az)×(List aq)×(List av)×Int×(List br)×(List Int)×Int×(List ct)×(List bF)×(List Int)×(List bc)×(List aL)×(List ba):=
 (o.world.aa.aA,o.world.aa.off,o.world.aa.change,o.world.aj,o.world.au,o.world.ae,o.world.now,o.world.aN,o.world.skip,o.world.bg,o.aS,o.aT,o.aI,o.lines,o.aH,o.aD)
/-! Zh8 and lines that fit,or do not. -/
theorem K6{n:ah}(hn:tD n){c:bj}(h:dv c)(hl:o.lines.length<=1048576)(hw:o.world.aa=n):aV (mK c o) λr=>uZ r.1.aJ/\dv r.2.1/\r.2.2=o:=by
 have osl:(⟨#[79,83,76]⟩:ByteArray).size<=100:=by decide
 have pz:uZ (⟨⟨0,0,⟨#[]⟩⟩,⟨#[]⟩,0,[],0⟩:aL):=⟨by decide,by decide,by simp⟩
 unfold mK;rw[hw];refine aV.fV (aV.bind (bJ h 9) λy1 h1=>?_)
 have take:aV ((bq [0]).bind λ_=>(de y1.2).bind λy2=>(bq [0]).bind λ_=>(ay y2.2 6000).bind λy3=>(bq [0]).bind λ_=>(ay y3.2 300).bind λy4=>(bq [0]).bind λ_=>(ay y4.2 200).bind λy5=>(bq [0]).bind λ_=>(ay y5.2 200).bind λy6=>(bq [0]).bind λ_=>(cB y6.2 n).bind λy7=>(bq [0]).bind λ_=>(cB y7.2 n).bind λy8=>
  cond (Y0 (y7.1=y8.1)) (YW ((⟨1,(⟨(⟨y2.1.label.aw,y2.1.label.bO,y8.1⟩:bl),⟨#[79,83,76]⟩,(aM (200+y3.1)),[(aM (100+y4.1)),(aM (100+y5.1)),(aM (50+y6.1))],y2.1.value⟩:aL),0,0,0,(⟨0,0⟩:av)⟩:ba),y8.2,o))
  (YW ((⟨1,(⟨(⟨y2.1.label.aw,y2.1.label.bO,y8.1⟩:bl),y7.1,(aM (200+y3.1)),[(aM (100+y4.1)),(aM (100+y5.1)),(aM (50+y6.1))],y2.1.value⟩:aL),0,0,0,(⟨0,0⟩:av)⟩:ba),y8.2,o))) λr:ba×bj×aF=>uZ r.1.aJ/\dv r.2.1/\r.2.2=o:=
  aV.fV (aV.bind (Dj h1.2) λy2 h2=>aV.fV (aV.bind (bJ h2.2 _) λy3 h3=>aV.fV (aV.bind (bJ h3.2 _) λy4 h4=>aV.fV (aV.bind (bJ h4.2 _) λy5 h5=>aV.fV (aV.bind (bJ h5.2 _) λy6 h6=>aV.fV (aV.bind (BJ hn h6.2) λy7 h7=>aV.fV (aV.bind (BJ hn h7.2) λy8 h8=>aV.cond (λ_=>aV.ret ⟨⟨h8.1,osl,by simp⟩,h8.2,rfl⟩) λ_=>aV.ret ⟨⟨h8.1,h7.1,by simp⟩,h8.2,rfl⟩)))))))
 have g:∀{b:Bool} {x y:Option (ba×bj×aF)},(aV x λr=>uZ r.1.aJ/\dv r.2.1/\r.2.2=o)->(aV y λr=>uZ r.1.aJ/\dv r.2.1/\r.2.2=o)->aV (cond b x y) λr=>uZ r.1.aJ/\dv r.2.1/\r.2.2=o:=λh k=>aV.cond (λ_=>h) λ_=>k
 have rest:aV (cond (Y0 (y1.1=3))
      ((bq [0]).bind λ_=>(ay y1.2 (aM ((o.aH.length:Int)+1))).bind λy9=>(dX o.lines (aM (1+y9.1))).bind λeh=>(bq [0,9]).bind λ_=>(bW y9.2 ([0,0,0,100])).bind λlr=>(fA 1 (aM (eh-lr.1))).bind λoV=>YW ((⟨2,(⟨(⟨0,0,⟨#[]⟩⟩:bl),⟨#[]⟩,0,[],0⟩:aL),(aM (1+y9.1)),oV,0,(⟨0,0⟩:av)⟩:ba),lr.2.1,o))
      (cond (Y0 (y1.1=4)) ((bq [0]).bind λ_=>(dy y1.2 o.world).bind λoD=>YW ((⟨4,(⟨(⟨0,0,⟨#[]⟩⟩:bl),⟨#[]⟩,0,[],0⟩:aL),0,0,0,oD.1⟩:ba),oD.2,o))
      (cond (Y0 (y1.1=5)) (YW ((⟨5,(⟨(⟨0,0,⟨#[]⟩⟩:bl),⟨#[]⟩,0,[],0⟩:aL),0,0,0,(⟨0,0⟩:av)⟩:ba),y1.2,o))
      (cond (Y0 (y1.1=6)) ((bq [0]).bind λ_=>(ay y1.2 (aM ((o.aH.length:Int)+1))).bind λnF=>YW ((⟨6,(⟨(⟨0,0,⟨#[]⟩⟩:bl),⟨#[]⟩,0,[],0⟩:aL),(aM (1+nF.1)),0,0,(⟨0,0⟩:av)⟩:ba),nF.2,o))
      ((oe 8 [4]).bind λ_=>(bq [0]).bind λ_=>(ay y1.2 90).bind λpZ=>YW ((⟨3,(⟨(⟨0,0,⟨#[]⟩⟩:bl),⟨#[]⟩,0,[],0⟩:aL),0,0,(aM (o.world.now+(aM (30*pZ.1)))),(⟨0,0⟩:av)⟩:ba),pZ.2,o)))))) λr:ba×bj×aF=>uZ r.1.aJ/\dv r.2.1/\r.2.2=o:=
  g (aV.fV (aV.bind (bJ h1.2 _) λy9 h9=>aV.bind (aV.of (Q:=λ_=>True) (Gz hl _) trivial) λeh _=>aV.fV (aV.bind (pQ h9.2 Yq) λlr EL=>aV.bind (Gr _ _) λoV _=>aV.ret ⟨pz,EL.2,rfl⟩)))
   (g (aV.fV (aV.bind (FJ hn h1.2 hw) λoD h13=>aV.ret ⟨pz,h13,rfl⟩)) (g (aV.ret ⟨pz,h1.2,rfl⟩) (g (aV.fV (aV.bind (bJ h1.2 _) λnF h14=>aV.ret ⟨pz,h14.2,rfl⟩)) (aV.drw (aV.fV (aV.bind (bJ h1.2 _) λpZ h15=>aV.ret ⟨pz,h15.2,rfl⟩))))))
 exact g (g take rest) (g (g take rest) (g take rest))
theorem HG{n:ah}(hn:tD n){c:bj}(h:dv c)(hl:o.lines.length<=1048576)(hw:o.world.aa=n):aV (jV c o) λr=>uZ r.1.aJ/\r.2.2.aD=o.aD:=by
 unfold jV;exact aV.fV (aV.bind (K6 hn h hl hw) λy1 h1=>aV.fV (aV.bind (bJ h1.2.1 12) λy2 h2=>aV.cond (λ_=>aV.fV (aV.bind (bJ h2.2 9) λy3 _=>aV.ret ⟨h1.1,by rw[h1.2.2]⟩)) λ_=>aV.cond (λ_=>aV.fV (aV.bind (pQ h2.2 Yq) λy3 _=>aV.ret ⟨h1.1,by rw[h1.2.2]⟩)) λ_=>aV.cond (λ_=>aV.fV (aV.bind (pQ h2.2 Yq) λy3 _=>aV.ret ⟨h1.1,by rw[h1.2.2]⟩)) λ_=>aV.cond (λ_=>aV.fV (aV.bind (pQ h2.2 Yq) λy3 _=>aV.ret ⟨h1.1,by rw[h1.2.2]⟩)) λ_=>aV.cond (λ_=>aV.fV (aV.bind (pQ h2.2 Yq) λy3 h3=>aV.fV (aV.bind (pQ h3.2 Yq) λy4 _=>aV.ret ⟨h1.1,by rw[h1.2.2]⟩))) λ_=>aV.cond (λ_=>aV.ret ⟨⟨h1.1.aY,h1.1.ar,h1.1.bE⟩,by rw[h1.2.2]⟩) λ_=>aV.ret ⟨h1.1,by rw[h1.2.2]⟩))
theorem Iu(hl:code.length<=4096)(hb:∀x∈code,0<=x.v/\x.v<=255):aV (ir code) λr=>(∃n,tD n/\OD n 0 r.1/\fK r.1=YY/\∃skip,r.1.world=⟨n,[],[],[],0,[],skip,0⟩)/\r.1.aD=[]/\r.2.length<=9/\∀a∈r.2,PF a.aJ:=by
 unfold ir;refine aV.bind (ZaH hl hb) λy1 h1=>aV.fV (aV.bind (LX h1) λy2 h2=>aV.A8 ?_)
 obtain⟨⟨n,hn,ho,hov,hsk⟩,hc⟩:=h2;have hj0:y2.1.aD=[]:=List.length_eq_zero_iff.1 (Nat.le_zero.1 ho.jl);rw[Bv ho.of,VT];refine aV.fV (aV.bind (bJ hc 9) λy4 h4=>?_)
 have b8:=h4.1;have b8':=b8.2.1 Yn;refine aV.bind (P:=λo=>∃(c:bj) (x:aF),o=(c.b,c.i,c.h,tO x)/\dv c/\OD n 8 x) ?_ λo0 Pk=>?_
 ·have hk:(((y4.1.toNat:Nat):Int))=y4.1:=Yn
  refine aV.loop (fun(k:Nat) s=>∃(c:bj) (x:aF),s=((k:Int),c.b,c.i,c.h,tO x)/\k<=8/\dv c/\OD n (8-k) x) (λk s hs=>?_) NN y4.1.toNat _ ⟨y4.2,y2.1,by rw[hk],Yn,h4.2,by have:=ho.le (8-y4.1.toNat);rwa[Nat.zero_add]at this⟩ Ys
  obtain⟨c,x,rfl,hk,hc,hO⟩:=hs;unfold oP;refine aV.cond (λhd=>?_) λhd=>aV.ret ⟨c,x,rfl,hc,?_⟩
  ·have hd:=Yh hd
   have BE:aM ((k:Int)-1)=((k-1:Nat):Int):=by rw[aR Yn];omega
   refine aV.A8 (aV.drw (aV.fV (aV.bind (Ox hn hc (o:=x) hO.of.lines hO.w.fC) λy3 h3=>aV.bind (VB hn hO h3.1.pf) λy4 h4=>aV.ret ⟨k-1,Yn,y3.2,y4.1,?_,Yn,h3.2,?_⟩)))
   ·rw[<-BE]
   ·rwa[show 8-k+1=8-(k-1)by omega]at h4
  ·have hd:=Yi hd
   have BB:k=0:=Yn;subst BB;exact hO
 ·obtain⟨c,x,rfl,hc,hO⟩:=Pk
  have Bc:=hO.jl;have haf:∀a∈x.aD,PF a.aJ:=hO.of.af;refine aV.fV (aV.bind (mW hc 3) λy7 h7=>aV.cond (λ_=>aV.fV (aV.bind (HG hn h7 (o:=x) hO.of.lines hO.w.fC) λy8 h8=>?_)) λ_=>aV.ret ⟨⟨n,hn,ho,hov,hsk⟩,hj0,by simp only;omega,haf⟩)
  rw[h8.2];refine aV.cr (by unfold bn;exact Ya ⟨by simp only[V0,V1];omega,by simp only[V0,V1];omega⟩) (aV.ret ⟨⟨n,hn,ho,hov,hsk⟩,hj0,by simp only[VZ,V0,V1];omega,λa ha=>?_⟩)
  rcases List.mem_append.1 ha with ha|ha
  ·exact haf a ha
  ·rw[List.mem_singleton.1 ha];exact h8.1.pf
theorem vu(hl:code.length<=4096)(hb:∀x∈code,0<=x.v/\x.v<=255):aV (ir code) λr=>(OF r.1/\r.1.aD=[])/\r.2.length<=20/\∀a∈r.2,PF a.aJ:=(Iu hl hb).mono λr h=>by
 obtain⟨⟨n,_,h1,_⟩,h2,h3,h4⟩:=h;exact⟨⟨h1.of,h2⟩,Yn,h4⟩
theorem xG(c:UInt8):∀l:List UInt8,(jD c l).length<=l.length+1/\0<(jD c l).length
 | []=>by simp[jD]
 |x::xs=>by
  have:=xG c xs;unfold jD
  split
  ·simp;omega
  ·cases h:jD c xs with
   |nil=>rw[h]at this;simp at this
   |cons p ps=>rw[h]at this;simp at this⊢;omega
theorem Ks(c:UInt8)(L:List UInt8):jD c L≠[]:=λh=>by have:=(xG c L).2;rw[h]at this;simp at this
def o5(L:List UInt8):List (List UInt8):=(jD 10 L).dropLast
def D4(a:ba):List UInt8:=((bL a).getD ⟨#[]⟩).data.toList
structure UH(a:ba):Prop where
 isa:bT a=YW YY
 fi:bL a=YW (cE (D4 a))
 fs:cn a=YW (cE (D4 a))
 nl:(10:UInt8) ∉ D4 a
 len:(D4 a).length<=1100
 pa:dU (cE (D4 a))=YW (a,YY)
theorem ZfB(hp:PF a.aJ)(h:bT a=YW YY):UH a:=by
 have hF:=UW hp.fit.1 hp.fit.2.1 hp.fit.2.2 h;obtain⟨v,v1,v2⟩:=BX hp.fit.1 hp.fit.2.1 hp.fit.2.2;obtain rfl:v=true:=Option.some.inj (v1.symm.trans h);obtain⟨s,r⟩:=UX hF v1 v2;have e:D4 a=s.data.toList:=by unfold D4;rw[r.fi];rfl
 have es:cE (D4 a)=s:=by rw[e];exact sP s
 have el:s.data.toList.length=s.size:=by rw[Array.length_toList];rfl
 exact⟨h,by rw[es];exact r.fi,by rw[es];exact r.fs,by rw[e];exact r.nl,by rw[e,el];exact r.len,by rw[es];exact r.pi⟩
theorem yz:∀{l:List ba},(∀a∈l,UH a)->(l.flatMap ki).length<=1101*l.length
 | [],_=>by simp
 |a::l,h=>by
  have h1:=(h a Yq).len;have h2:=yz (l:=l) λb hb=>h b (by simp[hb])
  have h3:(ki a).length=(D4 a).length+1:=by show(D4 a++[10]).length=_;simp
  rw[XT,VZ,V0,h3];omega
theorem AL(hl:l.length<=150)(h:∀a∈l,UH a):eM l=YW (cE (l.flatMap ki)):=by
 have h1:l.all Tp=true:=by
  rw[V2];intro a ha;have r:=h a ha;unfold Tp;rw[r.isa,r.fi];exact Ya (by rw[bD];have:=r.len;omega)
 have h2:l.all KU=true:=by
  rw[V2];intro a ha;unfold KU;rw[(h a ha).isa];rfl
 unfold eM;rw[if_pos ⟨Yn,h1⟩,if_pos h2]
theorem C1(a:ba)(l:List ba):(a::l).flatMap ki=D4 a++10::l.flatMap ki:=by
 rw[XT];show(D4 a++[10])++_=_;simp
theorem C6{p L:List UInt8}(h:(10:UInt8) ∉ p):o5 (p++10::L)=p::o5 L:=by
 unfold o5;rw[nE h,List.dropLast_cons_of_ne_nil (Ks _ _)]
theorem xn{p:List UInt8}(h:(10:UInt8) ∉ p):o5 p=[]:=by
 unfold o5;rw[rN h];rfl
theorem Ip:∀(l:List ba) (k:Nat),(∀a∈l,UH a)->∃j,j<=l.length/\o5 ((l.flatMap ki).take k)=(l.take j).map D4
 | [],k,_=>⟨0,Nat.le_refl _,by simp only[List.flatMap_nil,List.take_nil,List.map_nil];exact xn Yq⟩
 |a::l,k,h=>by
  have hn:=(h a Yq).nl;rw[C1]
  by_cases hk:k<=(D4 a).length
  ·refine⟨0,Nat.zero_le _,?_⟩
   rw[List.take_append_of_le_length hk];simp only[List.take_zero,List.map_nil];exact xn λhm=>hn (Wt hm)
  ·obtain⟨m,rfl⟩:∃m,k=(D4 a).length+(m+1):=⟨k-(D4 a).length-1,Yn⟩
   obtain⟨j,hj,e⟩:=Ip l m λb hb=>h b (by simp[hb])
   refine⟨j+1,by simp only[V0];omega,?_⟩
   rw[List.take_length_add_append,WU,C6 hn,e,WU,List.map_cons]
theorem ZhE{n:Nat}{s:σ}{o:ο}(h:body s=YW (.inr o)):aE body (n+1) s=YW o:=by rw[aE,h];rfl
theorem ZhD{n:Nat}{s s':σ}(h:body s=YW (.inl s')):aE body (n+1) s=aE body n s':=by rw[aE,h];rfl
theorem Zca{M:List ba}(hg:∀a∈M,UH a){y1:List ByteArray}(hM:cM y1 0 (aM ((y1.length:Int)-1))=M.map λa=>cE (D4 a))(hn:((Int.toNat (aM ((y1.length:Int)-1))-Int.toNat 0:Nat):Int)=M.length)(Zc2:M.length<=150):
 ∀(rest:List ba) (k:Nat) (out:List ba) (N:Nat),M.drop k=rest->rest.length<N->out.length=k->aE (ga y1) N ((k:Int),out)=YW (out++rest)
 | [],k,out,N,hr,hN,ho=>by
  obtain⟨N,rfl⟩:∃K,N=K+1:=⟨N-1,Yn⟩;have hk:M.length<=k:=List.drop_eq_nil_iff.1 hr;rw[ZhE (o:=out),List.append_nil];unfold ga;rw[hn];simp only[Yg (show ¬(k:Int)<(M.length:Int)by omega),Yk]
 |a::rest,k,out,N,hr,hN,ho=>by
  obtain⟨N,rfl⟩:∃K,N=K+1:=⟨N-1,Yn⟩;have hk:k<M.length:=by
   rcases Nat.lt_or_ge k M.length with h|h
   ·exact h
   ·rw[List.drop_eq_nil_iff.2 h]at hr;cases hr
  have hx:M[k]?=YW a:=by rw[<-List.head?_drop,hr];rfl
  have hd:M.drop (k+1)=rest:=by rw[<-List.tail_drop,hr];rfl
  have Ba:aB (cM y1 0 (aM ((y1.length:Int)-1))) (k:Int)=YW (cE (D4 a)):=by rw[hM,aP,List.getElem?_map,hx];rfl
  have hw:aM ((k:Int)+1)=((k+1:Nat):Int):=by rw[aR Yn];omega
  rw[ZhD (s':=(((k+1:Nat):Int),out++[a])),Zca hg hM hn Zc2 rest (k+1) (out++[a]) N hd (by simp at hN;omega) Yw,List.append_assoc]
  ·rfl
  ·unfold ga
   rw[hn];simp only[Ya (show(k:Int)<(M.length:Int)by omega),Yj,Ba,VT,(hg a (VW hx)).pa,hw,V3,Yk,Yg (show ¬(150:Int)<=(out.length:Int)by omega),
    show cr (bn (out.length+([a]:List ba).length) 136)=YW ()from ku (Ya ⟨by simp;omega,by simp;omega⟩)]
theorem Zcc{L:List UInt8}(hL:L.length<=1048576){M:List ba}(hg:∀a∈M,UH a)(Zc2:M.length<=150)(hl:o5 L=M.map D4):dJ (cE L)=YW M:=by
 have hs:=DL (c:=10) (L:=L) Yn;have hlen:=xG 10 L;have hML:(o5 L).length=M.length:=by rw[hl,Wj]
 unfold dJ;rw[show(⟨#[10]⟩:ByteArray)=cE [10]from rfl,hs,VT];have hw:aM ((((jD 10 L).map cE).length:Int)-1)=(M.length:Int):=by
  rw[<-hML];unfold o5;rw[Wj,List.length_dropLast,aR Yn];omega
 have vA:cr (fJ 0 (aM ((((jD 10 L).map cE).length:Int)-1)) (((jD 10 L).map cE).length:Int))=YW ():=by
  rw[hw,<-hML];refine ku (Ya ⟨Yn,Yn,?_⟩);unfold o5;rw[List.length_dropLast,Wj];omega
 have sT:cM ((jD 10 L).map cE) 0 (aM ((((jD 10 L).map cE).length:Int)-1))=M.map λa=>cE (D4 a):=by
  have e:(M.map λa=>cE (D4 a))=(o5 L).map cE:=by rw[hl,List.map_map];rfl
  rw[e,hw,<-hML];unfold cM o5;simp[List.dropLast_eq_take]
 have hk:=Zca hg sT (by rw[hw];simp) Zc2 M 0 [] NN rfl Ys rfl
 have UM:aE (ga ((jD 10 L).map cE)) NN (0,[])=YW M:=hk;rw[vA,VT,UM];rfl
theorem TT(hl:l.length<=150)(h:∀a∈l,UH a)(k:Nat):∃j,j<=l.length/\dJ (cE ((l.flatMap ki).take k))=YW (l.take j):=by
 obtain⟨j,hj,e⟩:=Ip l k h;have hle:=yz h;exact⟨j,hj,Zcc (by rw[Wg];omega) (λa ha=>h a (Wt ha)) (by rw[Wg];omega) e⟩
theorem C7:∀{l:List ba},(∀a∈l,UH a)->o5 (l.flatMap ki)=l.map D4
 | [],_=>xn Yq
 |a::l,h=>by rw[C1,C6 (h a Yq).nl,C7 λb hb=>h b (by simp[hb])];rfl
theorem J3(hl:l.length<=150)(h:∀a∈l,UH a):dJ (cE (l.flatMap ki))=YW l:=by
 have hle:=yz h;exact Zcc Yn h hl (C7 h)
theorem Zem(hb:∀x∈code,0<=x.v/\x.v<=255):∃v,rh code 1=YW v/\0<=v/\v<=255:=by
 unfold rh
 by_cases h:(code.length:Int)<=1
 ·rw[Ya h];exact⟨0,rfl,Yn,Yn⟩
 ·rw[Yg h,Yk]
  have hx:code[1]?=YW (code[1]' Yn):=VV _;have hg:aB code 1=YW (code[1]' Yn):=by rw[show(1:Int)=((1:Nat):Int)from rfl,aP];exact hx
  have hm:=hb _ (VW hx);rw[hg,VT];have e:IntKind.i64.wrap (code[1]' Yn).v=(code[1]' Yn).v:=aR Yn;refine⟨_,rfl,?_⟩;rw[e];exact hm
theorem Du{n:Nat}(h:n<=l.length):fU l (n:Int)=YW (l.take n):=by
 unfold fU;rw[Yg (show ¬(l.length:Int)<(n:Int)by omega),Yk,ku (show fJ 0 (n:Int) l.length=YY by unfold fJ;simp only[decide_eq_true_eq];omega),VT,ui]
theorem K7(hl:l.length<=1048576)(h:∀a∈l,∃s,cn a=YW s):jx l l=YW true:=by
 unfold jx;have e:aE (oN l l) NN 0=YW (.inl ()):=by
  refine vE (xs:=l) (λi x hx=>?_) (by unfold oN;simp) hl
  have bX:=(VU.1 hx).1;have hg:aB l (i:Int)=YW x:=by rw[aP];exact hx
  obtain⟨s,hs⟩:=h x (VW hx);unfold oN;simp only[Ya (show(i:Int)<l.length by omega),Yj,hg,hs,VT,decide_true,V3,Yk]
 rw[e,Ya rfl];rfl
structure Zcs(o:aF)(l:List ba)(x:aF)(n:Nat):Prop where
 run:cL o l=YW (x,(n:Int))
 spec:lA o l=YW (x,(n:Int))
 ox:OF x
 le:n<=l.length
 few:n<=150
 jr:x.aD=l.take n
 A9:∀a∈x.aD,UH a
 res:fH o (l.take 150)=(x,n)
theorem Tz(ho:OF o)(hj:o.aD=[])(hl:l.length<=20)(ha:∀a∈l,PF a.aJ):∃x n,Zcs o l x n:=by
 obtain⟨r1,r2,r3⟩:=yQ (l.take 150) ho λb hb=>ha b (Wt hb)
 have hle:=yP (l.take 150) o;rw[Wg]at hle
 have hjr:=(DE ho ha hj).1;have hac:=Fp (l.take 150) ho λb hb=>ha b (Wt hb)
 have ht:(l.take 150).take (fH o (l.take 150)).2=l.take (fH o (l.take 150)).2:=by rw[List.take_take,Nat.min_eq_left Yn]
 rw[ht]at hac
 refine⟨_,_,uJ ho Yn ha,Kc ho Yn ha,r1,Yn,Yn,hjr,λa hm=>?_,rfl⟩
 rw[hjr]at hm
 exact ZfB (ha a (Wt hm)) (hac a hm)
end Go.Proofs.YtdilaemengjipaaGreatDoor
