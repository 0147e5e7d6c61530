/- A part of the proof of the statement in the last file of this claim: texts on the language of the program and on its functions. No condition. -/
import Derived.Test.YtdilaemengjipaaGreatDoorCA37
import Derived.Test.YtdilaemengjipaaGreatDoorCA27
import Derived.Test.YtdilaemengjipaaGreatDoorCA28
import Derived.Test.YtdilaemengjipaaGreatDoorCA38
import Derived.Test.YtdilaemengjipaaGreatDoorCA13
import Derived.Test.YtdilaemengjipaaGreatDoorCA32
import Derived.Test.YtdilaemengjipaaGreatDoorCA29
import Derived.Test.YtdilaemengjipaaGreatDoorCA1
set_option linter.unusedVariables false
set_option linter.unusedSimpArgs false
set_option linter.unusedSectionVars false
open Option renaming some->YH,none->YI
open Bool renaming true->YJ,false->YK
open Decidable renaming decide->YL
namespace Go.Proofs.YtdilaemengjipaaGreatDoor
open List renaming length_append->V3,length_cons->VZ,length_nil->VY,mem_cons->V1,not_mem_nil->V0,getElem?_eq_some_iff->VT,getElem?_eq_getElem->VU,length_set->WI,mem_append->Wl,mem_singleton->Wf,length_take->WR,length_drop->W9,mem_of_getElem?->VV,take_length->XR,range->Wg,getElem?_of_mem->WD,map_append->Xw
open Option renaming bind_some->VS,getD_some->Xe
open Bool renaming and_eq_true->V6,not_eq_true'->WG,not_true->V5
open Nat renaming zero_le->Wu,zero_add->We,le_refl->VX
open _root_.ByteArray renaming size->W4,size_append->WK
set_option maxRecDepth 10000
open Go.RowKit
variable {a:bV}{aX:List bL}{c:aO}{k:Nat}{l:List Ln}{o:aL}{p:List Int}
structure Ar(p:aT):Prop where
 a8:p.label.a8.size<=100
 au:p.au.size<=100
 bH:p.bH.length<=1000
theorem b60(h:k<=100):k<=rq:=by unfold rq;omega
theorem Ar.pf{p:aT}(h:Ar p):PF p:=⟨b60 h.a8,b60 h.au,by have:=h.bH;omega⟩
structure OD(n:aj)(K:Nat)(o:aL):Prop where
 of:OF o
 w:Dj n K o.world
 pl:o.aK.length<=K
 jl:o.aF.length<=K
 rl:1<=o.aX.length
theorem OD.mono{n:aj}{K:Nat}{o:aL}(h:OD n K o):OD n (K+1) o:=⟨h.of,h.w.mono,by have:=h.pl;omega,by have:=h.jl;omega,h.rl⟩
theorem GD{α:Type}{x:Option α}{r:α}{P:α->Prop}(h:aJ x P)(e:x=YH r):P r:=by
 obtain⟨y,e',h⟩:=h;rw[e]at e';rw[Option.some.inj e'];exact h
theorem Ut{n:aj}(hn:qN n){K:Nat}(h:OD n K o)(ha:PF a.aQ):aJ (mC o a) λr=>OD n (K+1) r.1:=by
 obtain⟨x,c,_,e,hx⟩:=Mo h.of ha;refine aJ.of e ?_
 rcases hx with⟨_,rfl⟩ |⟨_,hD⟩
 ·exact h.mono
 have hx:=(Mp h.of ha hD).1;obtain⟨y,rfl,hy⟩:=hD.how;have hu:a.kind=3->a.bM<=100000:=λhk=>by
  have:=Bi ha.fit.1 ha.fit.2.1 ha.fit.2.2 hD.act;omega
 have wq:=h.pl;have Dw:(o.aF++[a]).length<=K+1:=by rw[V3];have:=h.jl;simp only[VZ,VY];omega
 rcases hy with⟨_,hy⟩ |⟨_,hy⟩ |⟨_,w,rfl,hy⟩
 ·obtain⟨v,aG,ys,dW,_,_,_,_,q⟩:=hy.kQ
  have hw:Dj n (K+1) y.world:=GD (P:=λr:ax×Int×Bool=>Dj n (K+1) r.1) (zJ hn h.w _ _ _ _) q
  refine⟨hx,hw,?_,Dw,by show 1<=y.aX.length;rw[hy.aX];exact h.rl⟩
  show y.aK.length<=K+1;rw[hy.aK,V3];simp only[VZ,VY];omega
 ·obtain⟨l,z,rfl,_⟩:=hy
  exact⟨hx,h.w.mono,Nat.le_succ_of_le wq,Dw,h.rl⟩
 ·refine⟨hx,?_,Nat.le_succ_of_le wq,Dw,h.rl⟩
  rcases hy with⟨hk,bU,rfl⟩ |⟨_,q,_⟩ |⟨_,m,_,q,_⟩
  ·have:=GD (GX hn h.w a.bM) (yS h.w.ok.fit _)
   rwa[if_pos ⟨h.w.ok.ok,Int.le_of_lt bU,hu hk⟩]at this
  ·exact GD (P:=λr:ax×Bool=>Dj n (K+1) r.1) (EN hn h.w _) q
  ·exact GD (P:=λr:ax×Int=>Dj n (K+1) r.1) (CP hn h.w) q
theorem Lk{n:aj}(hd:qN n){p:ByteArray}(h:p∈ak n):p.size<=100:=by
 have key:p∈ir n:=by unfold ak at h;rw[r8]at h;simpa using h
 unfold ir at key
 obtain⟨l,hl,hp⟩:=List.mem_flatMap.1 key;simp only[V1,V0,or_false]at hp
 rcases hp with rfl|rfl
 ·have:=(qv _ (hd.bD l hl).au).2;omega
 ·have:=(qv _ (hd.bD l hl).a8).2;omega
theorem MV{n:aj}(hn:qN n)(h:bQ c):aJ (cx c n) λr=>r.1.size<=100/\bQ r.2:=by
 have hl:=hn.len;have hp:0<(ak n).length:=by
  have:=(pL (n:=n) (List.getElem_mem (show 0<n.aA.length by omega))).1
  exact List.length_pos_of_mem this
 unfold cx;rw[(dh hn.fit).2,VS];refine aJ.dq (aJ.bind (iD h 9) λy2 h2=>aJ.cond (λ_=>aJ.dq (aJ.bind (sg h2) λy3 h3=>aJ.ret ⟨le_of_eq_of_le (qv _ h3.1).2 (by decide),h3.2⟩)) λ_=>aJ.dq (aJ.bind (bg h2 _) λy4 h4=>aJ.get h4.1.1 (h4.1.2.1 X9) λx hx _=>aJ.ret ⟨Lk hn hx,h4.2⟩))
theorem Ja{l:List Int}(h:l=[25,50,100]\/l=[10]\/l=[0,100]\/l=[0]\/l=[1,1,2,3,50,100]):oH l=YJ/\l.length<=6:=by
 rcases h with rfl|rfl|rfl|rfl|rfl<;>exact⟨by decide,by decide⟩
theorem yt(h:bQ c):aJ (dU c) λr=>(oH r.1=YJ/\r.1.length<=6)/\bQ r.2:=by
 unfold dU;refine aJ.dq (aJ.bind (bg h 5) λy hy=>aJ.cond (λ_=>aJ.ret ⟨Ja Ye,hy.2⟩) λh0=>aJ.cond (λ_=>aJ.ret ⟨Ja Ye,hy.2⟩) λh1=>aJ.cond (λ_=>aJ.ret ⟨Ja Ye,hy.2⟩) λh2=>aJ.cond (λ_=>aJ.ret ⟨Ja Ye,hy.2⟩) λh3=>aJ.cond (λ_=>aJ.ret ⟨Ja Ye,hy.2⟩) λh4=>?_)
 have:=X4 h0;have:=X4 h1;have:=X4 h2;have:=X4 h3;have:=X4 h4;have:=hy.1.1;have:=hy.1.2.1 X9;omega
theorem OC(h:bQ c):aJ (lN c) λr=>r.1.a8.size<=100/\bQ r.2:=by
 unfold lN;have sz:∀p∈rO,p.size<=100:=λp hp=>by have:=(qv p hp).2;omega
 exact aJ.dq (aJ.bind (bg h 3) λy1 h1=>aJ.dq (aJ.bind (bg h1.2 1000) λy2 h2=>aJ.dq (aJ.bind (sg h2.2) λy3 h3=>aJ.dq (aJ.bind (iD h3.2 3) λy4 h4=>aJ.cond (λ_=>aJ.dq (aJ.bind (jL h4 Ye) λy5 h5=>aJ.ret ⟨sz _ h3.1,h5.2⟩)) λ_=>aJ.ret ⟨sz _ h3.1,h4⟩))))
theorem PC(h:bQ c):aJ (lO c) λr=>r.1.length<=3/\bQ r.2:=by
 unfold lO;exact aJ.dq (aJ.bind (bg h _) λy1 h1=>aJ.dq (aJ.bind (bg h1.2 _) λy2 h2=>aJ.dq (aJ.bind (bg h2.2 _) λy3 h3=>aJ.ret ⟨by simp,h3.2⟩)))
theorem CA(h:bQ c):aJ (eG c) λr=>Ar r.1/\bQ r.2:=by
 unfold eG;have sz:∀p∈rO,p.size<=100:=λp hp=>by have:=(qv p hp).2;omega
 have osl:(⟨#[79,83,76]⟩:ByteArray).size<=100:=by decide
 refine aJ.dq (aJ.bind (OC h) λy1 h1=>aJ.dq (aJ.bind (sg h1.2) λy2 h2=>aJ.dq (aJ.bind (bg h2.2 _) λy3 h3=>aJ.dq (aJ.bind (PC h3.2) λy4 h4=>aJ.dq (aJ.bind (bg h4.2 _) λy5 h5=>?_)))))
 have hs:y4.1.length<=1000:=X9;exact aJ.cond (λ_=>aJ.dq (aJ.bind (iD h5.2 3) λy6 h6=>aJ.cond (λ_=>aJ.dq (aJ.bind (jL h6 Ye) λy7 h7=>aJ.ret ⟨⟨h1.1,osl,hs⟩,h7.2⟩)) λ_=>aJ.ret ⟨⟨h1.1,osl,hs⟩,h6⟩)) λ_=>aJ.dq (aJ.bind (iD h5.2 3) λy6 h6=>aJ.cond (λ_=>aJ.dq (aJ.bind (jL h6 Ye) λy7 h7=>aJ.ret ⟨⟨h1.1,sz _ h2.1,hs⟩,h7.2⟩)) λ_=>aJ.ret ⟨⟨h1.1,sz _ h2.1,hs⟩,h6⟩)
theorem DN{n:aj}(hn:qN n)(h:bQ c)(hl:o.lines.length<=1048576)(hw:o.world.aa=n):aJ (ka c o) λr=>Ar r.1.aQ/\bQ r.2:=by
 have osl:(⟨#[79,83,76]⟩:ByteArray).size<=100:=by decide
 have pz:Ar (⟨⟨0,0,⟨#[]⟩⟩,⟨#[]⟩,0,[],0⟩:aT):=⟨by decide,by decide,by simp⟩
 unfold ka;rw[hw];refine aJ.dq (aJ.bind (bg h 9) λy1 h1=>?_)
 have take:aJ ((bh [0]).bind λ_=>(eG y1.2).bind λy2=>(bh [0]).bind λ_=>(aw y2.2 6000).bind λy3=>(bh [0]).bind λ_=>(aw y3.2 300).bind λy4=>(bh [0]).bind λ_=>(aw y4.2 200).bind λy5=>(bh [0]).bind λ_=>(aw y5.2 200).bind λy6=>(bh [0]).bind λ_=>(cx y6.2 n).bind λy7=>(bh [0]).bind λ_=>(cx y7.2 n).bind λy8=>
  cond (YL (y7.1=y8.1)) (YH ((⟨1,(⟨(⟨y2.1.label.ay,y2.1.label.da,y8.1⟩:cq),⟨#[79,83,76]⟩,(aI (200+y3.1)),[(aI (100+y4.1)),(aI (100+y5.1)),(aI (50+y6.1))],y2.1.value⟩:aT),0,0,0,(⟨0,0⟩:av)⟩:bV),y8.2))
  (YH ((⟨1,(⟨(⟨y2.1.label.ay,y2.1.label.da,y8.1⟩:cq),y7.1,(aI (200+y3.1)),[(aI (100+y4.1)),(aI (100+y5.1)),(aI (50+y6.1))],y2.1.value⟩:aT),0,0,0,(⟨0,0⟩:av)⟩:bV),y8.2))) λr:bV×aO=>Ar r.1.aQ/\bQ r.2:=
  aJ.dq (aJ.bind (CA h1.2) λy2 h2=>aJ.dq (aJ.bind (bg h2.2 _) λy3 h3=>aJ.dq (aJ.bind (bg h3.2 _) λy4 h4=>aJ.dq (aJ.bind (bg h4.2 _) λy5 h5=>aJ.dq (aJ.bind (bg h5.2 _) λy6 h6=>aJ.dq (aJ.bind (MV hn h6.2) λy7 h7=>aJ.dq (aJ.bind (MV hn h7.2) λy8 h8=>aJ.cond (λ_=>aJ.ret ⟨⟨h8.1,osl,by simp⟩,h8.2⟩) λ_=>aJ.ret ⟨⟨h8.1,h7.1,by simp⟩,h8.2⟩)))))))
 have g:∀{b:Bool} {x y:Option (bV×aO)},(aJ x λr=>Ar r.1.aQ/\bQ r.2)->(aJ y λr=>Ar r.1.aQ/\bQ r.2)->aJ (cond b x y) λr=>Ar r.1.aQ/\bQ r.2:=λh k=>aJ.cond (λ_=>h) λ_=>k
 have rest:aJ (cond (YL (y1.1=3))
      ((bh [0]).bind λ_=>(aw y1.2 (aI ((o.aK.length:Int)+1))).bind λy9=>(eo o.lines (aI (1+y9.1))).bind λdL=>(bh [0,3]).bind λ_=>(bx y9.2 ([0,0,0,100])).bind λji=>(fB 1 (aI (dL-ji.1))).bind λoX=>YH ((⟨2,(⟨(⟨0,0,⟨#[]⟩⟩:cq),⟨#[]⟩,0,[],0⟩:aT),(aI (1+y9.1)),oX,0,(⟨0,0⟩:av)⟩:bV),ji.2.1))
      (cond (YL (y1.1=4)) ((bh [0]).bind λ_=>(dO y1.2 o.world).bind λmf=>YH ((⟨4,(⟨(⟨0,0,⟨#[]⟩⟩:cq),⟨#[]⟩,0,[],0⟩:aT),0,0,0,mf.1⟩:bV),mf.2))
      (cond (YL (y1.1=5)) (YH ((⟨5,(⟨(⟨0,0,⟨#[]⟩⟩:cq),⟨#[]⟩,0,[],0⟩:aT),0,0,0,(⟨0,0⟩:av)⟩:bV),y1.2))
      (cond (YL (y1.1=6)) ((bh [0]).bind λ_=>(aw y1.2 (aI ((o.aK.length:Int)+1))).bind λkX=>YH ((⟨6,(⟨(⟨0,0,⟨#[]⟩⟩:cq),⟨#[]⟩,0,[],0⟩:aT),(aI (1+kX.1)),0,0,(⟨0,0⟩:av)⟩:bV),kX.2))
      ((kR 8 [4]).bind λ_=>(bh [0]).bind λ_=>(aw y1.2 90).bind λpg=>YH ((⟨3,(⟨(⟨0,0,⟨#[]⟩⟩:cq),⟨#[]⟩,0,[],0⟩:aT),0,0,(aI (o.world.now+(aI (30*pg.1)))),(⟨0,0⟩:av)⟩:bV),pg.2)))))) λr:bV×aO=>Ar r.1.aQ/\bQ r.2:=
  g (aJ.dq (aJ.bind (bg h1.2 _) λy9 h9=>aJ.bind (aJ.of (Q:=λ_=>True) (F5 hl _) trivial) λdL _=>aJ.dq (aJ.bind (jL h9.2 Ye) λji Eb=>aJ.bind (FV _ _) λoX _=>aJ.ret ⟨pz,Eb.2⟩)))
   (g (aJ.dq (aJ.bind (E9 hn h1.2 hw) λmf h13=>aJ.ret ⟨pz,h13⟩)) (g (aJ.ret ⟨pz,h1.2⟩) (g (aJ.dq (aJ.bind (bg h1.2 _) λkX h14=>aJ.ret ⟨pz,h14.2⟩)) (aJ.D3 (aJ.dq (aJ.bind (bg h1.2 _) λpg h15=>aJ.ret ⟨pz,h15.2⟩))))))
 exact g (g take rest) (g (g take rest) (g take rest))
theorem Kb{n:aj}(hn:qN n)(h:bQ c)(hl:o.lines.length<=1048576)(hw:o.world.aa=n):aJ (jE c o) λr=>Ar r.1.aQ:=by
 unfold jE;exact aJ.dq (aJ.bind (DN hn h hl hw) λy1 h1=>aJ.dq (aJ.bind (bg h1.2 12) λy2 h2=>aJ.cond (λ_=>aJ.dq (aJ.bind (bg h2.2 9) λy3 _=>aJ.ret h1.1)) λ_=>aJ.cond (λ_=>aJ.dq (aJ.bind (jL h2.2 Ye) λy3 _=>aJ.ret h1.1)) λ_=>aJ.cond (λ_=>aJ.dq (aJ.bind (jL h2.2 Ye) λy3 _=>aJ.ret h1.1)) λ_=>aJ.cond (λ_=>aJ.dq (aJ.bind (jL h2.2 Ye) λy3 _=>aJ.ret h1.1)) λ_=>aJ.cond (λ_=>aJ.dq (aJ.bind (jL h2.2 Ye) λy3 h3=>aJ.dq (aJ.bind (jL h3.2 Ye) λy4 _=>aJ.ret h1.1))) λ_=>aJ.cond (λ_=>aJ.ret ⟨h1.1.a8,h1.1.au,h1.1.bH⟩) λ_=>aJ.ret h1.1))
abbrev ZZ:List bI:=[(⟨⟨#[65,65,65]⟩,⟨#[67,90,90]⟩⟩:bI),(⟨⟨#[68,65,65]⟩,⟨#[90,90,90]⟩⟩:bI)]
theorem ZcQ:rF ZZ:=⟨by simp,λz hz=>by
 simp only[V1,V0,or_false]at hz
 rcases hz with rfl|rfl<;>exact⟨b60 (by decide),b60 (by decide)⟩⟩
theorem ZeV:rM ZZ=true:=by decide +kernel
def ZaS(i:Nat)(r:bL):Prop:=r.nt=((i / 6:Nat):Int)/\r.ay=((1+i % 6 / 2:Nat):Int)/\(i % 2=0->r.nU=5000/\500<=r.kQ/\r.kQ<=900)/\(i % 2=1->r.nU=40000/\1000<=r.kQ/\r.kQ<=1800)
def s8(l:List bL):Prop:=∀(i:Nat) r,l[i]?=YH r->ZaS i r
theorem s8.snoc{l:List bL}{r:bL}(h:s8 l)(hr:ZaS l.length r):s8 (l++[r]):=λi x hx=>by
 rw[List.getElem?_append]at hx
 split at hx
 ·exact h i x hx
 ·rename_i hn
  have hi:i-l.length=0:=by
   have:=(VT.1 hx).1;simp only[VZ,VY]at this
   omega
  rw[hi]at hx
  have:i=l.length:=X9;subst this;simp at hx
  rw[<-hx];exact hr
theorem SM{l:List bL}(h:s8 l)(hl:l.length=12):rJ l 2=true:=by
 unfold rJ;rw[V6];refine⟨cB.2 λj x hx=>?_,X1 X9⟩
 have hj:=(VT.1 hx).1;rw[hl]at hj
 obtain⟨a,b,c,d⟩:=h j x hx;unfold EJ;have z0:x.nt=0\/x.nt=1:=X9;have hs:1<=x.ay/\x.ay<=3:=X9;have Zf2:1<=x.nU/\x.nU<=1000000000:=X9;have hp:0<=x.kQ/\x.kQ<=100000:=X9;have Zef:(YL (0+j=0) ||S3 l[0+j-1]? x)=true:=by
  by_cases h0:j=0
  ·subst h0;rfl
  ·obtain⟨y,hy⟩:∃y,l[j-1]?=YH y:=⟨_,VU X9⟩
   obtain⟨a',b',c',d'⟩:=h (j-1) y hy;rw[show 0+j-1=j-1 by omega,hy,Gq]
   unfold ub;simp only[Bool.or_eq_true,V6,decide_eq_true_eq];omega
 simp only[V6,WG,decide_eq_true_eq,X8];exact⟨X9,X9,hs,Zf2,hp,Zef⟩
section
variable {n:aj} (hd:qN n) {skip:List Int} (hs:skip.length<=50)
include hd hs
theorem Vn:qp (⟨n,[],[],[],0,[],skip,0⟩:ax):=⟨hd.fit,by simp,by simp,by simp,by simp,by simp only;omega,λo ho=>by cases ho⟩
theorem ZeA:ew (⟨n,[],[],[],0,[],skip,0⟩:ax)=true:=by
 unfold ew cn uC;simp only[hd.ok,Xe];simp[allI];omega
theorem Sh(hl:aX.length=12)(hp:p.length<=6)(K:Nat):OD n K (⟨⟨n,[],[],[],0,[],skip,0⟩,ZZ,aX,p,[],[],[]⟩:aL):=
 ⟨⟨Vn hd hs,ZcQ,by simp only;omega,by simp only;omega,by simp,by simp,by simp,λp hp=>(by cases hp),λa ha=>(by cases ha)⟩,Zez hd hs K,Wu _,Wu _,by simp only;omega⟩
theorem Sg(hr:s8 aX)(hl:aX.length=12)(hp:oH p=YJ):iu (⟨⟨n,[],[],[],0,[],skip,0⟩,ZZ,aX,p,[],[],[]⟩:aL)=true:=
 tQ (ZeA hd hs) ZeV (by rw[show((ZZ.length:Nat):Int)=2 from rfl];exact SM hr hl) hp rfl rfl Ye rfl rfl rfl
theorem K0(hr:s8 aX)(hl:aX.length=12)(hp:oH p=YJ/\p.length<=6):
 ky n skip ZZ aX p=YH ((⟨⟨n,[],[],[],0,[],skip,0⟩,ZZ,aX,p,[],[],[]⟩:aL),YJ):=by
 have ho:=Sh hd hs hl hp.2 0;unfold ky;rw[Ex hd hs,VS];show(iJ _).bind _=_;rw[Mk ho.of,VS,An ho.of.fit,Sg hd hs hr hl hp.1];rfl
end
theorem KZ(h:bQ c):aJ (j7 c) λr=>(∃n,qN n/\OD n 0 r.1/\iu r.1=YJ/\∃skip,r.1.world=⟨n,[],[],[],0,[],skip,0⟩)/\bQ r.2:=by
 unfold j7;refine aJ.dq (aJ.bind (MP h) λy1 h1=>?_)
 obtain⟨h1,Ax⟩:=h1;refine aJ.bind (P:=λo=>bQ ⟨o.1,o.2.1,o.2.2.1⟩/\qN ⟨o.2.2.2,y1.1.off,y1.1.change⟩) ?_ λo0 Ch=>?_
 ·have hlen:=h1.len
  refine aJ.loop (fun(k:Nat) (s:Int×(List YR)×Int×Int×(List bK))=>∃i:Nat,s.1=(i:Int)/\i+k=s.2.2.2.2.length/\bQ ⟨s.2.1,s.2.2.1,s.2.2.2.1⟩/\qN ⟨s.2.2.2.2,y1.1.off,y1.1.change⟩) (λk s hs=>?_) NN y1.1.aA.length _ ⟨0,rfl,by simp,Ax,h1⟩ Yc
  obtain⟨i,hi,hk,hc,hd⟩:=hs;have MA:=hd.len;simp only at MA
  unfold o9;rw[hi];refine aJ.cond (λbU=>?_) λ_=>aJ.ret ⟨hc,hd⟩
  have bU:=X3 bU;have wI:aI ((i:Int)+1)=((i+1:Nat):Int):=by rw[aR X9];omega
  rw[wI];refine aJ.dq (aJ.bind (iD hc 3) λy2 h2=>aJ.cond (λ_=>aJ.D3 (aJ.dq (aJ.bind (bg h2 20) λy3 h3=>?_))) λ_=>aJ.ret ⟨k-1,X9,i+1,rfl,by simp only;omega,h2,hd⟩)
  refine aJ.get X9 bU λx hx _=>aJ.ret ⟨k-1,X9,i+1,rfl,by simp only[WI];omega,h3.2,?_⟩
  have b3:=h3.1.2.1 X9;have b0:=h3.1.1;have hr:aI (3000+aI (1000*y3.1))=3000+1000*y3.1:=by rw[aR (n:=1000*y3.1) X9,aR X9]
  refine⟨by simp only[WI];exact MA,λl hl=>?_,hd.off,hd.change⟩
  rcases List.mem_or_eq_of_mem_set hl with hl|rfl
  ·exact hd.bD l hl
  ·obtain⟨a1,a2,a3,a4,a5,a6,a7⟩:=hd.bD x hx
   exact⟨a1,a2,a3,a4,a5,a6,by simp only[hr];omega⟩
 refine aJ.dq (aJ.bind (bg Ch.1 5) λy5 h5=>?_)
 have b5:=h5.1.2.1 X9;have b5':=h5.1.1;refine aJ.bind (P:=λo=>bQ ⟨o.1,o.2.1,o.2.2.1⟩/\o.2.2.2.length<=50) ?_ λo1 Dz=>?_
 ·refine aJ.loop (fun(k:Nat) (s:Int×(List YR)×Int×Int×(List Int))=>s.1=(k:Int)/\s.2.2.2.2.length+k<=5/\bQ ⟨s.2.1,s.2.2.1,s.2.2.2.1⟩) (λk s hs=>?_) NN y5.1.toNat _ ⟨by simp only;omega,by simp only[VY];omega,h5.2⟩ Yc
  obtain⟨hk,hl,hc⟩:=hs;unfold pa;refine aJ.cond (λhd=>?_) λ_=>aJ.ret ⟨hc,by simp only;omega⟩
  have hd:=X3 hd;have wI:aI (s.1-1)=((k-1:Nat):Int):=by rw[aR X9];omega
  exact aJ.dq (aJ.bind (bg hc 20) λy6 h6=>aJ.bW (jj Ym X9) (aJ.ret ⟨k-1,X9,wI,by simp only[V3,VZ,VY];omega,h6.2⟩))
 refine aJ.bind (P:=λo=>bQ ⟨o.1,o.2.1,o.2.2.1⟩/\s8 o.2.2.2/\o.2.2.2.length=12) ?_ λo2 zX=>?_
 ·refine aJ.loop (fun(k:Nat) (s:Int×(List YR)×Int×Int×(List bL))=>∃z:Nat,s.1=(z:Int)/\z+k=2/\bQ ⟨s.2.1,s.2.2.1,s.2.2.2.1⟩/\s8 s.2.2.2.2/\s.2.2.2.2.length=6*z) (λk s hs=>?_) NN 2 _ ⟨0,rfl,rfl,Dz.1,λi r hr=>(by simp at hr),rfl⟩ Yc
  obtain⟨z,hz,hk,hc,hR,hL⟩:=hs;unfold pb;rw[hz];refine aJ.cond (λbU=>?_) λyM=>aJ.ret ⟨hc,hR,by have:=X4 yM;rw[hL];omega⟩
  have bU:=X3 bU;have hwz:aI ((z:Int)+1)=((z+1:Nat):Int):=by rw[aR X9];omega
  rw[hwz];refine aJ.bind (P:=λo=>bQ ⟨o.1,o.2.1,o.2.2.1⟩/\s8 o.2.2.2/\o.2.2.2.length=6*(z+1)) ?_ λo3 GO=>aJ.ret ⟨k-1,X9,z+1,rfl,X9,GO.1,GO.2.1,GO.2.2⟩
  refine aJ.loop (fun(k:Nat) (s3:Int×(List YR)×Int×Int×(List bL))=>∃t:Nat,s3.1=((t+1:Nat):Int)/\t+k=3/\bQ ⟨s3.2.1,s3.2.2.1,s3.2.2.2.1⟩/\s8 s3.2.2.2.2/\s3.2.2.2.2.length=6*z+2*t) (λk s3 hs3=>?_) NN 3 _ ⟨0,rfl,rfl,hc,hR,hL⟩ Yc
  obtain⟨t,ht,hk3,hc3,hR3,hL3⟩:=hs3;unfold pd;rw[ht];refine aJ.cond (λhle=>?_) λCc=>aJ.ret ⟨hc3,hR3,by have:=X4 Cc;rw[hL3];omega⟩
  have hle:=X3 hle;have hwt:aI (((t+1:Nat):Int)+1)=((t+1+1:Nat):Int):=by rw[aR X9];omega
  rw[hwt];refine aJ.dq (aJ.bind (bg hc3 5) λy7 h7=>aJ.bW (jj Ym X9) (aJ.dq (aJ.bind (bg h7.2 9) λy8 h8=>aJ.bW (jj (by simp only[V3,VZ,VY];omega) X9) (aJ.ret ⟨k-1,X9,t+1,rfl,X9,h8.2,?_,by simp only[V3,VZ,VY];omega⟩))))
  have b7:=h7.1.2.1 X9;have b7':=h7.1.1;have b8:=h8.1.2.1 X9;have b8':=h8.1.1;have e7:aI (500+aI (100*y7.1))=500+100*y7.1:=by rw[aR (n:=100*y7.1) X9,aR X9]
  have e8:aI (1000+aI (100*y8.1))=1000+100*y8.1:=by rw[aR (n:=100*y8.1) X9,aR X9]
  refine(hR3.snoc ?_).snoc ?_
  ·rw[hL3]
   refine⟨?_,?_,λ_=>⟨rfl,?_,?_⟩,λ_=>?_⟩<;>simp only[e7,hz]<;>omega
  ·simp only[V3,VZ,VY,hL3]
   refine⟨?_,?_,λ_=>?_,λ_=>⟨rfl,?_,?_⟩⟩<;>simp only[e8,hz]<;>omega
 refine aJ.D9 (aJ.D3 (aJ.dq (aJ.bind (yt zX.1) λy9 h9=>?_)))
 rw[K0 Ch.2 Dz.2 zX.2.1 zX.2.2 h9.1,VS];exact aJ.ret ⟨⟨_,Ch.2,Sh Ch.2 Dz.2 zX.2.2 h9.1.2 0,Sg Ch.2 Dz.2 zX.2.1 zX.2.2 h9.1.1,_,rfl⟩,h9.2⟩
theorem OR(h:bQ c):aJ (j7 c) λr=>(∃n,qN n/\OD n 0 r.1)/\bQ r.2:=(KZ h).mono λr h=>by
 obtain⟨⟨n,h1,h2,_⟩,h3⟩:=h;exact⟨⟨n,h1,h2⟩,h3⟩
theorem OD.le{n:aj}{o:aL}{K:Nat}(h:OD n K o):∀j,OD n (K+j) o
 |0=>h
 |j+1=>(OD.le h j).mono
abbrev tO(o:aL):(List bK)×(List Int)×Int×(List az)×(List aq)×(List av)×Int×(List bq)×(List Int)×Int×(List bI)×(List bL)×(List Int)×(List aU)×(List aT)×(List bV):=
 (o.world.aa.aA,o.world.aa.off,o.world.aa.change,o.world.ae,o.world.ar,o.world.ah,o.world.now,o.world.aH,o.world.skip,o.world.bd,o.aY,o.aX,o.aM,o.lines,o.aK,o.aF)
theorem Kt(h:bQ c)(iC:Int)(hm:iC<=9):aJ (lL c iC) λr=>(∃n,qN n/\OD n 8 r.1)/\bQ r.2:=by
 unfold lL;refine aJ.dq (aJ.bind (OR h) λy1 h1=>aJ.dq (aJ.bind (bg h1.2 iC) λy2 h2=>?_))
 obtain⟨⟨n,hn,ho⟩,hc⟩:=h1;have b8:=h2.1;have b8':y2.1<=8:=by
  rcases Int.lt_or_le 0 iC with hp|hp
  ·have:=b8.2.1 hp;omega
  ·have:=b8.2.2 hp;omega
 refine aJ.bind (P:=λo=>∃(c:aO) (x:aL),o=(c.b,c.i,c.h,tO x)/\bQ c/\OD n 8 x) ?_ λo0 Ch=>?_
 ·have hk:(((y2.1.toNat:Nat):Int))=y2.1:=X9
  refine aJ.loop (fun(k:Nat) s=>∃(c:aO) (x:aL),s=((k:Int),c.b,c.i,c.h,tO x)/\k<=8/\bQ c/\OD n (8-k) x) (λk s hs=>?_) NN y2.1.toNat _ ⟨y2.2,y1.1,by rw[hk],X9,h2.2,by have:=ho.le (8-y2.1.toNat);rwa[We]at this⟩ Yc
  obtain⟨c,x,rfl,hk,hc,hO⟩:=hs;unfold oD;refine aJ.cond (λhd=>?_) λhd=>aJ.ret ⟨c,x,rfl,hc,?_⟩
  ·have hd:=X3 hd
   have wI:aI ((k:Int)-1)=((k-1:Nat):Int):=by rw[aR X9];omega
   refine aJ.D9 (aJ.D3 (aJ.dq (aJ.bind (DN hn hc (o:=x) hO.of.lines hO.w.eO) λy3 h3=>aJ.bind (Ut hn hO h3.1.pf) λy4 h4=>aJ.ret ⟨k-1,X9,y3.2,y4.1,?_,X9,h3.2,?_⟩)))
   ·rw[<-wI]
   ·rwa[show 8-k+1=8-(k-1)by omega]at h4
  ·have hd:=X4 hd
   have xU:k=0:=X9;subst xU;exact hO
 ·obtain⟨c,x,rfl,hc,hO⟩:=Ch
  exact aJ.ret ⟨⟨n,hn,hO⟩,hc⟩
/-! ZgO and lines that fit,or do not. -/
def ZS(l:List bI):Prop:=∀z∈l,z.first.size<=100/\z.last.size<=100
theorem ZS.fit{l:List bI}(h:ZS l)(hl:l.length<=1000):rF l:=⟨X9,λz hz=>⟨b60 (h z hz).1,b60 (h z hz).2⟩⟩
theorem ZS.snoc{l:List bI}{z:bI}(h:ZS l)(h1:z.first.size<=100)(h2:z.last.size<=100):ZS (l++[z]):=λy hy=>by
 rcases Wl.1 hy with hy|hy
 ·exact h y hy
 ·rw[Wf.1 hy];exact⟨h1,h2⟩
theorem PR(h:bQ c):aJ (lP c) λr=>(ZS r.1/\r.1.length<=4)/\bQ r.2:=by
 unfold lP;refine aJ.dq (aJ.bind (bg h 4) λy hy=>aJ.cond (λ_=>aJ.ret ⟨⟨?_,by simp⟩,hy.2⟩) λh0=>aJ.cond (λ_=>aJ.ret ⟨⟨?_,by simp⟩,hy.2⟩) λh1=>aJ.cond (λ_=>aJ.ret ⟨⟨?_,by simp⟩,hy.2⟩) λh2=>aJ.cond (λ_=>aJ.ret ⟨⟨?_,by simp⟩,hy.2⟩) λh3=>?_)
 ·intro z hz
  simp only[V1,V0,or_false]at hz
  rcases hz with rfl|rfl<;>exact⟨by decide,by decide⟩
 ·intro z hz
  simp only[V1,V0,or_false]at hz
  rw[hz];exact⟨by decide,by decide⟩
 ·intro z hz
  simp only[V1,V0,or_false]at hz
  rcases hz with rfl|rfl|rfl<;>exact⟨by decide,by decide⟩
 ·intro z hz;cases hz
 ·have:=X4 h0
  have:=X4 h1;have:=X4 h2;have:=X4 h3;have:=hy.1.1;have:=hy.1.2.1 X9;omega
theorem Fj(h:bQ c):aJ (jf c) λr=>(ZS r.1/\r.1.length<=20)/\bQ r.2:=by
 unfold jf;refine aJ.dq (aJ.bind (PR h) λy1 h1=>aJ.dq (aJ.bind (bg h1.2 5) λy2 h2=>aJ.cond (λ_=>?_) λ_=>aJ.cond (λ_=>?_) λ_=>aJ.ret ⟨⟨h1.1.1,by have:=h1.1.2;simp only;omega⟩,h2.2⟩))
 ·refine aJ.dq (aJ.bind (A8 h2.2 Ye) λy3 h3=>aJ.bW (jj Ym X9) (aJ.ret ⟨⟨h1.1.1.snoc (by show W4 ⟨#[71,79,84]⟩<=100;decide) ?_,by simp only[V3,VZ,VY];omega⟩,h3.2⟩))
  have:=h3.1;simp only[V1,V0,or_false]at this
  rcases this with e|e|e|e<;>(show y3.1.size<=100;rw[e];decide)
 ·refine aJ.bind (P:=λo=>ZS o/\8<o.length/\o.length<=9) ?_ λo0 Ch=>aJ.dq (aJ.bind (jL h2.2 Ye) λy4 h4=>aJ.bW ?_ (aJ.ret ⟨⟨λz hz=>?_,?_⟩,h4.2⟩))
  ·refine aJ.loop (fun(k:Nat) (s:List bI)=>ZS s/\s.length+k=9) (λk s hs=>?_) NN (9-y1.1.length) _ ⟨h1.1.1,X9⟩ Yc
   obtain⟨hz,hk⟩:=hs;unfold mH;have e1:(⟨#[90]⟩:ByteArray).size=1:=rfl;have e2:(⟨#[65]⟩:ByteArray).size=1:=rfl;have e3:(⟨#[66]⟩:ByteArray).size=1:=rfl;have st:∀{a b:ByteArray},a.size+b.size<=1000->cY a b=true:=λh=>X1 X9
   refine aJ.cond (λhd=>?_) λhd=>aJ.ret ⟨hz,by have:=X4 hd;omega,X9⟩
   have hd:=X3 hd;refine aJ.bW (st (by rw[strOfNums_size,e1];simp)) (aJ.bW (st (by rw[WK,strOfNums_size,e1,e2];simp)) (aJ.bW (st (by rw[strOfNums_size,e1];simp)) (aJ.bW (st (by rw[WK,strOfNums_size,e1,e3];simp)) (aJ.bW (jj Ym X9) (aJ.ret ⟨k-1,X9,hz.snoc ?_ ?_,by simp only[V3,VZ,VY];omega⟩)))))
   ·rw[WK,WK,strOfNums_size,e1,e2];simp
   ·rw[WK,WK,strOfNums_size,e1,e3];simp
  ·have:=h4.1
   simp only[V1,V0,or_false]at this
   unfold gg;exact X1 X9
  ·exact Ch.1 z (List.mem_of_mem_drop (List.mem_of_mem_take hz))
  ·simp only[cH,WR,W9];omega
theorem CI(l:List aU)(x:aU):(sI l x).1.length<=l.length+1:=by
 unfold sI
 split
 ·simp
 ·split<;>simp
theorem Kh(l:List aU)(o a t:Int):(qt l o a t).1.length<=l.length+1:=by
 unfold qt
 repeat' split
 all_goals first|exact CI _ _|simp
theorem MX(l:List aU)(o a t:Int):(DG l o a t).1.length<=l.length+1:=by
 unfold DG
 repeat' split
 all_goals first|exact CI _ _|simp
theorem LC(l:List aU)(o du en:Int)(ps:List Int)(t:Int):(rk l o du en ps t).1.length<=l.length+1:=by
 unfold rk
 repeat' split
 all_goals first|exact CI _ _|simp
theorem KU(h:bQ c)(iC:Int)(hm:iC<=1000):aJ (lK c iC) λr=>r.1.length<=4000/\bQ r.2:=by
 unfold lK;refine aJ.dq (aJ.bind (bg h iC) λy1 h1=>?_)
 have b:=h1.1;have b':y1.1<=1000:=by
  rcases Int.lt_or_le 0 iC with hp|hp
  ·have:=b.2.1 hp;omega
  ·have:=b.2.2 hp;omega
 refine aJ.bind (P:=λo=>∃(c:aO) (l:List aU),o=(c.b,c.i,c.h,l)/\bQ c/\l.length<=4000) ?_ λo0 Ch=>?_
 ·have hk:(((y1.1.toNat:Nat):Int))=y1.1:=X9
  refine aJ.loop (fun(k:Nat) s=>∃(a:Int) (c:aO) (l:List aU),s=(a,(k:Int),c.b,c.i,c.h,l)/\k<=1000/\bQ c/\l.length+2*k<=4000) (λk s hs=>?_) NN y1.1.toNat _ ⟨0,y1.2,[],by rw[hk],X9,h1.2,by simp only[VY];omega⟩ Yc
  obtain⟨a,c,l,rfl,hk,hc,hl⟩:=hs;unfold oC;refine aJ.cond (λhd=>?_) λhd=>aJ.ret ⟨c,l,rfl,hc,X9⟩
  have hd:(0:Int)<(k:Int):=X3 hd;have wI:aI ((k:Int)-1)=((k-1:Nat):Int):=by rw[aR X9];omega
  have fin:∀(a':Int) (c':aO) (l':List aU),bQ c'->l'.length<=l.length+2->rN (fun(k:Nat) s=>∃(a:Int) (c:aO) (l:List aU),s=(a,(k:Int),c.b,c.i,c.h,l)/\k<=1000/\bQ c/\l.length+2*k<=4000) (λo=>∃(c:aO) (l:List aU),o=(c.b,c.i,c.h,l)/\bQ c/\l.length<=4000) k (.inl (a',aI ((k:Int)-1),c'.b,c'.i,c'.h,l')):=λa' c' l' h1 h2=>
   ⟨k-1,X9,a',c',l',by rw[wI],X9,h1,X9⟩
  have FI:l.length<=1048576:=X9;refine aJ.dq (aJ.bind (bg hc 30) λy2 h2=>aJ.dq (aJ.bind (bg h2.2 4) λy3 h3=>aJ.dq (aJ.bind (bg h3.2 4) λy4 h4=>?_)))
  have ch:∀t:Int,aJ ((bh [0]).bind λ_=>(aw y4.2 2000).bind λy5=>(fx l (aI (1+y3.1)) (aI (100+y5.1)) t).bind λy6=>(bh [0]).bind λ_=>(aw y5.2 30).bind λy7=>(eT y6.1 (aI (1+y3.1)) (aI (100+(aI (50*y7.1)))) t).bind λy8=>
   YH (.inl (t,(aI ((k:Int)-1)),y7.2.b,y7.2.i,y7.2.h,y8.1))) (rN (fun(k:Nat) s=>∃(a:Int) (c:aO) (l:List aU),s=(a,(k:Int),c.b,c.i,c.h,l)/\k<=1000/\bQ c/\l.length+2*k<=4000) (λo=>∃(c:aO) (l:List aU),o=(c.b,c.i,c.h,l)/\bQ c/\l.length<=4000) k):=λt=>by
   refine aJ.dq (aJ.bind (bg h4.2 2000) λy5 h5=>?_)
   have q:=Kh l (aI (1+y3.1)) (aI (100+y5.1)) t;rw[Hj FI,VS];refine aJ.dq (aJ.bind (bg h5.2 30) λy7 h7=>?_)
   have q2:=MX (qt l (aI (1+y3.1)) (aI (100+y5.1)) t).1 (aI (1+y3.1)) (aI (100+(aI (50*y7.1)))) t;rw[Sr X9,VS];exact aJ.ret (fin _ _ _ h7.2 X9)
  have py:∀t:Int,aJ ((eo l (aI (1+y3.1))).bind λy9=>(bh [0,2]).bind λ_=>(bx y4.2 ([0,0,1])).bind λdL=>(fB 1 (aI (y9-dL.1))).bind λji=>(eT l (aI (1+y3.1)) ji t).bind λoX=>
   YH (.inl (t,(aI ((k:Int)-1)),dL.2.1.b,dL.2.1.i,dL.2.1.h,oX.1))) (rN (fun(k:Nat) s=>∃(a:Int) (c:aO) (l:List aU),s=(a,(k:Int),c.b,c.i,c.h,l)/\k<=1000/\bQ c/\l.length+2*k<=4000) (λo=>∃(c:aO) (l:List aU),o=(c.b,c.i,c.h,l)/\bQ c/\l.length<=4000) k):=λt=>by
   rw[F5 FI,VS];refine aJ.dq (aJ.bind (jL h4.2 Ye) λdL wm=>aJ.bind (FV _ _) λji _=>?_)
   have q:=MX l (aI (1+y3.1)) ji t;rw[Sr FI,VS];exact aJ.ret (fin _ _ _ wm.2 X9)
  have rf:∀t:Int,aJ ((bh [0]).bind λ_=>(aw y4.2 4).bind λmf=>(bh [0]).bind λ_=>(dU mf.2).bind λkX=>(fC l (aI (1+y3.1)) 0 (aI (1440*mf.1)) kX.1 t).bind λpg=>
   YH (.inl (t,(aI ((k:Int)-1)),kX.2.b,kX.2.i,kX.2.h,pg.1))) (rN (fun(k:Nat) s=>∃(a:Int) (c:aO) (l:List aU),s=(a,(k:Int),c.b,c.i,c.h,l)/\k<=1000/\bQ c/\l.length+2*k<=4000) (λo=>∃(c:aO) (l:List aU),o=(c.b,c.i,c.h,l)/\bQ c/\l.length<=4000) k):=λt=>by
   refine aJ.dq (aJ.bind (bg h4.2 4) λmf h13=>aJ.dq (aJ.bind (yt h13.2) λkX h14=>?_))
   have q:=LC l (aI (1+y3.1)) 0 (aI (1440*mf.1)) kX.1 t;rw[Jn FI (by have:=h14.1.2;omega),VS]
   exact aJ.ret (fin _ _ _ h14.2 X9)
  exact aJ.cond (λ_=>aJ.cond (λ_=>ch _) λ_=>aJ.cond (λ_=>py _) λ_=>rf _) λ_=>aJ.cond (λ_=>ch _) λ_=>aJ.cond (λ_=>py _) λ_=>rf _
 ·obtain⟨c,l,rfl,hc,hl⟩:=Ch
  exact aJ.ret ⟨hl,hc⟩
theorem KT(h:bQ c):aJ (mF c) λr=>r.1.length<=9000/\bQ r.2:=by
 unfold mF;refine aJ.dq (aJ.bind (KU h 12 X9) λy1 h1=>aJ.cond (λ_=>aJ.ret ⟨by have:=h1.1;simp only;omega,h1.2⟩) λhz=>?_)
 have hz:=X4 hz;refine aJ.dq (aJ.bind (iD h1.2 2) λy2 h2=>aJ.cond (λ_=>aJ.ret ⟨by have:=h1.1;simp only;omega,h2⟩) λ_=>aJ.dq (aJ.bind (bg h2 _) λy3 h3=>aJ.dq (aJ.bind (bg h3.2 6) λy4 h4=>?_)))
 have b0:=h3.1.1;have b1:=h3.1.2.1 X9;have hc:=h4.2;have st:∀{z:aU},(y1.1.set (Int.toNat y3.1) z).length<=9000:=λ{z}=>by rw[WI];omega
 refine aJ.cond (λ_=>aJ.get b0 b1 λy5 _ _=>aJ.dq (aJ.bind (jL hc Ye) λy6 h6=>aJ.get b0 b1 λy7 _ _=>aJ.ret ⟨st,h6.2⟩)) λ_=>?_
 refine aJ.cond (λ_=>aJ.dq (aJ.bind (jL hc Ye) λy6 h6=>aJ.get b0 b1 λy7 _ _=>aJ.ret ⟨st,h6.2⟩)) λ_=>?_
 refine aJ.cond (λ_=>aJ.dq (aJ.bind (bg hc 5) λy6 h6=>aJ.get b0 b1 λy7 _ _=>aJ.ret ⟨st,h6.2⟩)) λ_=>?_
 refine aJ.cond (λ_=>aJ.dq (aJ.bind (jL hc Ye) λy6 h6=>aJ.get b0 b1 λy7 _ _=>aJ.ret ⟨st,h6.2⟩)) λ_=>?_
 refine aJ.cond (λ_=>aJ.get b0 b1 λy7 _ _=>aJ.bW (jj Ym X9) (aJ.ret ⟨by simp only[V3,VZ,VY];omega,hc⟩)) λ_=>?_
 have hw:aI (y3.1+1)=y3.1+1:=aR X9;rw[hw];have uq:(cH y1.1 (y3.1+1) (y1.1.length:Int)).length<=y1.1.length:=by unfold cH;simp only[WR,W9];omega
 have ZgT:(cH y1.1 0 y3.1).length<=y1.1.length:=by unfold cH;simp only[WR,W9];omega
 refine aJ.bW (X1 ⟨X9,X9,X9⟩) (aJ.bW (X1 ⟨X9,X9,X9⟩) (aJ.bW ?_ (aJ.ret ⟨?_,hc⟩)))
 ·unfold Md
  rw[X1 (show 0<=y3.1/\y3.1<=(y1.1.length:Int)/\0<y1.1.length by omega),jj X9 X9];rfl
 ·rw[V3];omega
structure OA(o:aL):Prop where
 of:OF o
 eO:qN o.world.aa
 cnt:ew o.world=YJ->wQ 8 o.world
theorem NA(h:bQ c):aJ (mG c) λr=>OA r.1/\bQ r.2:=by
 unfold mG;refine aJ.dq (aJ.bind (Kt h 9 X9) λy1 h1=>aJ.dq (aJ.bind (bg h1.2 16) λy2 h2=>?_))
 obtain⟨⟨n,hn,hO⟩,_⟩:=h1;have hc:=h2.2;have qj:qN y1.1.world.aa:=by rw[hO.w.eO];exact hn
 have hf:=hO.of;have Du:ew y1.1.world=YJ->wQ 8 y1.1.world:=λ_=>hO.w.cnt
 have wq:=hO.pl;have Dw:=hO.jl;have hrl:=hf.aX;refine aJ.cond (λ_=>aJ.dq (aJ.bind (Qn hc) λy3 h3=>aJ.ret ⟨⟨⟨h3.1.2.1,hf.aY,hf.aX,hf.sO,hf.lines,hf.aK,hf.aF,hf.pf,hf.af⟩,h3.1.1,λhv=>(h3.1.2.2 hv).2⟩,h3.2⟩)) λ_=>?_
 refine aJ.cond (λ_=>aJ.dq (aJ.bind (Fj hc) λy4 h4=>aJ.ret ⟨⟨⟨hf.world,h4.1.1.fit X9,hf.aX,hf.sO,hf.lines,hf.aK,hf.aF,hf.pf,hf.af⟩,qj,Du⟩,h4.2⟩)) λ_=>?_
 refine aJ.cond (λ_=>aJ.dq (aJ.bind (KT hc) λy5 h5=>aJ.ret ⟨⟨⟨hf.world,hf.aY,hf.aX,hf.sO,by have:=h5.1;simp only;omega,hf.aK,hf.aF,hf.pf,hf.af⟩,qj,Du⟩,h5.2⟩)) λ_=>?_
 refine aJ.cond (λ_=>aJ.ret ⟨⟨⟨hf.world,hf.aY,hf.aX,by simp,hf.lines,hf.aK,hf.aF,hf.pf,hf.af⟩,qj,Du⟩,hc⟩) λ_=>?_
 refine aJ.cond (λ_=>aJ.D3 (aJ.dq (aJ.bind (CA hc) λy6 h6=>aJ.bW (jj Ym X9) (aJ.ret ⟨⟨⟨hf.world,hf.aY,hf.aX,hf.sO,hf.lines,?_,hf.aF,λp hp=>?_,hf.af⟩,qj,Du⟩,h6.2⟩)))) λ_=>?_
 ·simp only[V3,VZ,VY];omega
 ·rcases Wl.1 hp with hp|hp
  ·exact hf.pf p hp
  ·rw[Wf.1 hp];exact h6.1.pf
 refine aJ.cond (λ_=>aJ.D3 (aJ.dq (aJ.bind (bg hc 8) λy7 h7=>aJ.bW ?_ (aJ.ret ⟨⟨⟨hf.world,hf.aY,hf.aX,hf.sO,hf.lines,hf.aK,?_,hf.pf,λa ha=>?_⟩,qj,Du⟩,h7.2⟩)))) λ_=>?_
 ·unfold bm;exact X1 ⟨by simp only[VZ,VY];omega,by simp only[VZ,VY];omega⟩
 ·simp only[V3,VZ,VY];omega
 ·rcases Wl.1 ha with ha|ha
  ·exact hf.af a ha
  ·rw[Wf.1 ha];exact⟨by show(0:Nat)<=_;omega,by show(0:Nat)<=_;omega,by simp⟩
 refine aJ.cond (λ_=>?_) λ_=>aJ.ret ⟨⟨hf,qj,Du⟩,hc⟩
 refine aJ.bW ?_ (aJ.ret ⟨⟨⟨hf.world,hf.aY,?_,hf.sO,hf.lines,hf.aK,hf.aF,hf.pf,hf.af⟩,qj,Du⟩,hc⟩)
 ·have:=hO.rl
  exact X1 ⟨X9,X9,X9⟩
 ·simp only[cH,WR,W9];omega
theorem Ku{code:List YR}(hl:code.length<=4096)(hb:∀x∈code,0<=x.v/\x.v<=255):aJ (mI code) λr=>OA r.1/\Ar r.2.aQ:=by
 unfold mI;exact aJ.bind (Vo hl hb) λy1 h1=>aJ.dq (aJ.bind (NA h1) λy2 h2=>aJ.D3 (aJ.dq (aJ.bind (Kb h2.1.eO h2.2 h2.1.of.lines rfl) λy3 h3=>aJ.ret ⟨h2.1,h3⟩)))
theorem Zau{l:List bI}(hl:l.length<=1048576):gP l l=YH true:=vw (F:=gP) (B:=kW) (λ_ _=>rfl) (λ_ _ _=>rfl) hl
theorem Zar{l:List bL}(hl:l.length<=1048576):gN l l=YH true:=vw (F:=gN) (B:=kT) (λ_ _=>rfl) (λ_ _ _=>rfl) hl
theorem Zap{l:List aU}(hl:l.length<=1048576):gM l l=YH true:=vw (F:=gM) (B:=kS) (λ_ _=>rfl) (λ_ _ _=>rfl) hl
theorem Py(h:OF o):kt o o=YH true:=by
 have e0:aD (iw o o) NN 0=YH (.inl ()):=by
  refine yb (xs:=o.aK) (λi x hx=>?_) ?_ h.aK
  ·have bU:=(VT.1 hx).1
   have hg:aB o.aK (i:Int)=YH x:=by rw[aS];exact hx
   unfold iw;rw[X1 (show(i:Int)<o.aK.length by omega),hg]
   simp[wK (h.pf x (VV hx)).fit.2.2]
  ·unfold iw;simp
 have e1:aD (ix o o) NN 0=YH (.inl ()):=by
  refine yb (xs:=o.aF) (λi x hx=>?_) ?_ h.aF
  ·have bU:=(VT.1 hx).1
   have hg:aB o.aF (i:Int)=YH x:=by rw[aS];exact hx
   unfold ix;rw[X1 (show(i:Int)<o.aF.length by omega),hg]
   simp[xk (h.af x (VV hx)).fit.2.2]
  ·unfold ix;simp
 unfold kt;rw[e0,e1];simp only[Zat h.world,Zau h.aY.1,Zar h.aX,Gs h.sO,Zap h.lines,VS,V5,X6,decide_true,bk]
theorem Zdl(h:dG l=YJ)(o:Int):∀i,i<=l.length->cr (l.take i) o 3<=cr (l.take i) o 2:=by
 intro i
 induction i with
 |zero=>intro _;simp[cr]
 |succ i ih=>
  intro hi;have ih:=ih X9;have hx:l[i]?=YH l[i]:=VU X9;obtain⟨Za3,Rk⟩:=yi h hx;have ha:=vK Za3;have h2:=rK h i o 2;have h3:=rK h i o 3;obtain⟨s1,s2,_⟩:=yF h o i X9;have ht:l.take (i+1)=l.take i++[l[i]]:=by rw[List.take_add_one,hx];rfl
  rw[ht]
  by_cases ho:l[i].o=o
  ·rcases FP Za3 with k|k|k
   ·rw[jt X9,jt X9];exact ih
   ·rw[jt X9,vF ho k,IntWalk.wrap64_in _ ⟨X9,X9⟩];omega
   ·rw[ZbK k]at Rk
    simp only[V6,WG,X8,beq_iff_eq]at Rk
    rw[ho]at Rk
    rw[vF ho k,jt X9,IntWalk.wrap64_in _ ⟨X9,X9⟩];omega
  ·rw[jt (by simp[ho]),jt (by simp[ho])];exact ih
theorem uA(h:dG l=YJ)(o:Int):0<=cr l o 3/\cr l o 3<=cr l o 2/\cr l o 2<=cr l o 1/\cr l o 1<=100000:=by
 have a:=Zdl h o l.length (VX _);obtain⟨b,c,_⟩:=yF h o l.length (VX _);rw[XR]at a b c
 exact⟨(L0 h o 3).1,a,b,c⟩
theorem AY(h:dG l=YJ)(o:Int):j3 l o=cr l o 1-cr l o 2/\0<=j3 l o/\j3 l o<=100000:=by
 obtain⟨a,b,c,d⟩:=uA h o;rw[Sl h,IntWalk.wrap64_in _ ⟨X9,X9⟩];exact⟨rfl,X9,X9⟩
theorem Hh(h:dG l=YJ){n:Nat}(ho:∀x∈l,x.o<=(n:Int)):uG l=((Wg n).map λi:Nat=>cr l ((i:Int)+1) 2-cr l ((i:Int)+1) 3).sum/\0<=uG l:=by
 obtain⟨ha,hl⟩:=pt h;have h1:∀x∈l,1<=x.o/\x.o<=(n:Int):=λx hx=>by
  obtain⟨i,hi⟩:=WD hx;have:=(yi h hi).1;simp only[pr,V6]at this
  exact⟨(oe this.1.1.1).1,ho x hx⟩
 have e:uG l=((Wg n).map λi:Nat=>cr l ((i:Int)+1) 2-cr l ((i:Int)+1) 3).sum:=by
  rw[BC h,y0 ha hl,BD n l h1]
  congr 1
  apply List.map_congr_left;intro i _;rw[(JK ha hl _ 2).1,(JK ha hl _ 3).1]
 refine⟨e,?_⟩;rw[e];exact(GC λi _=>by have:=uA h ((i:Int)+1);omega).1
theorem Ez(h:dG l=YJ){o:Int}(h0:0<j3 l o):∃x∈l,x.o=o:=by
 obtain⟨_,_,c⟩:=yF h o l.length (VX _);rw[XR]at c
 have:=(AY h o).1;have:=(L0 h o 2).1;exact(c X9).2
theorem Vx(m:List Ln)(x:Ln):pC (m++[x])=pC m+(if(x.k==2)=YJ then x.a else if(x.k==3)=YJ then -x.a else 0):=by simp[pC]
theorem EF{l l':List aU}{x:aU}(h:sI l x=(l',0))(hl:dG (l.map bO)=YJ)(hx:¬x.kind=3):uG (l.map bO)<=uG (l'.map bO):=by
 obtain⟨rfl,h2,_⟩:=AZ h;obtain⟨a1,a2⟩:=pt hl;obtain⟨b1,b2⟩:=pt h2;rw[BC hl,BC h2,y0 a1 a2,y0 b1 b2,Xw,List.map_cons,List.map_nil,Vx];have hk:¬((bO x).k==3)=true:=by simpa[bO]using hx
 have ha:=(b1 (bO x) Ye).1;rw[if_neg hk]
 split<;>omega
theorem NX{o x:aL}(hd:Nx o a x)(h6:¬a.kind=6):uG (o.lines.map bO)<=uG (x.lines.map bO):=by
 obtain⟨y,rfl,hy⟩:=hd.how;show _<=uG (y.lines.map bO)
 rcases hy with⟨_,h⟩ |⟨_,l,z,rfl,_,_,h⟩ |⟨_,w,rfl,_⟩
 ·obtain⟨v,aG,ys,dW,_,_,_,hc,_⟩:=h.kQ
  obtain⟨c1,_,_,c2⟩:=DR hc;exact EF c1 c2 Ye
 ·rcases h with⟨_,h⟩ |⟨h,_⟩
  ·obtain⟨c1,_,c2⟩:=Sq h
   exact EF c1 c2 Ye
  ·exact absurd h h6
 ·exact Int.le_refl _
theorem QV{o x:aL}(hd:Nx o a x):o.world.now<=x.world.now:=by
 obtain⟨y,rfl,hy⟩:=hd.how;show _<=y.world.now
 rcases hy with⟨_,h⟩ |⟨_,l,z,rfl,_,_,h⟩ |⟨_,w,rfl,h⟩
 ·obtain⟨v,aG,ys,dW,_,_,hT,_,_⟩:=h.kQ
  have:=congrArg (λr=>r.1.now) hT.res
  simp only[TO]at this
  omega
 ·exact Int.le_refl _
 ·rcases h with⟨_,h,rfl⟩ |⟨_,_,h⟩ |⟨_,n,_,_,h⟩
  ·exact Int.le_of_lt h
  ·have:=h.same.now
   simp only at this⊢
   omega
  ·have:=h.same.now
   simp only at this⊢
   omega
theorem Fw{o x:aL}(hd:Nx o a x):x.aF=o.aF++[a]:=by
 obtain⟨y,rfl,_⟩:=hd.how;rfl
theorem zI(f:Nat->Int)(k:Nat):((Wg (k+1)).map f).sum=((Wg k).map f).sum+f k:=by
 rw[List.range_succ,Xw,List.sum_append];simp
theorem GB{f:Nat->Int}:∀k:Nat,(∀i,i<k->0<=f i/\f i<=100000)->0<=((Wg k).map f).sum/\((Wg k).map f).sum<=100000*(k:Int)
 |0,_=>by simp
 |k+1,h=>by
  have ih:=GB k λi hi=>h i X9
  have:=h k X9;rw[zI];omega
section
variable {x:aL} (hx:OF x) (hv:iu x=YJ)
include hx hv
theorem JM{y:List Int}(hy:y.length<=1048576)(hm:∀o,o∈y↔0<j3 (x.lines.map bO) o)(hk:k<x.world.ae.length)(a b:Int)(ha:0<=a/\a<=1000000000000)(hb:0<=b/\b<=1000000000000):
 j6 x y (a,b,((k+1:Nat):Int))=YH (.inl (a+(cr (x.lines.map bO) ((k:Int)+1) 2-cr (x.lines.map bO) ((k:Int)+1) 3),b+j3 (x.lines.map bO) ((k:Int)+1),((k+1+1:Nat):Int))):=by
 obtain⟨_,_,_,_,hl,wq,_,Cb,_,_⟩:=nn hv;have hp0:=hx.aK;have hp:x.aK[k]?=YH (x.aK[k]' X9):=VU _;generalize x.aK[k]' X9=p at hp
 have hw:x.world.ae[k]?=YH x.world.ae[k]:=VU hk;have hc:=cB.1 Cb k p hp;rw[We]at hc
 obtain⟨p1,p2,p3⟩:=(hx.pf p (VV hp)).fit;obtain⟨e,v,hv⟩:=yu hx.aY hx.aX p1 p2 p3;unfold nz at hc
 rw[hw,sn,hv]at hc
 simp only[Xe,V6,decide_eq_true_eq]at hc
 obtain⟨c1,_,_,_,_,c6⟩:=hc;have ek:((k+1:Nat):Int)=(k:Int)+1:=X9;rw[ek]at c6⊢
 obtain⟨s1,s2,s3,s4⟩:=uA hl ((k:Int)+1);obtain⟨o1,o2,o3⟩:=AY hl ((k:Int)+1);have hg:aB x.aK (aI ((k:Int)+1-1))=YH p:=by rw[aR X9,show(k:Int)+1-1=(k:Int)by omega,aS];exact hp
 have ZfZ:sB y ((k:Int)+1)=YH (YL (0<j3 (x.lines.map bO) ((k:Int)+1))):=by
  rw[show sB y ((k:Int)+1)=jQ y ((k:Int)+1)from rfl,ye hy]
  congr 1
  rw[Bool.eq_iff_iff,X7,<-hm];simp
 unfold j6;simp only[X1 (show(k:Int)+1<=x.world.ae.length by omega),X5,C9 hx.lines,F4 hx.lines,VS,hg,e,hv,c1,V5,X6,c6,decide_true,ZfZ,
  X2 (show ¬v.1<cr (x.lines.map bO) ((k:Int)+1) 3 by omega),X2 (show ¬j3 (x.lines.map bO) ((k:Int)+1)<0 by omega),beq_self_eq_true]
 rw[aR (n:=a+_) X9,aR (n:=b+_) X9,aR (n:=(k:Int)+1+1) X9,aR X9]
 congr 3
 omega
theorem Tp:pB x=YH true:=by
 obtain⟨_,_,_,_,hl,wq,_,_,hli,_⟩:=nn hv;have hn:=hx.aK;have ZfN:=Zci hl;have Oj:∀z∈x.lines.map bO,1<=z.o/\z.o<=(x.world.ae.length:Int):=λz hz=>by
  obtain⟨i,hi⟩:=WD hz;have h1:=(yi hl hi).1;simp only[pr,V6]at h1
  refine⟨(oe h1.1.1.1).1,?_⟩;obtain⟨q,hq,rfl⟩:=List.mem_map.1 hz;obtain⟨j,hj⟩:=WD hq;have h2:=cB.1 hli j q hj;unfold tJ at h2
  simp only[V6,WG,X8]at h2
  have:=h2.1;show q.order<=_;omega
 have Dy:∀o,o∈PH (xt (x.lines.map bO) x.lines.length)↔0<j3 (x.lines.map bO) o:=λo=>by
  have h:=R9 (x.lines.map bO) o;rw[List.length_map]at h
  rw[h];exact⟨λh=>h.1,λh=>⟨h,Ez hl h⟩⟩
 have hy:(PH (xt (x.lines.map bO) x.lines.length)).length<=1048576:=by
  rw[A7];have:=F1 (x.lines.map bO) x.lines.length;omega
 obtain⟨c1,c2⟩:=Hh hl λz hz=>(Oj z hz).2
 generalize hY:PH (xt (x.lines.map bO) x.lines.length)=Y at *
 have Ay:∀k,∀i,i<k->0<=(λi:Nat=>cr (x.lines.map bO) ((i:Int)+1) 2-cr (x.lines.map bO) ((i:Int)+1) 3) i/\(λi:Nat=>cr (x.lines.map bO) ((i:Int)+1) 2-cr (x.lines.map bO) ((i:Int)+1) 3) i<=100000:=λk i _=>by
  have:=uA hl ((i:Int)+1);simp only;omega
 have Dl:∀k,∀i,i<k->0<=(λi:Nat=>j3 (x.lines.map bO) ((i:Int)+1)) i/\(λi:Nat=>j3 (x.lines.map bO) ((i:Int)+1)) i<=100000:=λk i _=>(AY hl ((i:Int)+1)).2
 have key:∀m k N,k+m=x.world.ae.length->m<N->aD (j6 x Y) N (((Wg k).map λi:Nat=>cr (x.lines.map bO) ((i:Int)+1) 2-cr (x.lines.map bO) ((i:Int)+1) 3).sum,((Wg k).map λi:Nat=>j3 (x.lines.map bO) ((i:Int)+1)).sum,((k+1:Nat):Int))=
  YH (.inl (((Wg x.world.ae.length).map λi:Nat=>cr (x.lines.map bO) ((i:Int)+1) 2-cr (x.lines.map bO) ((i:Int)+1) 3).sum,((Wg x.world.ae.length).map λi:Nat=>j3 (x.lines.map bO) ((i:Int)+1)).sum)):=by
  intro m
  induction m with
  |zero=>
   intro k N hk hN;obtain⟨N,rfl⟩:∃K,N=K+1:=⟨N-1,X9⟩;obtain rfl:k=x.world.ae.length:=X9;rw[aD,j6,X2 (show ¬((x.world.ae.length+1:Nat):Int)<=x.world.ae.length by omega)]
   rfl
  |succ m ih=>
   intro k N hk hN;obtain⟨N,rfl⟩:∃K,N=K+1:=⟨N-1,X9⟩;have b2:=GB k (Ay k);have b1:=GB k (Dl k);have hi:=ih (k+1) N X9 X9;rw[zI,zI]at hi
   rw[aD,JM hx hv hy Dy (show k<x.world.ae.length by omega) _ _ ⟨b2.1,X9⟩ ⟨b1.1,X9⟩]
   exact hi
 have xU:=key x.world.ae.length 0 NN X9 Yc;simp only[List.range_zero,List.map_nil,List.sum_nil,We]at xU
 unfold pB;rw[Zcu ZfN,VS,hY,show(1:Int)=((1:Nat):Int)from rfl,xU,VS];simp only[bk];rw[Kg hx.lines,VS,<-c1,X1 rfl,X5,X1 c2,X5]
 congr 1
 rw[beq_iff_eq,decide_eq_decide,(GC λi _=>(Dl _ i (Nat.lt_succ_self i)).1).2]
 constructor
 ·intro h0
  rcases Y with _|⟨o,Y⟩
  ·rfl
  ·exfalso
   have h1:=(Dy o).1 Ye;obtain⟨z,hz,rfl⟩:=Ez hl h1;obtain⟨a1,a2⟩:=Oj z hz;have:=h0 (z.o-1).toNat X9;simp only[show(((z.o-1).toNat:Nat):Int)+1=z.o by omega]at this
   omega
 ·intro h0 i hi
  have hY0:Y=[]:=List.length_eq_zero_iff.1 X9;have h1:=(AY hl ((i:Int)+1)).2.1;have h2:¬0<j3 (x.lines.map bO) ((i:Int)+1):=λh=>by
   have:=(Dy _).2 h;rw[hY0]at this
   cases this
  omega
end
end Go.Proofs.YtdilaemengjipaaGreatDoor
