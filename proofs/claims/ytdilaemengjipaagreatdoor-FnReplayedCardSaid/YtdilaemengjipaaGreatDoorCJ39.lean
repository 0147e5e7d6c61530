/- A part of the proof of the statement in the last file of this claim: texts on the language of the program and on its functions. No condition. -/
import Derived.Test.YtdilaemengjipaaGreatDoorCJ36
import Derived.Test.YtdilaemengjipaaGreatDoorCJ23
import Derived.Test.YtdilaemengjipaaGreatDoorCJ19
import Derived.Test.YtdilaemengjipaaGreatDoorCJ26
import Derived.Test.YtdilaemengjipaaGreatDoorCJ35
import Derived.Test.YtdilaemengjipaaGreatDoorCJ28
import Derived.Test.YtdilaemengjipaaGreatDoorCJ16
import Derived.Test.YtdilaemengjipaaGreatDoorCJ29
import Derived.Test.YtdilaemengjipaaGreatDoorCJ32
import Derived.Test.YtdilaemengjipaaGreatDoorCJ1
set_option linter.unusedVariables false
set_option linter.unusedSimpArgs false
set_option linter.unusedSectionVars false
open Option renaming some->YW,none->YX
open Bool renaming true->YY,false->YZ
open Decidable renaming decide->Y0
namespace Go.Proofs.YtdilaemengjipaaGreatDoor
open List renaming mem_cons->V5,mem_of_getElem?->VW,getElem?_eq_getElem->VV,getElem?_append_left->Wu,length_append->VZ,mem_append->Wi,getElem?_eq_some_iff->VU,length_cons->V0,length_map->Wj,pairwise_iff_getElem->Wy,getElem_of_mem->Wf,nodup_append->XP,length_set->W5,any_eq_true->Xd,mem_append_left->Xi,any_eq_false->Xo,mem_map->WI,Nodup->XL,getElem_mem->Wp,take_succ_eq_append_getElem->Xa
open Nat renaming zero_add->Wc,le_trans->Wr
open Bool renaming and_eq_true->Wd,not_eq_true'->WW,and_eq_false_imp->XA,not_true->V3
open Option.some renaming inj->VX
open Option renaming bind_some->VT,map_some->WG,getD_some->Xj
set_option maxRecDepth 10000
open Go.RowKit
variable {aY ar:ByteArray}{ae:List av}{bs l:List aq}{t:av}
def xw(n:ah)(bs:List aq)(cl:List av)(now:Int)(i:Nat)(o:az):Bool:=j9 ⟨n,[],bs,cl,now,[],[],0⟩ i o
structure ve(w:ax)(c:Nat->List av):Prop where
 fit:rF w
 mq:cu w.aa w.au=YY
 now:0<=w.now/\w.now<=100000
 JE:w.aj.length<=30
 ord:∀(i:Nat) (o:az),w.aj[i]?=YW o->xw w.aa w.au (c i) w.now i o=YY
 sum:(w.aj.map λo=>o.aK.length).sum=w.au.length
 cl:∀i,(c i).length<=1048576
theorem S5{α:Type}(f:α->Nat):∀{l:List α} {x:α},x∈l->f x<=(l.map f).sum
 |a::l,x,h=>by
  simp
  rcases V5.1 h with rfl|h
  ·omega
  ·have:=S5 f h;omega
theorem On{w:ax}(hf:rF w)(ho:w.aj.length<=1000):uP w=((w.aj.map λo=>o.aK.length).sum:Nat):=by
 have:=FF w.aj 0 hf.aK Yn;rw[Wc]at this
 exact this
structure BV(w:ax):Prop where
 ae:w.ae.length<=20
 aN:w.aN.length<=200
 skip:w.skip.length<=50
 bg:w.aN.length<=w.bg/\w.bg<=1000000000
 cl:allI (rZ w) 0 w.ae=YY
 sc:allI (wX w) 0 w.aN=YY
theorem tl{w:ax}(h:qw w):ve w (λ_=>w.ae)/\BV w:=by
 obtain⟨p1,p2,p3,p4,p5,p6,p7⟩:=h.parts;have hv:=h.ok;unfold fB at hv
 simp at hv
 obtain⟨⟨⟨⟨⟨⟨⟨⟨⟨⟨h1,h2⟩,h3⟩,h4⟩,h5⟩,h6⟩,h7⟩,h8⟩,h9⟩,zG⟩,EL⟩:=hv;refine⟨⟨h.fit,h1,p1,p2,λi o ho=>?_,?_,λ_=>h.fit.ae⟩,⟨p3,p4,p5,p6,h8,h9⟩⟩
 ·have q1:=qn h.ok ho;exact q1
 ·have:=On h.fit Yn
  omega
theorem KK{w:ax}(h:ve w (λ_=>w.ae))(k:BV w):qw w:=by
 refine⟨h.fit,?_⟩;have:=h.JE;have:=k.ae;have:=k.aN;have:=k.skip;unfold fB;simp;refine⟨⟨⟨⟨⟨⟨⟨⟨⟨⟨h.mq,h.now⟩,Yn⟩,Yn⟩,Yn⟩,Yn⟩,k.bg⟩,k.cl⟩,k.sc⟩,?_⟩,?_⟩
 ·refine cP.2 λi o ho=>?_
  rw[Wc];exact h.ord i o ho
 ·rw[On h.fit Yn,h.sum]
structure Zgy(n:ah)(bs:List aq)(cl:List av)(now:Int)(i:Nat)(o:az):Prop where
 ok:FL ⟨n,[],bs,cl,now,[],[],0⟩ i o
 chain:iV n o.ar (o.aQ+1) o.aK
 st:sX n o now
section
variable {w:ax} {c:Nat->List av} (h:ve w c) {i:Nat} {o:az} (ho:w.aj[i]?=YW o)
include h ho
theorem ua:o.aK.length<=120:=by
 have:=S5 (λo:az=>o.aK.length) (VW ho)
 have:=(dQ h.mq).2;have:=h.sum;omega
theorem kZ:Zgy w.aa w.au (c i) w.now i o:=by
 have hn:=(dQ h.mq).1;have hl:=ua h ho;have hO:=JF (w:=⟨w.aa,[],w.au,c i,w.now,[],[],0⟩) ⟨h.fit.fC,by simp,h.fit.au,h.cl i,by simp,by simp,by simp⟩ (i:=i) (o:=o) Yn (h.ord i o ho)
 have hw:aM (o.aQ+1)=o.aQ+1:=by
  have h1:0<=o.aQ:=hO.aQ.1;have h2:o.aQ<=w.now:=hO.aQ.2;have:=h.now;rw[aR Yn]
 have hc:=AJ h.fit.fC hn Yn hO.Zb9;rw[hw]at hc
 exact⟨hO,hc,(ug h.fit.fC hn hO.aO Yn hO.bk w.now).1 hO.st⟩
theorem nD:0<=bd o/\bd o<=o.aK.length/\(cg o).length=(bd o).toNat/\o.aO<=bd o:=by
 have hO:=(kZ h ho).ok;obtain⟨g0,g1⟩:=hO.aO;have hk:0<=bd o/\bd o<=o.aK.length/\o.aO<=bd o:=by
  unfold bd
  by_cases hs:o.state=2
  ·rcases hO.cases with c1|c1|c1
   all_goals omega
  omega
 unfold cg
 grind
theorem sL:o.aK=cg o++mh o:=(List.take_append_drop _ _).symm
theorem Jl{j:Nat}(hj:j<(cg o).length):(cg o)[j]?=o.aK[j]?:=by
 have:=(nD h ho).2.2.1;unfold cg
 grind
theorem EI(hs:¬o.state=3):Lr w.aa o.ar (cg o)=gC w.aa o:=by
 have hP:=kZ h ho;obtain⟨g0,g1⟩:=hP.ok.aO;unfold gC
 rcases hP.st.cases with⟨s1,s2,s3,s4,s5⟩ |⟨s1,s2,s3,t,t1,t2,t3⟩ |s
 ·rw[if_neg Yn,s2]
  unfold qS;have zJ:bd o=o.aO:=by unfold bd;omega
  by_cases hg:0<o.aO
  ·have bX:(o.aO-1).toNat<o.aK.length:=Yn
   rw[if_pos hg,VV bX];refine tL ?_;unfold cg
   grind
  ·rw[if_neg hg]
   unfold cg;rw[zJ,show o.aO.toNat=0 by omega];rfl
 ·rw[if_pos s1,t1]
  refine tL ?_;have zJ:bd o=o.aO+1:=by unfold bd;omega
  unfold cg
  grind
 omega
theorem Nk:O1 w.aa (o.aQ+1) (cg o)<=atR w.aa w.now o/\w.now+1<=atR w.aa w.now o/\0<=atR w.aa w.now o:=by
 have hP:=kZ h ho;have CP:=h.now;have h2:o.aQ<=w.now:=hP.ok.aQ.2;unfold atR
 cases hl:(cg o).getLast? with
 |none=>
  rw[List.getLast?_eq_none_iff]at hl
  rw[hl];refine⟨?_,?_,?_⟩<;>simp only[O1,List.foldl_nil]<;>omega
 |some t=>
  rw[EH hl]
  grind
theorem E6{more:List av}(hs:¬o.state=3)(gZ:¬gC w.aa o=o.aY)
 (qZ:∀t∈cg o,j3 bs ((i+1:Nat):Int) t o.ab=YY) (xJ:∀t∈more,j3 bs ((i+1:Nat):Int) t o.ab=YY)
 (hc:iV w.aa (gC w.aa o) (atR w.aa w.now o) more) (hl:more.length<=20) (IW:more=[]\/(gC w.aa o::more.map (cq w.aa)).Nodup/\(gC w.aa o::more.map (cq w.aa)).getLast?=YW o.aY)
 (Zid:more.any (dF w.ae)=YZ):xw w.aa bs w.ae w.now i (gh o (cg o++more))=true:=by
 have hP:=kZ h ho;have hn:=(dQ h.mq).1;have hlen:=ua h ho;obtain⟨k0,k1,k2,k3⟩:=nD h ho;obtain⟨g0,g1⟩:=hP.ok.aO;have CP:=h.now;obtain⟨a1,a2,a3⟩:=Nk h ho;have hep:=EI h ho hs;have hv:=h.ord i o ho;unfold xw j9 at hv⊢
 simp only[Wd,WW,Yl,Ym]at hv⊢
 obtain⟨⟨⟨⟨⟨⟨⟨⟨⟨⟨⟨h1,h2⟩,h3⟩,h4⟩,h5⟩,h6⟩,h7⟩,h8⟩,h9⟩,zG⟩,EL⟩,UL⟩:=hv;have Ea:iV w.aa o.ar (o.aQ+1) (cg o++more):=by
  have:=hP.chain;rw[sL h ho]at this
  refine(zx _).2 ⟨((zx _).1 this).1,?_⟩;rw[hep];exact FW hc a1
 have Ny:=qa Ea;have Gb:∀(j:Nat),j<(cg o).length->(cg o++more)[j]?=o.aK[j]?:=λj hj=>by
  rw[Wu hj];exact Jl h ho hj
 refine⟨⟨⟨⟨⟨⟨⟨⟨⟨⟨⟨h1,h2⟩,h3⟩,h4⟩,h5⟩,h6⟩,h7⟩,?_⟩,?_⟩,?_⟩,?_⟩,?_⟩
 ·simp only[gh,VZ];omega
 ·refine cP.2 λj t hj=>?_
  have CM:(cg o++more)[j]?=YW t:=hj;have htm:=VW CM;unfold uk;simp only[Wd,WW,XA,Yl,Ym,Wc];refine⟨⟨Ny t htm,?_⟩,λhe hj1=>?_⟩
  ·rcases Wi.1 htm with hm|hm
   ·exact qZ t hm
   ·exact xJ t hm
  ·have Zfb:j+1<(cg o++more).length:=hj1
   have he':cq w.aa t=o.aY:=he;rw[VZ]at Zfb
   by_cases hjk:j<(cg o).length
   ·rw[Gb j hjk]at CM
    have:=cP.1 h9 j t CM;unfold uk at this
    simp only[Wd,WW,XA,Yl,Ym,Wc]at this
    have Bc:=(VU.1 CM).1;refine gZ ?_;rw[<-hep,<-he'];refine tL ?_
    grind
   ·rcases IW with rfl|⟨hnd,hla⟩
    ·grind
    rw[List.getLast?_eq_getElem?,V0,Wj,Nat.add_sub_cancel]at hla
    have q1:(gC w.aa o::more.map (cq w.aa))[j-(cg o).length+1]?=YW o.aY:=by grind
    have q2:=Wy.1 hnd (j-(cg o).length+1) more.length Yr Yq Yn
    grind
 ·have hw:aM (o.aQ+1)=o.aQ+1:=by
   have q2:o.aQ<=w.now:=h6.2;rw[aR Yn]
  show(eW w.aa (cg o++more) o.ar (Lr w.aa o.ar (cg o++more)) (aM (o.aQ+1))).getD YZ=YY;have QV:(cg o++more).length<=1048576:=by grind
  rw[hw,Au h.fit.fC hn QV Yn (Tx h.fit.fC hn Yn Ny) Ea rfl];rfl
 ·have hS:sX w.aa (gh o (cg o++more)) w.now:=by
   refine⟨λt hg ht=>?_,?_⟩
   ·have hg':0<o.aO:=hg
    have Hq:(cg o++more)[(o.aO-1).toNat]?=YW t:=ht;rw[Gb _ Yn]at Hq
    exact hP.st.past t hg' Hq
   ·have IY:qS w.aa (gh o (cg o++more))=qS w.aa o:=by
     unfold qS
     by_cases hg:0<o.aO
     ·rw[if_pos hg,if_pos (show 0<(gh o (cg o++more)).aO from hg)]
      show(((cg o++more)[(o.aO-1).toNat]?).map (cq w.aa)).getD ⟨#[]⟩=_;rw[Gb _ Yn]
     ·rw[if_neg hg,if_neg (show ¬0<(gh o (cg o++more)).aO from hg)];rfl
    rcases hP.st.cases with⟨s1,s2,s3,s4,s5⟩ |⟨s1,s2,s3,t,t1,t2,t3⟩ |s
    ·refine .inl ⟨s1,by rw[IY];exact s2,by rw[IY];exact s3,s4,λt ht=>?_⟩
     have Hq:(cg o++more)[o.aO.toNat]?=YW t:=ht;have zJ:bd o=o.aO:=by unfold bd;omega
     rw[List.getElem?_append_right Yn,show o.aO.toNat-(cg o).length=0 by omega]at Hq
     cases more with
     |nil=>grind
     |cons x xs=>
      obtain rfl:x=t:=by grind
      have:=hc.2.2.1;omega
    ·have zJ:bd o=o.aO+1:=by unfold bd;omega
     refine .inr (.inl ⟨s1,s2,s3,t,?_,t2,t3⟩);show(cg o++more)[o.aO.toNat]?=YW t
     grind
    omega
  rw[(ug h.fit.fC hn (o:=gh o (cg o++more)) ⟨g0,by simp only[gh,VZ];omega⟩ (by simp only[gh,VZ];omega) Ny w.now).2 hS];rfl
 ·have hd:((gh o (cg o++more)).aK.drop (bd (gh o (cg o++more))).toNat)=more:=by
   show(cg o++more).drop (bd o).toNat=more
   grind
  grind
theorem vG(ht:t∈o.aK):(⟨((i+1:Nat):Int),t,o.ab⟩:aq)∈w.au:=by
 obtain⟨j,hj,rfl⟩:=Wf ht;have:=cP.1 (kZ h ho).ok.aK j _ (VV hj);unfold uk at this
 unfold j3 at this
 grind
theorem EY(ht:t∈cg o):(⟨((i+1:Nat):Int),t,o.ab⟩:aq)∈gI w i o:=by
 have hP:=kZ h ho;have hn:=(dQ h.mq).1;have hnd:=vn h.fit.fC hn hP.chain;rw[sL h ho]at hnd
 have hw:t∈o.aK:=by rw[sL h ho];grind
 exact E0.2 ⟨vG h ho hw,λhx=>(XP.1 hnd).2.2 t ht t hx.2 rfl⟩
theorem S6:(gI w i o).length+(mh o).length=w.au.length:=by
 have hP:=kZ h ho;have hn:=(dQ h.mq).1;have hnd:=vn h.fit.fC hn hP.chain;rw[sL h ho]at hnd
 exact OZ h.mq (XP.1 hnd).2.1 λt ht=>vG h ho (by rw[sL h ho];grind)
theorem Jw{more:List av}(hb:cu w.aa bs=YY)(hl:bs.length=(gI w i o).length+more.length)(vz:∀b∈gI w i o,b∈bs)
 (hO:xw w.aa bs w.ae w.now i (gh o (cg o++more))=YY) (hm:more.length<=20):ve (xr w i o (cg o++more) bs) (λj=>if j=i then w.ae else c j):=by
 have hlen:=ua h ho;have zI:=(dQ hb).2;have UQ:(cg o).length+(mh o).length=o.aK.length:=by
  have:=congrArg List.length (sL h ho)
  grind
 refine⟨⟨h.fit.fC,?_,?_,h.fit.ae,h.fit.aN,h.fit.skip,λx hx=>?_⟩,hb,h.now,?_,λj x hx=>?_,?_,λj=>?_⟩
 ·simp only[xr,W5];exact h.fit.aj
 ·simp only[xr];omega
 ·rcases List.mem_or_eq_of_mem_set hx with hx|rfl
  ·exact h.fit.aK x hx
  ·simp only[gh,VZ];omega
 ·simp only[xr,W5];exact h.JE
 ·have uq:(w.aj.set i (gh o (cg o++more)))[j]?=YW x:=hx
  show xw w.aa bs (if j=i then w.ae else c j) w.now j x=YY
  by_cases Gc:j=i
  ·grind
  ·rw[if_neg Gc]
   rw[List.getElem?_set_ne (λe=>Gc e.symm)]at uq
   have hv:=h.ord j x uq;unfold xw j9 at hv⊢
   simp at hv⊢
   obtain⟨⟨⟨⟨⟨⟨⟨⟨⟨⟨⟨h1,h2⟩,h3⟩,h4⟩,h5⟩,h6⟩,h7⟩,h8⟩,h9⟩,zG⟩,EL⟩,UL⟩:=hv;refine⟨⟨⟨⟨⟨⟨⟨⟨⟨⟨⟨h1,h2⟩,h3⟩,h4⟩,h5⟩,h6⟩,h7⟩,h8⟩,?_⟩,zG⟩,EL⟩,UL⟩;refine cP.2 λa t ha=>?_
   have:=cP.1 h9 a t ha;unfold uk at this⊢
   simp at this⊢
   refine⟨⟨this.1.1,?_⟩,this.2⟩;have xK:=this.1.2;unfold j3 at xK⊢
   obtain⟨y,y1,y2⟩:=Xd.1 xK;obtain rfl:=Yh y2;exact Xd.2 ⟨_,vz _ (E0.2 ⟨y1,λe=>Gc Yr⟩),y2⟩
 ·have:=Og (λo:az=>o.aK.length) (gh o (cg o++more)) ho
  have e:(gh o (cg o++more)).aK.length=(cg o).length+more.length:=VZ;simp only[e]at this
  have hs:=h.sum;have I0:=S6 h ho;show((w.aj.set i (gh o (cg o++more))).map λo=>o.aK.length).sum=bs.length
  omega
 ·show(if j=i then w.ae else c j).length<=1048576
  split
  ·exact h.fit.ae
  ·exact h.cl j
theorem Mw(hs:¬o.state=3)(gZ:¬gC w.aa o=o.aY):∃w',fm w ((i+1:Nat):Int)=YW w'/\ur w i o w'/\ve w' (λj=>if j=i then w.ae else c j):=by
 have hP:=kZ h ho;have hn:=(dQ h.mq).1;have hlen:=ua h ho;have Bb:=(VU.1 ho).1;have hol:=h.JE;obtain⟨w',e,hR⟩:=Zbd h.fit hn h.mq h.now Yn ho hP.ok.aO (λh2=>by
  rcases hP.ok.cases with c1|c1|c1
  all_goals omega) hP.ok.bk Yn
 refine⟨w',e,hR,?_⟩
 rcases hR with⟨_,rfl⟩ |⟨aK,bs,hN,rfl⟩
 ·have hO:=E6 h ho (more:=[]) (bs:=gI w i o) hs gZ (λt ht=>?_) Yq trivial Yq (.inl rfl) rfl
  ·have:=Jw h ho (more:=[]) (bs:=gI w i o) (zt h.fit.fC h.mq (tJ _ _ _)) Yq (λb hb=>hb) hO Yq
   grind
  ·exact Xd.2 ⟨_,EY h ho ht,Ya rfl⟩
 ·obtain⟨a1,a2,a3⟩:=Nk h ho
  have zd:(if 0 > atR w.aa w.now o then 0 else atR w.aa w.now o)=atR w.aa w.now o:=if_neg Yn
  have Ea:=hN.KH.chain;rw[zd]at Ea
  have xL:=hN.perm.length_eq;have BD:(gX ((i+1:Nat):Int) o.ab aK).length=aK.length:=by unfold gX;simp
  rw[VZ,BD]at xL
  have hO:=E6 h ho (more:=aK) (bs:=bs) hs gZ (λt ht=>?_) (λt ht=>?_) Ea hN.KH.len (.inr ⟨hN.KH.nodup,hN.KH.last⟩) ?_
  ·exact Jw h ho hN.mq xL (λb hb=>hN.perm.mem_iff.2 (Xi _ hb)) hO hN.KH.len
  ·exact Xd.2 ⟨_,hN.perm.mem_iff.2 (Xi _ (EY h ho ht)),Ya rfl⟩
  ·refine Xd.2 ⟨⟨((i+1:Nat):Int),t,o.ab⟩,hN.perm.mem_iff.2 (List.mem_append_right _ ?_),Ya rfl⟩
   unfold gX;grind
  ·refine Xo.2 λt ht=>?_
   have:=(hN.KH.found t ht).1;rw[kh,jE h.fit.ae]at this
   unfold dF
   grind
end
/-! The au are Zif of the ways. -/
def zn:Nat->List az->List aq
 |_,[]=>[]
 |i,o::os=>gX ((i+1:Nat):Int) o.ab o.aK++zn (i+1) os
theorem HE:∀(os:List az) (i:Nat),(zn i os).length=(os.map λo=>o.aK.length).sum
 | [],_=>rfl
 |o::os,i=>by
  unfold zn gX;rw[VZ,Wj,HE os,List.map_cons,List.sum_cons]
theorem xR{b:aq}:∀{os:List az} {i:Nat},b∈zn i os↔∃(j:Nat) (o:az) (t:av),os[j]?=YW o/\t∈o.aK/\b=⟨((i+j+1:Nat):Int),t,o.ab⟩
 | [],i=>by simp[zn]
 |o::os,i=>by
  unfold zn gX;rw[Wi,xR (os:=os) (i:=i+1),WI];constructor
  ·rintro(⟨t,h1,h2⟩ |⟨j,o',t,h1,h2,h3⟩)
   ·exact⟨0,o,t,rfl,h1,h2.symm⟩
   ·exact⟨j+1,o',t,by simp_all,h2,by grind⟩
  grind
theorem B7:∀{os:List az} {i:Nat},(∀o∈os,o.aK.Nodup)->(zn i os).Nodup
 | [],i,_=>List.nodup_nil
 |o::os,i,h=>by
  unfold zn;refine XP.2 ⟨?_,B7 λx hx=>h x Yr,λa ha b hb e=>?_⟩
  ·unfold gX XL
   grind
  ·obtain⟨j,o',t,_,_,h3⟩:=xR.1 hb
   unfold gX at ha
   grind
theorem Ld{w:ax}{c:Nat->List av}(h:ve w c){b:aq}(hb:b∈w.au):∃(j:Nat) (o:az) (t:av),w.aj[j]?=YW o/\t∈o.aK/\b=⟨((j+1:Nat):Int),t,o.ab⟩:=by
 have hn:=(dQ h.mq).1;have hnd:(zn 0 w.aj).Nodup:=B7 λo ho=>by
  obtain⟨i,hi,rfl⟩:=Wf ho;exact vn h.fit.fC hn (kZ h (VV hi)).chain
 have sT:∀x∈zn 0 w.aj,x∈w.au:=λx hx=>by
  obtain⟨j,o,t,h1,h2,rfl⟩:=xR.1 hx;rw[Wc];exact vG h h1 h2
 have hlen:(zn 0 w.aj).length=w.au.length:=by rw[HE,h.sum]
 have vz:b∈zn 0 w.aj:=Classical.byContradiction λhx=>by
  have:=sw (xs:=b::zn 0 w.aj) (ys:=w.au) (List.nodup_cons.2 ⟨hx,hnd⟩) λx hm=>by
   grind
  grind
 obtain⟨j,o,t,h1,h2,h3⟩:=xR.1 vz
 grind
theorem Mz{w:ax}{c:Nat->List av}(h:ve w c){i:Nat}{o:az}(ho:w.aj[i]?=YW o)(hr:¬mh o=[]):¬o.state=3/\¬gC w.aa o=o.aY:=by
 have hP:=kZ h ho;obtain⟨k0,k1,k2,k3⟩:=nD h ho;have bX:bd o<o.aK.length:=by
  rcases Int.lt_or_le (bd o) o.aK.length with hx|hx
  ·omega
  ·exact absurd (List.drop_eq_nil_of_le Yn) hr
 have hs:¬o.state=3:=λhs=>by
  rcases hP.ok.cases with⟨c1,_⟩ |⟨c1,_⟩ |⟨c1,c2,_⟩
  all_goals omega
 refine⟨hs,λhe=>?_⟩
 rw[<-EI h ho hs]at he
 by_cases h0:0<bd o
 ·have hkt:(bd o).toNat-1<o.aK.length:=Yn
  have wT:(cg o).getLast?=YW o.aK[(bd o).toNat-1]:=by
   unfold cg
   grind
  rw[tL wT]at he
  have:=cP.1 hP.ok.aK _ _ (VV hkt);unfold uk at this
  grind
 ·have:cg o=[]:=by unfold cg;simp_all
  rw[this]at he
  exact hP.ok.ZcR he
structure qv(w w':ax):Prop where
 aa:w'.aa=w.aa
 now:w'.now=w.now
 ae:w'.ae=w.ae
 aN:w'.aN=w.aN
 skip:w'.skip=w.skip
 bg:w'.bg=w.bg
 len:w'.aj.length=w.aj.length
theorem qv.refl(w:ax):qv w w:=⟨rfl,rfl,rfl,rfl,rfl,rfl,rfl⟩
theorem qv.trans{a b c:ax}(h:qv a b)(k:qv b c):qv a c:=⟨k.1.trans h.1,k.2.trans h.2,k.3.trans h.3,k.4.trans h.4,k.5.trans h.5,k.6.trans h.6,k.7.trans h.7⟩
theorem qv.new(w:ax)(i:Nat)(o:az)(ts:List av)(bs:List aq):qv w (xr w i o ts bs):=⟨rfl,rfl,rfl,rfl,rfl,rfl,by simp only[xr,W5]⟩
theorem Ou{n:ah}(hf:cU n){ab aQ:Int}{aK:List av}(h:UU n l ae ab ar aY aQ aK):aK.length<=(ak n).length-1:=by
 have:=sw (xs:=ar::aK.map (cq n)) (ys:=ak n) h.nodup λp hp=>by
  rcases V5.1 hp with rfl|hp
  ·exact Zdh h.hC.2.1
  ·obtain⟨t,ht,rfl⟩:=WI.1 hp
   obtain⟨y,hy,hym⟩:=fp hf (qa h.chain t ht);have f2:cq n t=y.aY:=by unfold cq;simp_all
   rw[f2];exact(qD hym).2
 grind
def rn(n:ah)(o o':az):Prop:=o'=o\/∃more,more.length<=(ak n).length-1/\o'=gh o (cg o++more)
theorem Ka{w w':ax}(hf:cU w.aa){i:Nat}{o:az}(hR:ur w i o w')(ho:w.aj[i]?=YW o):qv w w'/\(∃o',w'.aj[i]?=YW o'/\rn w.aa o o')/\∀j,¬j=i->w'.aj[j]?=w.aj[j]?:=by
 have Bb:=(VU.1 ho).1
 rcases hR with⟨_,rfl⟩ |⟨aK,bs,hN,rfl⟩
 ·refine⟨qv.new _ _ _ _ _,⟨gh o (cg o),?_,.inr ⟨[],by simp,by simp⟩⟩,λj hj=>?_⟩
  ·show(w.aj.set i _)[i]?=_
   simp_all
  ·show(w.aj.set i _)[j]?=_
   grind
 ·refine⟨qv.new _ _ _ _ _,⟨_,?_,.inr ⟨aK,Ou hf hN.KH,rfl⟩⟩,λj hj=>?_⟩
  ·show(w.aj.set i _)[i]?=_
   simp_all
  ·show(w.aj.set i _)[j]?=_
   grind
def qq(w:ax):Int×Int×Int×(List bP)×(List Int)×(List az)×(List aq)×(List av)×(List br)×(List Int):=(w.aa.change,w.now,w.bg,w.aa.aA,w.aa.off,w.aj,w.au,w.ae,w.aN,w.skip)
theorem ka{α β:Type}{x:Option α}{f:α->Option β}{r:β}:x.bind f=YW r↔∃a,x=YW a/\f a=YW r:=by
 cases x<;>simp
theorem Lg{α:Type}{b:Bool}{x y:α}{P:α->Prop}(h:b=YY->P x)(k:b=YZ->P y):P (cond b x y):=by
 grind
theorem Qt{n:ah}{aQ ab:Int}{x:List av}(h:bS n l ae ar aY aQ ab=YW (x,YZ)):x=[]:=by
 obtain⟨y1,_,h⟩:=ka.1 h;obtain⟨y2,_,h⟩:=ka.1 h;obtain⟨y3,_,h⟩:=ka.1 h;obtain⟨y4,_,h⟩:=ka.1 h
 revert h
 have nil:(YW (([]:List av),YZ))=YW (x,YZ)->x=[]:=λe=>by
  grind
 refine Lg (P:=λz=>z=YW (x,YZ)->x=[]) (λ_=>nil) λ_=>Lg (P:=λz=>z=YW (x,YZ)->x=[]) (λ_=>nil) λ_ h=>?_
 obtain⟨y5,_,h⟩:=ka.1 h
 revert h
 refine Lg (P:=λz=>z=YW (x,YZ)->x=[]) (λ_=>nil) λ_ h=>?_
 obtain⟨y6,_,h⟩:=ka.1 h;obtain⟨o0,_,h⟩:=ka.1 h;obtain⟨o1,_,h⟩:=ka.1 h
 grind
section
variable {w:ax} {c:Nat->List av} (h:ve w c) {i:Nat} {o:az} (ho:w.aj[i]?=YW o)
include h ho
theorem GM{a b:Nat}{s t:av}(CK:a<b)(ha:o.aK[a]?=YW s)(hb:o.aK[b]?=YW t):dP w.aa s<=cS w.aa t/\cS w.aa s<dP w.aa s:=by
 have hn:=(dQ h.mq).1;have hO:=kZ h ho;obtain⟨c0,c1⟩:=kW hn;have hs:=hO.ok.bk s (VW ha);obtain⟨t1,t2,t3,t4,t5⟩:=cY h.fit.fC hn hs;have zI:=(VU.1 hb).1;have h1:o.aK[a+1]?=YW o.aK[a+1]:=VV Yn;have hn1:=((Cm hO.chain ha).2 _ h1).1
 by_cases qZ:b=a+1
 ·grind
 ·have bX:=Co h.fit.fC hn hO.chain
  have:=Wy.1 bX (a+1) b Yn zI Yn
  grind
theorem Gj(ht:t∈cg o):cS w.aa t<=w.now:=by
 have hO:=kZ h ho;obtain⟨k0,k1,k2,k3⟩:=nD h ho;obtain⟨a,ha,hae⟩:=Wf ht;have hao:o.aK[a]?=YW t:=by rw[<-Jl h ho ha,<-hae];simp
 have past:0<o.aO->a<=(o.aO-1).toNat->cS w.aa t<=w.now:=λhg hle=>by
  have u9:(o.aO-1).toNat<o.aK.length:=Yn;have hp:=hO.st.past _ hg (VV u9)
  by_cases Nt:a=(o.aO-1).toNat
  ·subst Nt
   rw[VV u9]at hao
   rw[VX hao]at hp
   have hn:=(dQ h.mq).1;obtain⟨t1,t2,t3,t4,t5⟩:=cY h.fit.fC hn (hO.ok.bk t Yr);omega
  ·have:=GM h ho (a:=a) (b:=(o.aO-1).toNat) Yn hao (VV u9)
   have hn:=(dQ h.mq).1;obtain⟨t1,t2,t3,t4,t5⟩:=cY h.fit.fC hn (hO.ok.bk _ (Wp u9));omega
 rcases hO.st.cases with⟨s1,s2,s3,s4,s5⟩ |⟨s1,s2,s3,t2,u1,u2,u3⟩ |⟨s1,s2,s3,s4,s5,s6⟩
 ·have zJ:bd o=o.aO:=by unfold bd;omega
  omega
 ·have zJ:bd o=o.aO+1:=by unfold bd;omega
  grind
 omega
theorem My(ht:t∈mh o):w.now<cS w.aa t:=by
 have hO:=kZ h ho;obtain⟨k0,k1,k2,k3⟩:=nD h ho;obtain⟨g0,g1⟩:=hO.ok.aO;obtain⟨a,ha,hae⟩:=Wf ht;have hao:o.aK[(bd o).toNat+a]?=YW t:=by
  have:=VV ha;rw[hae]at this
  unfold mh at this
  grind
 have VO:=(VU.1 hao).1
 rcases hO.st.cases with⟨s1,s2,s3,s4,s5⟩ |⟨s1,s2,s3,t2,u1,u2,u3⟩ |⟨s1,s2,s3,s4,s5,s6⟩
 ·have zJ:bd o=o.aO:=by unfold bd;omega
  have u9:o.aO.toNat<o.aK.length:=Yn;have h5:=s5 _ (VV u9)
  by_cases h0:a=0
  ·grind
  ·have:=GM h ho (a:=o.aO.toNat) Yn (VV u9) hao
   omega
 ·have zJ:bd o=o.aO+1:=by unfold bd;omega
  have:=GM h ho (a:=o.aO.toNat) Yn u1 hao;omega
 omega
theorem R1:lE w.aa w.au ((i+1:Nat):Int) (w.now+1)=YW (gI w i o):=by
 have hn:=(dQ h.mq).1;have zI:=(dQ h.mq).2;unfold lE;rw[iJ h.fit.fC h.fit.au,h.mq];have e:aE (jd w.aa w.au ((i+1:Nat):Int) (w.now+1) YY) NN (0,[])=YW (gI w i o):=by
  refine mD (body:=jd w.aa w.au ((i+1:Nat):Int) (w.now+1) YY) (λj:Nat=>((j:Int),pg ((i+1:Nat):Int) (mh o) (w.au.take j))) (n:=w.au.length) (λj hj=>?_) ?_ NN Ys
  ·have hg:aB w.au (j:Int)=YW w.au[j]:=by rw[aP];simp
   have hw:aM ((j:Int)+1)=((j+1:Nat):Int):=bG hj Yn;have Lx:(pg ((i+1:Nat):Int) (mh o) (w.au.take j)).length<=1000:=Wr (List.length_filter_le _ _) Yr;have ha:cr (bn ((pg ((i+1:Nat):Int) (mh o) (w.au.take j)).length+([w.au[j]]:List aq).length) 32)=YW ():=ff Yr Yn;have hs:pg ((i+1:Nat):Int) (mh o) (w.au.take (j+1))=pg ((i+1:Nat):Int) (mh o) (w.au.take j)++(if(Y0 (w.au[j].bz=((i+1:Nat):Int))&&dF (mh o) w.au[j].bk)=YY then []else [w.au[j]]):=by
    unfold pg;rw[Xa hj]
    grind
   obtain⟨t1,t2,t3,t4,t5⟩:=cY h.fit.fC hn (Lc h.fit.fC h.mq (Wp hj));unfold jd;rw[hs]
   by_cases hth:w.au[j].bz=((i+1:Nat):Int)
   ·rw[Ya hth]
    simp;obtain⟨j',o',t',q1,q2,q3⟩:=Ld h (Wp hj);have hjj:j'=i:=by
     grind
    subst hjj;rw[ho]at q1
    obtain rfl:=VX q1;have Ny:w.au[j].bk=t':=congrArg aq.bk q3;rw[Ny];rw[sL h ho]at q2
    cases hc:dF (mh o) t' with
    |true=>
     have:=My h ho (kb.1 hc)
     grind
    |false=>
     rcases Wi.1 q2 with q2|q2
     ·have:=Gj h ho q2
      grind
     ·rw[kb.2 q2]at hc;grind
   grind
  ·unfold jd gI
   simp
 grind
theorem U3(hs:¬o.state=3):∃w',eQ w (i:Int)=YW w'/\ur w i o w':=by
 have hn:=(dQ h.mq).1;have zI:=(dQ h.mq).2;have hO:=kZ h ho;have hlen:=ua h ho;obtain⟨k0,k1,k2,k3⟩:=nD h ho;obtain⟨g0,g1⟩:=hO.ok.aO;obtain⟨c0,c1⟩:=kW hn;have Bb:=(VU.1 ho).1;have hol:=h.JE;have CP:=h.now;have hoi:aB w.aj (i:Int)=YW o:=by rw[aP];omega
 have EN:fo o=YW (bd o):=(s8 hO.ok.aO Yn).1;have sT:cM o.aK 0 (bd o)=cg o:=by rfl
 have vA:cr (fJ 0 (bd o) o.aK.length)=YW ():=ku YM;have zi:aM (w.now+1)=w.now+1:=aR Yn;have BE:aM ((i:Int)+1)=((i+1:Nat):Int):=by rw[aR Yn];omega
 have I0:(gI w i o).length<=120:=Wr (tJ _ _ _).length_le zI;have sR:=zt h.fit.fC h.mq (tJ ((i+1:Nat):Int) (mh o) w.au);have IY:fe w.aa o=YW (gC w.aa o):=by
  unfold fe gC
  rcases hO.st.cases with⟨s1,_⟩ |⟨s1,s2,s3,t2,u1,u2,u3⟩ |⟨s1,_⟩
  ·grind
  ·have hg:aB o.aK o.aO=YW t2:=by unfold aB;grind
   obtain⟨y,hy,_⟩:=fp h.fit.fC (hO.ok.bk t2 (VW u1));unfold cq
   grind
  omega
 have ha0:cr (bn ((([]:List av)).length+(cg o).length) 16)=YW ():=ff Yr Yn;obtain⟨⟨aK,b⟩,_,e2⟩:=ru h.fit.fC (l:=gI w i o) Yn h.fit.ae (gC w.aa o) o.aY (atR w.aa w.now o) o.ab;have tail:∀a,a=atR w.aa w.now o->∃w',((bS w.aa (gI w i o) w.ae (gC w.aa o) o.aY a o.ab).bind λy8=>
  (cx w.aa (gI w i o) ((i+1:Nat):Int) o.ab y8.1).bind λy9=>
  cond y9.2
  ((cr (bn ((([]++cg o):List av).length+(y8.1:List av).length) 16)).bind λ_=>
  YW (xr w i o (cg o++y8.1) y9.1))
  (YW (xr w i o (cg o) (gI w i o))))=YW w'/\ur w i o w':=by
  rintro a rfl
  cases b with
  |false=>
   obtain rfl:=Qt e2;have AF:=tF h.fit.fC (show(gI w i o).length<=1048000 by omega) ((i+1:Nat):Int) o.ab (aK:=[]) (d:=gI w i o) (by simp[gX]) (H6 sR)
   rw[if_pos ⟨sR,by simp,sR⟩]at AF
   have ha:cr (bn ((([]++cg o):List av).length+([]:List av).length) 16)=YW ():=ff Yr Yn;exact⟨_,by grind,.inl ⟨.inl ⟨[],e2⟩,rfl⟩⟩
  |true=>
  have hR:=qj h.fit.fC (show(gI w i o).length<=1048576 by omega) h.fit.ae e2
  have UQ:=hR.len;have BD:(gX ((i+1:Nat):Int) o.ab aK).length=aK.length:=by unfold gX;simp
  obtain⟨d,d1,d2⟩:=G9 (gI w i o++gX ((i+1:Nat):Int) o.ab aK) Yr;have AF:=tF h.fit.fC (show(gI w i o).length<=1048000 by omega) ((i+1:Nat):Int) o.ab d1 d2
  by_cases Se:cu w.aa d=YY
  ·rw[if_pos ⟨sR,UQ,Se⟩]at AF
   have ha:cr (bn ((([]++cg o):List av).length+aK.length) 16)=YW ():=ff Yr Yn;exact⟨_,by grind,.inr ⟨aK,d,⟨e2,AF,hR,d1,Se⟩,rfl⟩⟩
  ·rw[if_neg (λhx=>Se hx.2.2)]at AF
   exact⟨_,by grind,.inl ⟨.inr ⟨aK,e2,AF⟩,rfl⟩⟩
 unfold eQ;rw[hoi,VT,EN,VT]
 by_cases h0:0<bd o
 ·have hkt:(bd o).toNat-1<o.aK.length:=Yn
  have wT:(cg o).getLast?=YW o.aK[(bd o).toNat-1]:=by
   unfold cg
   grind
  have hgk:aB o.aK (aM (bd o-1))=YW o.aK[(bd o).toNat-1]:=by
   rw[aR Yn];unfold aB;rw[if_pos Yn];simp
  obtain⟨t1,t2,t3,t4,t5⟩:=cY h.fit.fC hn (hO.ok.bk _ (Wp hkt));have hwe:aM (dP w.aa o.aK[(bd o).toNat-1]+w.aa.change)=dP w.aa o.aK[(bd o).toNat-1]+w.aa.change:=aR Yn;have Sw:fA (w.now+1) (dP w.aa o.aK[(bd o).toNat-1]+w.aa.change)=YW (atR w.aa w.now o):=by
   unfold fA atR
   grind
  rw[Ya h0,hgk];simp only[VT,t2,zi,hwe,Sw,BE,R1 h ho,IY,vA,sT,ha0];obtain⟨w',q1,q2⟩:=tail _ rfl;refine⟨w',?_,q2⟩;rw[<-q1];rfl
 ·have Sd:w.now+1=atR w.aa w.now o:=by unfold atR;grind
  rw[Yg h0];simp only[zi,BE,R1 h ho,IY,vA,sT,ha0];obtain⟨w',q1,q2⟩:=tail _ Sd;refine⟨w',?_,q2⟩;rw[<-q1];rfl
omit h ho in
theorem Qp{a b:ax}(h1:ur w i o a)(h2:ur w i o b):a=b:=by
 have no:∀{aK bs},Q8 w i o->Q7 w i o aK bs->False:=λ{aK bs} hx hy=>by
  rcases hx with⟨x,hx⟩ |⟨x,hx,hb⟩
  ·rw[hy.jk]at hx
   grind
  ·rw[hy.jk]at hx
   have hxx:aK=x:=congrArg Prod.fst (VX hx);rw[<-hxx,hy.book]at hb
   grind
 rcases h1 with⟨n1,rfl⟩ |⟨w1,b1,n1,rfl⟩<;>rcases h2 with⟨n2,rfl⟩ |⟨w2,b2,n2,rfl⟩
 ·rfl
 ·grind
 ·grind
 ·have e:=n2.jk
  rw[n1.jk]at e
  have hw:w1=w2:=congrArg Prod.fst (VX e);subst hw;have e2:=n2.book;rw[n1.book]at e2
  grind
theorem B6(hs:¬o.state=3)(gZ:¬gC w.aa o=o.aY):∃w',eQ w (i:Int)=YW w'/\fm w ((i+1:Nat):Int)=YW w'/\ur w i o w'/\ve w' (λj=>if j=i then w.ae else c j):=by
 obtain⟨a,a1,a2,a3⟩:=Mw h ho hs gZ;obtain⟨b,b1,b2⟩:=U3 h ho hs;obtain rfl:=Qp b2 a2
 grind
end
section
variable {n:ah} (hf:cU n) (hn:aW n=YW YY)
include hf hn
theorem Zdv{bH z:Int}{y:bP}(hy:aB n.aA bH=YW y):km n bH z=cO n [] [] bH z 0:=by
 have Ss:=(yF hf hn y (sE hy)).jk;have hw:aM (y.jk-0)=y.jk:=by rw[aR Yn];omega
 have hb:ks n bH z=cQ n [] [] bH z 0:=by
  funext s
  unfold ks cQ
  cases Y0 (s<=60)with
  |false=>rfl
  |true=>
  cases cJ n bH s with
  |none=>rfl
  |some b=>
  cases b with
  |false=>rfl
  |true=>
  cases bt n ⟨bH,s⟩with
  |none=>rfl
  |some v=>
  simp only[VT]
  cases Y0 (z<=v)with
  |false=>rfl
  |true=>
  have hc:dB [] (⟨bH,s⟩:av)=YW false:=by rfl
  simp only[Yj,hc,VT,Bool.not_false,hy,Ju,hw,Ya Ss.1]
 unfold km cO;rw[hb]
theorem Zbk(ia:List Int)(f:Int):oR n (ak n) ia f=eD n [] [] 0 (ak n) ia f:=by
 have hb:oA n (ak n) ia f=eG n [] [] 0 (ak n) ia f:=by
  funext s
  unfold oA eG
  cases Y0 (s.1<(n.aA.length:Int))with
  |false=>simp
  |true=>
  cases hy:aB n.aA s.1 with
  |none=>simp
  |some y=>simp only[Zdv hf hn hy]
 unfold oR eD;rw[hb]
theorem La{aQ:Int}(Ly:0<=bf (ak n) ar)(zd:aQ<=100000){k:Nat}(hk:k<=(ak n).length):jZ n ar aQ (k:Int)=YW (cf n [] [] 0 (bf (ak n) ar) aQ k):=by
 have hp:=P3 hf;obtain⟨r0,e0,_⟩:=zB hf (bf (ak n) ar) aQ;have h0:cf n [] [] 0 (bf (ak n) ar) aQ 0=r0:=by unfold cf;grind
 unfold jZ;rw[(dH hf).2];simp only[VT,ph hf];have e:aE (gg n (k:Int) (ak n) (bf (ak n) ar)) NN (0,cf n [] [] 0 (bf (ak n) ar) aQ 0)=YW (cf n [] [] 0 (bf (ak n) ar) aQ k):=by
  refine mD (body:=gg n (k:Int) (ak n) (bf (ak n) ar)) (λi:Nat=>((i:Int),cf n [] [] 0 (bf (ak n) ar) aQ i)) (n:=k) (o:=cf n [] [] 0 (bf (ak n) ar) aQ k) (λi hi=>?_) ?_ NN Ys
  ·unfold gg
   rw[Ya (show(i:Int)<(k:Int)by omega),Ya (show(i:Int)<((ak n).length:Int)by omega),Zbk hf hn,(sj hf (l:=[]) Yq (ae:=[]) Yq 0 _ aQ i).1,aR Yn]
   rfl
  ·unfold gg
   simp
 grind
theorem Lp{aQ:Int}(Ly:0<=bf (ak n) ar)(zd:aQ<=100000)(KQ:0<=bf (ak n) aY){e:Int}(he:aB (cf n [] [] 0 (bf (ak n) ar) aQ (ak n).length) (bf (ak n) aY)=YW e):jK n ar aY aQ=YW e:=by
 have bX:=(nk (ak n) aY).2;have zI:=nI hf (l:=[]) Yq (ae:=[]) Yq 0 (bf (ak n) ar) aQ (ak n).length;unfold jK;rw[(dH hf).2];simp only[VT,ph hf,La hf hn Ly zd (Nat.le_refl _),Yg (show ¬bf (ak n) aY<0 by omega),Yg (show ¬(((cf n [] [] 0 (bf (ak n) ar) aQ (ak n).length).length:Int)=0)by omega),Yk,he]
omit hf hn in
theorem GV{aw e aQ:Int}(he:jK n ar aY aQ=YW e)(h0:0<=e)(h1:e<=100000)(hs:1<=aw/\aw<=3):kq n aw ar aY aQ=YW (Iw e aw):=by
 unfold kq;rw[he];simp only[VT,cN];have d1:e.tdiv 1440=e / 1440:=Int.tdiv_eq_ediv_of_nonneg h0;have d2:e.tmod 1440=e % 1440:=Int.tmod_eq_emod_of_nonneg h0;have Hr:IntKind.i64.wrap (e / 1440)=e / 1440:=aR Yn;have hk:∃k:Int,0<=k/\k<=4/\aM (aM (aw-1)*aM (aw-1))=k/\k=(if aw=1 then 0 else if aw=2 then 1 else 4):=by
  rcases(show aw=1\/aw=2\/aw=3 by omega)with rfl|rfl|rfl
  ·exact⟨0,Yn,Yn,by rfl,by simp⟩
  ·exact⟨1,Yn,Yn,by rfl,by simp⟩
  ·exact⟨4,Yn,Yn,by rfl,by simp⟩
 obtain⟨k,k0,k1,k2,k3⟩:=hk;rw[d1,d2,Hr,Ya hs.1,Ya hs.2,Yg (show ¬e<0 by omega),k2]
 simp;unfold Iw;rw[<-k3]
 by_cases hd:1080<e % 1440
 ·rw[Ya hd,if_pos hd,Yj]
  rw[aR (n:=e / 1440+1) Yn,aR (n:=e / 1440+1+k) Yn,aR (n:=(e / 1440+1+k)*1440) Yn,aR Yn]
 ·rw[Yg hd,if_neg hd,Yk]
  rw[aR (n:=e / 1440+k) Yn,aR (n:=(e / 1440+k)*1440) Yn,aR Yn,Int.add_zero]
theorem yL(hl:l.length<=1048576)(hc:ae.length<=1048576){aQ ab aw:Int}(hs:1<=aw/\aw<=3){aK:List av}(h:bS n l ae ar aY aQ ab=YW (aK,YY)):
 ∃d,fX n aw ar aY aQ=YW d/\kq n aw ar aY aQ=YW d/\0<=d/\d<=200000:=by
 obtain⟨d,d1,d2,d3⟩:=J1 hf hn hl hc hs h;have hR:=qj hf hl hc h;obtain⟨q1,q2,q3,q4⟩:=hR.hC;have bX:=(nk (ak n) aY).2;have zI:=nI hf (l:=[]) Yq (ae:=[]) Yq 0 (bf (ak n) ar) aQ (ak n).length;obtain⟨e,he,_⟩:=mj (xs:=cf n [] [] 0 (bf (ak n) ar) aQ (ak n).length) (i:=bf (ak n) aY) ⟨hR.KQ,Yn⟩;have e1:=Cx hf hn q2 q3 hR.KQ he;have e2:=Lp hf hn q2 q3 hR.KQ he;have ib:0<=e/\e<=100000:=by
  obtain⟨v,hv,h0⟩:∃v,sA (cf n [] [] 0 (bf (ak n) ar) aQ (ak n).length) (bf (ak n) aY) v/\v<=100000:=Cg hf hn hl hc h;obtain⟨v',v1,v2,v3⟩:=hv
  grind
 refine⟨Iw e aw,Dw e1 ib.1 ib.2 hs,GV e2 ib.1 ib.2 hs,?_⟩;have:=R2 (aw:=aw) ib.1 ib.2;omega
end
theorem Aq{w:ax}(h:qw w)(ar aY:ByteArray)(aw ab:Int):
 ∃r,fx w ar aY aw ab=YW r/\eO w ar aY aw ab=YW r/\(r=(w,0,YZ)/\MW w ar aY aw ab\/∃aK ys eJ,Re w ar aY aw ab r aK ys eJ):=by
 have hf:=h.fit;obtain⟨p1,p2,p3,p4,p5,p6,p7⟩:=h.parts;obtain⟨r,e,hr⟩:=Rg h ar aY aw ab λaK hw hs=>by
  obtain⟨d,d1,_,d2,d3⟩:=yL hf.fC h.fC hf.au hf.ae hs hw
  grind
 refine⟨r,e,?_,hr⟩;have zi:aM (w.now+1)=w.now+1:=aR Yn;have Bd:aM ((w.aj.length:Int)+1)=(w.aj.length:Int)+1:=aR Yn;unfold eO;rw[wk hf,qg hf,h.ok,zi,Bd];simp only[cN]
 -- MT follows where all is Zjz but the aK
 obtain⟨⟨aK,b⟩,e1,e2⟩:=ru hf.fC hf.au hf.ae ar aY (w.now+1) ab;have hbt:=Rt hf.fC (show w.au.length<=1048000 by omega) ((w.aj.length:Int)+1) ab aK
 obtain⟨y6,e6,_⟩:=hbt;rw[e2];simp only[VT];rw[e6]
 rcases hr with⟨rfl,hR⟩ |⟨Zh5,ys,eJ,hT⟩
 ·by_cases c1:30<=w.aj.length
  ·grind
  rw[Yg (show ¬(30:Int)<=(w.aj.length:Int)by omega)]
  by_cases c2:ar=aY
  ·grind
  rw[Yg c2]
  by_cases c3:1<=aw/\aw<=3
  case neg=>
   grind
  rw[Ya c3.2]
  by_cases c4:1<=ab/\ab<=30000
  case neg=>
   grind
  rw[Ya c4.2];simp
  rcases hR with hx|hx|hx|hx|⟨x,hx⟩ |⟨wy,l,hx,hy⟩
  all_goals grind
 ·have hrm:=hT.jk
  rw[e2]at hrm
  have hb:b=true:=congrArg Prod.snd (VX hrm);have Zhs:aK=Zh5:=congrArg Prod.fst (VX hrm);subst Zhs;subst hb;have xK:=hT.book;rw[e6]at xK
  obtain rfl:=VX xK;have hok:=hT.ok;obtain⟨k1,k2,_⟩:=hok.parts;have k2':(w.aj++[nW w ar aY aw ab eJ aK]).length<=30:=k2;rw[VZ]at k2'
  simp at k2'
  have hv:=qn hok.ok (i:=w.aj.length) (o:=nW w ar aY aw ab eJ aK) (by
   show(w.aj++[nW w ar aY aw ab eJ aK])[w.aj.length]?=_;simp)
  unfold j9 at hv
  simp at hv
  have c3:1<=aw/\aw<=3:=hv.1.1.1.1.1.1.1.1.2;have c4:1<=ab/\ab<=30000:=hv.1.1.1.1.1.1.1.2;obtain⟨d,d1,d2,_⟩:=yL hf.fC h.fC hf.au hf.ae c3 hT.jk;have hpr:=hT.prom;rw[d1]at hpr
  obtain rfl:=VX hpr;have hR:=qj hf.fC hf.au hf.ae hT.jk;have hlen:=hR.len;have ha:cr (bn (w.aj.length+([nW w ar aY aw ab d aK]:List az).length) 128)=YW ():=ff Yr Yn;have hsi:=G6 (w:=⟨w.aa,w.aj++[nW w ar aY aw ab d aK],ys,w.ae,w.now,w.aN,w.skip,w.bg⟩) ⟨by grind,p4,by grind⟩ ⟨(w.aj.length:Int)+1,w.now,1,ar,⟨0,0⟩⟩
  rw[Yg (show ¬(30:Int)<=(w.aj.length:Int)by omega),Yg hT.ne,Ya c3.1,Ya c3.2,Ya c4.1,Ya c4.2]
  simp only[d2,VT];unfold nW at ha hsi
  rw[ha];simp;rw[hsi,hT.res];rfl
theorem Tc{σ σ' ο ο':Type}{b:σ->Option (σ⊕ο)}{b':σ'->Option (σ'⊕ο')}(I:Nat->σ->σ'->Prop){P:ο->ο'->Prop}
 (h:∀k s s',I k s s'->(∃t t' k',b s=YW (.inl t)/\b' s'=YW (.inl t')/\k'<k/\I k' t t')\/∃o o',b s=YW (.inr o)/\b' s'=YW (.inr o')/\P o o'):
 ∀(N k:Nat) (s:σ) (s':σ'),I k s s'->k<N->∃o o',aE b N s=YW o/\aE b' N s'=YW o'/\P o o'
 |0,k,s,s',_,hN=>Yn
 |N+1,k,s,s',hI,hN=>by
  simp only[aE]
  rcases h k s s' hI with⟨t,t',k',e,e',hk,hI'⟩ |⟨o,o',e,e',hP⟩
  ·rw[e,e']
   exact Tc I h N k' t t' hI' Yn
  grind
structure Shut(w:ax)(t:av)(x:ax):Prop where
 bk:gy w.aa t=YY
 later:w.now<cS w.aa t
 new:¬t∈w.ae
 few:w.ae.length<20
 ok:qw x
 same:qv ⟨w.aa,w.aj,w.au,w.ae++[t],w.now,w.aN,w.skip,w.bg⟩ x
 ord:∀(i:Nat) (o:az),w.aj[i]?=YW o->∃o',x.aj[i]?=YW o'/\(¬t∈mh o->o'=o)/\rn w.aa o o'
theorem Fq{w:ax}(h:qw w)(t:av):∃r,kH w t=YW r/\dW w t=YW r/\(r=(w,YZ)\/∃x,r=(x,YY)/\Shut w t x):=by
 have hf:=h.fit;obtain⟨p1,p2,p3,p4,p5,p6,p7⟩:=h.parts;obtain⟨hP,hRs⟩:=tl h;unfold kH dW;rw[ya hf,wk hf,VT,VT,sG hf,qg hf,h.ok,VT,VT,(re hf.fC t).1,yu hf.fC h.fC,VT,VT]
 cases zh:gy w.aa t with
 |false=>simp
 |true=>
 obtain⟨t1,t2,t3,t4,t5⟩:=cY hf.fC h.fC zh;have u0:dq w.aa t=YW (cS w.aa t):=by rw[ql];omega
 rw[u0,t1,VT,VT];simp only[V3]
 by_cases c1:cS w.aa t<=w.now
 ·grind
 rw[Yg c1,kh,jE hf.ae];have hcb:(w.ae.any λy=>Y0 (y=t))=dF w.ae t:=rfl
 rw[hcb]
 cases uo:dF w.ae t with
 |true=>simp
 |false=>
 simp only[Yk]
 by_cases c2:(20:Int)<=(w.ae.length:Int)
 ·grind
 have ha:cr (bn (w.ae.length+([t]:List av).length) 16)=YW ():=ff Yr Yn;rw[Yg c2,ha]
 let w1:ax:=⟨w.aa,w.aj,w.au,w.ae++[t],w.now,w.aN,w.skip,w.bg⟩
 have hf1:rF w1:=⟨hf.fC,hf.aj,hf.au,by grind,hf.aN,hf.skip,hf.aK⟩
 have xi:¬t∈w.ae:=λhm=>by grind
 have key:∃r r',aE (fy t w) NN (0,qq w1)=YW r/\aE (fP t) NN (0,qq w1)=YW r'/\r'=r/\∃u,r=qq u/\qv w1 u/\ve u (λj=>if j<w.aj.length then u.ae else w.ae)/\∀(i:Nat) (o:az),w.aj[i]?=YW o->∃o',u.aj[i]?=YW o'/\(¬t∈mh o->o'=o)/\rn w.aa o o':=by
  refine Tc (fun(k:Nat) (s s':Int×Int×Int×Int×(List bP)×(List Int)×(List az)×(List aq)×(List av)×(List br)×(List Int))=>s'=s/\∃(i:Nat) (u:ax),s=((i:Int),qq u)/\i+k=w.aj.length/\qv w1 u/\ve u (λj=>if j<i then u.ae else w.ae)/\
   (∀(j:Nat) (o:az),w.aj[j]?=YW o->∃o',u.aj[j]?=YW o'/\(¬t∈mh o->o'=o)/\rn w.aa o o')/\∀j,i<=j->u.aj[j]?=w.aj[j]?) (λk s s' hs=>?_) NN w.aj.length _ _ ⟨rfl,0,w1,rfl,Yn,qv.refl _,⟨hf1,hP.mq,hP.now,hP.JE,λi o ho=>hP.ord i o ho,hP.sum,λi=>by grind⟩,λj o ho=>⟨o,ho,λ_=>rfl,Or.inl rfl⟩,λj _=>rfl⟩ Ys
  obtain⟨rfl,i,u,rfl,hk,hS,hU,hold,uU⟩:=hs;have hul:u.aj.length=w.aj.length:=hS.len
  by_cases bX:i<w.aj.length
  ·have Pg:Y0 ((i:Int)<(w.aj.length:Int))=true:=Ya Yn
   have QS:Y0 ((i:Int)<(u.aj.length:Int))=true:=Ya Yn;have BE:aM ((i:Int)+1)=((i+1:Nat):Int):=by rw[aR Yn];omega
   have hio:=VV bX;have LF:u.aj[i]?=YW w.aj[i]:=by grind
   have hg:aB u.aj (i:Int)=YW w.aj[i]:=by rw[aP];omega
   have hO:=kZ hU LF;have hlen:=ua hU LF;obtain⟨k0,k1,k2,k3⟩:=nD hU LF;have Si:fo w.aj[i]=YW (bd w.aj[i]):=(s8 hO.ok.aO Yn).1;have EN:ic w.aj[i]=YW (bd w.aj[i]):=by
    rw[(s8 hO.ok.aO Yn).2.2,if_neg Yn]
   have vA:cr (fJ (bd w.aj[i]) (w.aj[i].aK.length:Int) w.aj[i].aK.length)=YW ():=ku YM;have sT:cM w.aj[i].aK (bd w.aj[i]) (w.aj[i].aK.length:Int)=mh w.aj[i]:=by
    unfold cM mh;rw[List.take_of_length_le Yq]
   have hrl:(mh w.aj[i]).length<=1048576:=by unfold mh;grind
   have hcr:((mh w.aj[i]).any λy=>Y0 (y=t))=dF (mh w.aj[i]) t:=rfl
   cases hc:dF (mh w.aj[i]) t
   rotate_left
   ·have hm:=kb.1 hc
    obtain⟨r1,r2⟩:=Mz hU LF (λe=>by grind)
    obtain⟨u',e2,e,hR,hU'⟩:=B6 hU LF r1 r2;obtain⟨s1,⟨o',o1,o2⟩,s3⟩:=Ka hU.fit.fC hR LF;rw[hS.aa]at o2
    have e':fm ⟨⟨u.aa.aA,u.aa.off,u.aa.change⟩,u.aj,u.au,u.ae,u.now,u.aN,u.skip,u.bg⟩ ((i+1:Nat):Int)=YW u':=e;have ye:eQ ⟨⟨u.aa.aA,u.aa.off,u.aa.change⟩,u.aj,u.au,u.ae,u.now,u.aN,u.skip,u.bg⟩ (i:Int)=YW u':=e2;refine .inl ⟨(((i+1:Nat):Int),qq u'),_,k-1,?_,?_,Yn,rfl,i+1,u',rfl,Yn,hS.trans s1,?_,λj o ho=>?_,λj hj=>?_⟩
    ·unfold fy
     simp only[qq,Pg,Yj,hg,VT,EN,vA,sT,jE hrl,BE,hcr,hc,bq,e']
    ·unfold fP
     show cond (Y0 ((i:Int)<(u.aj.length:Int))) _ _=_;rw[QS];simp only[qq,Yj,hg,VT,Si,vA,sT,kh,jE hrl,BE,hcr,hc,bq,ye]
    ·have ef:(λj=>if j=i then u.ae else if j<i then u.ae else w.ae)=λj=>if j<i+1 then u'.ae else w.ae:=by
      funext j
      rw[s1.ae]
      grind
     grind
    all_goals grind
   ·refine .inl ⟨(((i+1:Nat):Int),qq u),_,k-1,?_,?_,Yn,rfl,i+1,u,rfl,Yn,hS,⟨hU.fit,hU.mq,hU.now,hU.JE,λj o ho=>?_,hU.sum,λj=>?_⟩,hold,λj hj=>uU j Yn⟩
    ·unfold fy
     simp only[qq,Pg,Yj,Yk,hg,VT,EN,vA,sT,jE hrl,BE,hcr,hc]
    ·unfold fP
     show cond (Y0 ((i:Int)<(u.aj.length:Int))) _ _=_;rw[QS];simp only[qq,Yj,Yk,hg,VT,Si,vA,sT,kh,jE hrl,BE,hcr,hc]
    ·by_cases hj:j=i
     ·subst hj
      rw[LF]at ho
      obtain rfl:=VX ho;have hv:=hU.ord j _ LF;rw[if_neg (Nat.lt_irrefl j)]at hv
      rw[if_pos (Nat.lt_succ_self j)];unfold xw j9 at hv⊢
      simp only[Wd,WW]at hv⊢
      refine⟨hv.1,?_⟩;have UL:=hv.2;rw[hS.ae];refine Xo.2 λy hy hyc=>?_
      have:=Xo.1 UL y hy;have Zht:=kb.1 hyc
      rcases Wi.1 Zht with hx|hx
      ·exact this (kb.2 hx)
      ·obtain rfl:=List.mem_singleton.1 hx
       have:dF (mh w.aj[j]) y=true:=kb.2 hy
       grind
     ·have hv:=hU.ord j o ho
      grind
    ·show(if j<i+1 then u.ae else w.ae).length<=1048576
     split
     ·exact hU.fit.ae
     omega
  ·have Pg:Y0 ((i:Int)<(w.aj.length:Int))=false:=Yg Yn
   have QS:Y0 ((i:Int)<(u.aj.length:Int))=false:=Yg Yn;refine .inr ⟨qq u,_,?_,?_,rfl,u,rfl,hS,?_,hold⟩
   ·unfold fy
    grind
   ·unfold fP
    show cond (Y0 ((i:Int)<(u.aj.length:Int))) _ _=_
    grind
   refine⟨hU.fit,hU.mq,hU.now,hU.JE,λj o ho=>?_,hU.sum,λj=>?_⟩
   ·have hj:=(VU.1 ho).1
    have hv:=hU.ord j o ho
    grind
   ·show(if j<w.aj.length then u.ae else w.ae).length<=1048576
    split
    ·exact hU.fit.ae
    omega
 obtain⟨r,_,e,e2,rfl,u,rfl,hS,hU,hold⟩:=key;have e':aE (fy t w) NN (0,w.aa.change,w.now,w.bg,w.aa.aA,w.aa.off,w.aj,w.au,w.ae++[t],w.aN,w.skip)=YW (qq u):=e;have ye:aE (fP t) NN (0,w.aa.change,w.now,w.bg,w.aa.aA,w.aa.off,w.aj,w.au,w.ae++[t],w.aN,w.skip)=YW (qq u):=e2;rw[e',ye];refine⟨(u,YY),rfl,rfl,.inr ⟨u,rfl,zh,Yn,xi,Yn,?_,hS,hold⟩⟩;refine KK ⟨hU.fit,hU.mq,hU.now,hU.JE,λj o ho=>?_,hU.sum,λ_=>hU.fit.ae⟩ ⟨?_,by rw[hS.aN];omega,by rw[hS.skip];omega,by rw[hS.aN,hS.bg];omega,?_,?_⟩
 ·have hj:=(VU.1 ho).1
  have hv:=hU.ord j o ho;rw[if_pos (by rw[<-hS.len];omega)]at hv
  omega
 ·rw[hS.ae];grind
 ·refine cP.2 λj x hx=>?_
  unfold rZ;rw[hS.ae,hS.aa]at *
  have uq:(w.ae++[t])[j]?=YW x:=hx;rw[Wc];show(gy w.aa x&&!dF ((w.ae++[t]).take j) x)=YY
  by_cases hj:j<w.ae.length
  ·rw[Wu hj]at uq
   have:=cP.1 hRs.cl j x uq;unfold rZ at this
   grind
  grind
 ·refine cP.2 λj x hx=>?_
  rw[hS.aN]at hx
  have:=cP.1 hRs.sc j x hx;unfold wX at this⊢
  rw[hS.aa,hS.now];omega
def qi(p:az->Bool):Nat->List az->List Int
 |_,[]=>[]
 |i,o::os=>(if p o=YY then [((i+1:Nat):Int)]else [])++qi p (i+1) os
theorem uc(p:az->Bool):∀(os:List az) (i:Nat),(qi p i os).length=os.countP p
 | [],_=>rfl
 |o::os,i=>by
  unfold qi;rw[VZ,uc p os,List.countP_cons]
  grind
theorem wD{p:az->Bool}{x:Int}:∀{os:List az} {i:Nat},x∈qi p i os↔∃(j:Nat) (o:az),os[j]?=YW o/\p o=YY/\x=((i+j+1:Nat):Int)
 | [],i=>by simp[qi]
 |o::os,i=>by
  unfold qi;rw[Wi,wD (os:=os) (i:=i+1)];constructor
  ·rintro(h|⟨j,o',h1,h2,h3⟩)
   ·grind
   ·exact⟨j+1,o',by simp_all,h2,Yn⟩
  grind
theorem Dp(p:az->Bool):∀(os:List az) (o:az) (i:Nat),qi p i (os++[o])=qi p i os++(if p o=YY then [((i+os.length+1:Nat):Int)]else [])
 | [],o,i=>by simp[qi]
 |x::os,o,i=>by
  simp only[List.cons_append,qi,Dp p os o (i+1),List.append_assoc,V0]
  grind
theorem Ie{w:ax}(hl:w.aj.length<=1048576){body:Int×List Int->Option ((Int×List Int)⊕List Int)}{p:az->Bool}
 (h1:∀(i:Nat) (out:List Int) (o:az),w.aj[i]?=YW o->out.length<=i->body ((i:Int),out)=YW (.inl (((i+1:Nat):Int),out++(if p o=YY then [((i+1:Nat):Int)]else []))))
 (h2:∀out,body ((w.aj.length:Int),out)=YW (.inr out)):aE body NN (0,([]:List Int))=YW (qi p 0 w.aj):=by
 refine mD (body:=body) (λi:Nat=>((i:Int),qi p 0 (w.aj.take i))) (n:=w.aj.length) (λi hi=>?_) Yv NN Ys
 have ho:=VV hi;have xL:(qi p 0 (w.aj.take i)).length<=i:=by
  rw[uc];exact Wr List.countP_le_length Yr
 rw[h1 i _ _ ho xL,Xa hi,Dp,List.length_take,Nat.min_eq_left Yn,Wc]
theorem M5{n:Nat}(h:n<=1048576):cr (bn (n+1) 8)=YW ():=ku (by unfold bn;grind)
def eY(n:ah)(o:az):Bool:=!decide (o.state=3)&&Y0 (bd o=o.aK.length)&&!decide (gC n o=o.aY)
section
variable {w:ax} (h:qw w)
include h
theorem DT{i:Nat}{o:az}(ho:w.aj[i]?=YW o):gw w o=YW (eY w.aa o):=by
 have hok:=mX h.fit h.ok ho;have hl:=h.fit.aK o (VW ho);obtain⟨_,_,c3⟩:=s8 hok.aO hl;have ze:=hok.aO;unfold gw eY
 rcases hok.cases with⟨k1,k2⟩ |⟨k1,k2⟩ |⟨k1,k2,k3⟩
 ·have zJ:bd o=o.aO:=by unfold bd;omega
  have hp:mZ w o=YW (gC w.aa o):=by
   unfold mZ gC
   simp_all
  grind
 ·have zJ:bd o=o.aO+1:=by unfold bd;omega
  obtain⟨t,htg,zh⟩:=D0 h.fit h.ok ho hok.aO.1 k2;obtain⟨y,hy,_⟩:=fp h.fit.fC zh;have hp:mZ w o=YW (gC w.aa o):=by
   unfold mZ gC;rw[Ya k1,if_pos k1,htg,(nY htg).2];simp only[Yj,VT,hy,WG,Xj];unfold cq
   simp_all
  grind
 simp_all
theorem Hc:lR w=YW (qi (eY w.aa) 0 w.aj):=by
 have hor:=h.fit.aj;unfold lR;rw[sG h.fit,h.ok,VT];simp only[V3,Yk];rw[Ie hor (p:=eY w.aa) (λi out o ho hlen=>?_) (λout=>by unfold lS;simp)]
 ·rfl
 ·have bX:=(VU.1 ho).1
  have hg:aB w.aj (i:Int)=YW o:=by rw[aP];omega
  have hi:aM ((i:Int)+1)=((i+1:Nat):Int):=bG bX Yn;unfold lS;simp only[Ya (show(i:Int)<w.aj.length by omega),Yj,hg,VT,hi,DT h ho,V0,List.length_nil,M5 (show out.length<=1048576 by omega)]
  grind
end
theorem GQ(n:ah):(ak n).Nodup:=by
 unfold ak XL;have hs:((iL n).foldl sI []).Pairwise λa b=>qU a b=true:=uA List.Pairwise.nil
 exact hs.imp λ{a b} (bX:qU a b=YY) (e:a=b)=>GY b Yv
end Go.Proofs.YtdilaemengjipaaGreatDoor
