/- A part of the proof of the statement in the last file of this claim: texts on the language of the program and on its functions. No condition. -/
import Derived.Test.YtdilaemengjipaaGreatDoorCA35
import Derived.Test.YtdilaemengjipaaGreatDoorCA36
import Derived.Test.YtdilaemengjipaaGreatDoorCA22
import Derived.Test.YtdilaemengjipaaGreatDoorCA4
import Derived.Test.YtdilaemengjipaaGreatDoorCA8
import Derived.Test.YtdilaemengjipaaGreatDoorCA33
import Derived.Test.YtdilaemengjipaaGreatDoorCA7
import Derived.Test.YtdilaemengjipaaGreatDoorCA13
import Derived.Test.YtdilaemengjipaaGreatDoorCA20
import Derived.Test.YtdilaemengjipaaGreatDoorCA26
import Derived.Test.YtdilaemengjipaaGreatDoorCA27
import Derived.Test.YtdilaemengjipaaGreatDoorCA11
import Derived.Test.YtdilaemengjipaaGreatDoorCA29
import Derived.Test.YtdilaemengjipaaGreatDoorCA31
import Derived.Test.YtdilaemengjipaaGreatDoorCA1
set_option linter.unusedVariables false
set_option linter.unusedSimpArgs false
set_option linter.unusedSectionVars false
open Option renaming some->YH,none->YI
open Bool renaming true->YJ,false->YK
open Decidable renaming decide->YL
open Go.Proofs.Tryz
set_option maxHeartbeats 40000000
namespace Go.Proofs.YtdilaemengjipaaGreatDoor
open List renaming getElem?_eq_some_iff->VT,length_cons->VZ,length_nil->VY,getElem?_eq_getElem->VU,getElem_mem->Wm,getElem_of_mem->Wc,mem_of_getElem?->VV,mem_append->Wl,length_append->V3,mem_singleton->Wf,length_set->WI,mem_or_eq_of_mem_set->XZ
open Option renaming bind_some->VS,getD_some->Xe
open Nat renaming le_refl->VX,zero_add->We,le_trans->Wq
open Option.some renaming inj->VW
open _root_.Int renaming toNat->Wd
set_option maxRecDepth 10000
open Go.RowKit
variable {K:Nat}{a:bV}{l l':List aU}{now:Int}{p:aT}{w:ax}{α:Type}
theorem countP_set(p:α->Bool):∀{l:List α} {i:Nat} {o:α} (x:α),l[i]?=YH o->(l.set i x).countP p+(if p o=YJ then 1 else 0)=l.countP p+(if p x=YJ then 1 else 0)
 | [],_,_,_,h=>by grind
 |a::l,0,o,x,h=>by
  grind
 |a::l,i+1,o,x,h=>by
  grind
theorem Jb(p:az->Bool):∀(os:List az) (i:Nat),(qd p i os).Pairwise (· < ·)
 | [],_=>List.Pairwise.nil
 |o::os,i=>by
  refine List.pairwise_append.2 ⟨by cases p o<;>simp,Jb p os (i+1),λa ha b hb=>?_⟩
  obtain⟨j,o',_,_,rfl⟩:=vZ.1 hb
  grind
theorem Bf.same{w w':ax}(h:Bf w)(k:qo w w'):Bf w':=by
 refine⟨by rw[k.ah];exact h.ah,by rw[k.aH];exact h.aH,by rw[k.skip];exact h.skip,by rw[k.aH,k.bd];exact h.bd,?_,?_⟩
 ·have:=h.cl
  unfold rS at this⊢
  rw[k.ah,k.aa];omega
 ·have:=h.sc
  unfold wL at this⊢
  rw[k.aH,k.aa,k.now];omega
def P9(n:aj)(ah:List av)(now:Int)(bs:List aq)(i:Nat)(o:az):Prop:=(∃x,bN n bs ah (fZ n o) o.a8 (atR n now o) o.ab=YH (x,YK))\/
 ∃aG,bN n bs ah (fZ n o) o.a8 (atR n now o) o.ab=YH (aG,YJ)/\ct n bs ((i+1:Nat):Int) o.ab aG=YH (bs,YK)
structure Fe(w x:ax)(n:Nat):Prop where
 ok:ql x
 same:qo w x
 num:n+x.ae.countP (eP w.aa)=w.ae.countP (eP w.aa)
 ord:∀(i:Nat) (o:az),w.ae[i]?=YH o->∃o',x.ae[i]?=YH o'/\qX w.aa o o'/\(o'=o\/eP w.aa o=YJ/\eP w.aa o'=YK)
 YI:∀(i:Nat) (o:az),w.ae[i]?=YH o->x.ae[i]?=YH o->eP w.aa o=YJ->∃bs,(∀b∈bs,b∈x.ar)/\cn w.aa bs=YJ/\P9 w.aa w.ah w.now bs i o
theorem Gy{n:aj}{o:az}(h:eP n o=YJ):¬o.state=3/\bb o=o.aG.length/\¬fZ n o=o.a8/\lZ o=[]/\cf o=o.aG:=by
 unfold eP at h
 simp at h
 refine⟨h.1.1,h.1.2,h.2,?_,?_⟩
 ·unfold lZ
  simp_all
 ·unfold cf
  simp_all
theorem vD(h:ql w):gT w=YH (qd (eP w.aa) 0 w.ae):=by
 have Oj:=h.fit.ae;unfold gT;rw[qb h.fit,h.ok];rw[Hn Oj (p:=eP w.aa) (λi out o ho hlen=>?_) (λout=>by unfold lW;simp)]
 ·rfl
 ·have bU:=(VT.1 ho).1
  have hi:aI ((i:Int)+1)=((i+1:Nat):Int):=bE bU X9;obtain⟨b,b1,b2,_⟩:=JI h.fit h.ok ho;rw[C7 h ho]at b1
  unfold lW;simp only[VZ,VY,Me (show out.length<=1048576 by omega)]
  grind
theorem CQ(h:ql w):∃(x:ax) (n:Nat),iz w=YH (x,(n:Int))/\cD w=YH (x,(n:Int))/\Fe w x n:=by
 have hf:=h.fit;obtain⟨p1,p2,p3,p4,p5,p6,p7⟩:=h.parts
 let ids:=qd (eP w.aa) 0 w.ae
 have Zhq:ids.length<=30:=by
  rw[tU];grind
 have hpw:ids.Pairwise (· < ·):=Jb _ _ _
 unfold iz cD;rw[xL hf,vQ hf,VS,VS,Gz h,vD h,VS,VS];have key:∃r r',aD (dS ids) NN (0,0,qk w)=YH r/\aD (dZ ids) NN (0,qk w)=YH r'/\∃(u:ax) (m:Nat),r=((m:Int),qk u)/\r'=qk u/\Fe w u m:=by
  refine R6 (fun(k:Nat) (s:Int×Int×Int×Int×Int×(List bK)×(List Int)×(List az)×(List aq)×(List av)×(List bq)×(List Int)) (s':Int×Int×Int×Int×(List bK)×(List Int)×(List az)×(List aq)×(List av)×(List bq)×(List Int))=>
   ∃(a:Nat) (u:ax) (m:Nat),s=((m:Int),(a:Int),qk u)/\s'=((a:Int),qk u)/\a+k=ids.length/\ql u/\qo w u/\m<=a/\m+u.ae.countP (eP w.aa)=w.ae.countP (eP w.aa)/\
   (∀(i:Nat) (o:az),w.ae[i]?=YH o->∃o',u.ae[i]?=YH o'/\qX w.aa o o'/\(o'=o\/eP w.aa o=YJ/\eP w.aa o'=YK))/\
   (∀(i:Nat) (o:az),w.ae[i]?=YH o->(∀b,b<a->¬ids[b]?=YH ((i+1:Nat):Int))->u.ae[i]?=YH o)/\
   (∀(i:Nat) (o:az),w.ae[i]?=YH o->u.ae[i]?=YH o->eP w.aa o=YJ->(∃b,b<a/\ids[b]?=YH ((i+1:Nat):Int))->∃bs,(∀b∈bs,b∈u.ar)/\cn w.aa bs=YJ/\P9 w.aa w.ah w.now bs i o)) (λk s s' hs=>?_) NN ids.length _ _
   ⟨0,w,0,rfl,rfl,X9,h,qo.refl w,VX _,We _,λi o ho=>⟨o,ho,Or.inl rfl,.inl rfl⟩,λi o ho _=>ho,λi o _ _ _ hb=>X9⟩ Yc
  obtain⟨a,u,m,rfl,rfl,hk,hu,hS,hma,Zee,hold,xW,Rx⟩:=hs
  by_cases bU:a<ids.length
  ·have hd:YL ((a:Int)<(ids.length:Int))=true:=X1 X9
   have hwa:aI ((a:Int)+1)=((a+1:Nat):Int):=by rw[aR X9];omega
   have hwm:aI ((m:Int)+1)=((m+1:Nat):Int):=by rw[aR X9];omega
   have hia:ids[a]?=YH ids[a]:=VU bU;have hga:aB ids (a:Int)=YH ids[a]:=by rw[aS];omega
   obtain⟨i,o,hio,uL,hx⟩:=vZ.1 (Wm bU);rw[We]at hx
   have uJ:ids[a]=((i+1:Nat):Int):=hx;have Zhp:i<30:=by grind
   have KH:u.ae[i]?=YH o:=xW i o hio λb hb e=>by
    have zi:b<ids.length:=X9;rw[VU zi]at e
    have:=List.pairwise_iff_getElem.1 hpw b a zi bU hb
    grind
   obtain⟨hU,hRs⟩:=s7 hu;obtain⟨r1,r2,r3,r4,r5⟩:=Gy uL;have qj:u.aa=w.aa:=hS.aa;obtain⟨u',e2,e,hR,hU'⟩:=Bm hU KH r1 Yd;obtain⟨s1,⟨o',o1,o2⟩,s3⟩:=Jq hU.fit.eO hR KH;rw[qj]at o2
   have tF:ql u':=by
    refine JV ?_ (hRs.same s1);have ef:(λj=>if j=i then u.ah else u.ah)=λ_:Nat=>u'.ah:=by
     funext j;rw[s1.ah];simp
    grind
   have Za1:gl u i o=u.ar:=by unfold gl;rw[r4];exact N0 _ _
   have On:=C7 tF o1;have Zec:u'.aa=w.aa:=s1.aa.trans qj;rw[Zec]at On
   have wI:aI (((i+1:Nat):Int)-1)=(i:Int):=by rw[aR X9];omega
   have hgo:aB u'.ae (i:Int)=YH o':=by rw[aS];omega
   have e':eZ ⟨⟨u.aa.aA,u.aa.off,u.aa.change⟩,u.ae,u.ar,u.ah,u.now,u.aH,u.skip,u.bd⟩ ((i+1:Nat):Int)=YH u':=e;have xO:eF ⟨⟨u.aa.aA,u.aa.off,u.aa.change⟩,u.ae,u.ar,u.ah,u.now,u.aH,u.skip,u.bd⟩ (i:Int)=YH u':=e2;have zY:dZ ids ((a:Int),qk u)=YH (.inl (((a+1:Nat):Int),qk u')):=by
    unfold dZ;simp only[qk,hd,X5,hga,VS,bh,uJ,wI,xO,hwa]
   have him:∀v,eP w.aa o'=v->dS ids ((m:Int),(a:Int),qk u)=YH (.inl ((((if v=YJ then m else m+1):Nat):Int),((a+1:Nat):Int),qk u')):=λv hv=>by
    unfold dS;simp only[qk,hd,X5,hga,VS,bh,uJ,wI,e',hgo,hwa]
    grind
   rcases hR with⟨wG,It⟩ |⟨aG,bs,hN,It⟩
   · -- nothing is found: all stays
    have huu:u'=u:=by
     have zk:u.ae.set i o=u.ae:=by
      refine List.ext_getElem? λj=>?_
      grind
     rw[It,Za1,r5];show(⟨u.aa,u.ae.set i o,u.ar,u.ah,u.now,u.aH,u.skip,u.bd⟩:ax)=u;rw[zk]
    rw[huu]at o1 zY him
    rw[KH]at o1
    obtain rfl:=VW o1;refine .inl ⟨_,_,k-1,him _ uL,zY,X9,a+1,u,m,by rfl,rfl,X9,hu,hS,X9,Zee,hold,λj x hj hb=>xW j x hj λb hba=>hb b X9,λj x hj hux hsx hb=>?_⟩
    obtain⟨b,pk,uI⟩:=hb
    by_cases hba:b<a
    ·exact Rx j x hj hux hsx ⟨b,hba,uI⟩
    ·have hbe:b=a:=X9
     subst hbe;rw[hia,uJ]at uI
     have FH:j=i:=by grind
     subst FH;rw[hio]at hj
     obtain rfl:=VW hj;refine⟨u.ar,λb hb=>hb,by rw[<-qj];exact hU.mg,?_⟩
     have Rw:=wG;unfold P8 at Rw
     rw[Za1,qj,hS.ah,hS.now]at Rw
     exact Rw
   · -- a aG is found
    have ZhC:¬aG=[]:=λhw=>by
     have hl:=hN.JS.last
     grind
    have yO:o'=fK o (cf o++aG):=by
     rw[It]at o1
     have:(u.ae.set i (fK o (cf o++aG)))[i]?=YH o':=o1
     grind
    have Rj:eP w.aa o'=false:=by
     have zj:bb o'=bb o:=by rw[yO];rfl
     have TH:0<aG.length:=by grind
     have hol:o'.aG.length=o.aG.length+aG.length:=by
      rw[yO];show(cf o++aG).length=_
      simp_all
     unfold eP
     grind
    have xq:u'.ar=bs:=by rw[It];rfl
    have u9:∀b∈u.ar,b∈u'.ar:=λb hb=>by
     rw[xq];exact hN.perm.mem_iff.2 (List.mem_append_left _ Yg)
    have Du:=countP_set (eP w.aa) (fK o (cf o++aG)) KH;rw[<-yO,uL,Rj]at Du
    have hou:u'.ae=u.ae.set i o':=by rw[It,yO];rfl
    simp only[if_true,Bool.false_eq_true,if_false]at Du
    refine .inl ⟨_,_,k-1,him _ Rj,zY,X9,a+1,u',m+1,by simp,rfl,X9,tF,hS.trans s1,X9,by grind,λj x hj=>?_,λj x hj hb=>?_,λj x hj hux hsx hb=>?_⟩
    ·grind
    ·grind
    ·have FH:¬j=i:=λe=>by
      grind
     rw[s3 j FH]at hux
     obtain⟨b,pk,uI⟩:=hb;have hba:b<a:=by
      grind
     obtain⟨bs',q1,q2,q3⟩:=Rx j x hj hux hsx ⟨b,hba,uI⟩
     grind
  ·have hd:YL ((a:Int)<(ids.length:Int))=false:=X2 X9
   refine .inr ⟨((m:Int),qk u),qk u,?_,?_,u,m,rfl,rfl,hu,hS,Zee,hold,λi o ho KH uL=>Rx i o ho KH uL ?_⟩
   ·unfold dS
    grind
   ·unfold dZ
    grind
   ·have hm:((0+i+1:Nat):Int)∈ids:=vZ.2 ⟨i,o,ho,uL,rfl⟩
    rw[We]at hm
    obtain⟨b,hb,hbe⟩:=Wc hm;exact⟨b,X9,by simp_all⟩
 obtain⟨r,r',e,e2,u,m,rfl,rfl,hR⟩:=key;have e':aD (dS (qd (eP w.aa) 0 w.ae)) NN (0,0,w.aa.change,w.now,w.bd,w.aa.aA,w.aa.off,w.ae,w.ar,w.ah,w.aH,w.skip)=YH ((m:Int),qk u):=e;have xO:aD (dZ (qd (eP w.aa) 0 w.ae)) NN (0,w.aa.change,w.now,w.bd,w.aa.aA,w.aa.off,w.ae,w.ar,w.ah,w.aH,w.skip)=YH (qk u):=e2;rw[e',xO];refine⟨u,m,rfl,?_,hR⟩;have hsu:=vD hR.ok;have Zga:gT ⟨⟨u.aa.aA,u.aa.off,u.aa.change⟩,u.ae,u.ar,u.ah,u.now,u.aH,u.skip,u.bd⟩=YH (qd (eP u.aa) 0 u.ae):=hsu;simp only[qk,VS,Zga];have hn:=hR.num;have hnn:eP u.aa=eP w.aa:=by rw[hR.same.aa]
 rw[tU,tU,hnn];have hc:w.ae.countP (eP w.aa)<=30:=Wq List.countP_le_length p2;rw[aR X9,show((w.ae.countP (eP w.aa):Nat):Int)-((u.ae.countP (eP w.aa):Nat):Int)=(m:Int)by omega]
def nF(o:aL)(a:bV):Option (aL×Int):=
 (dN o).bind λy1=>
 (jv o).bind λy2=>
 cond (!y2)
 (YH (y1,1))
 ((eE a).bind λy3=>
 cond (!y3)
 (YH (y1,1))
 (cond (YL (150<=(o.aF.length:Int)))
 (YH (y1,5))
 (cond (YL (a.kind=1))
 ((bh [16,3,4,5,6,7,8,9,10,11,12,13,14,15]).bind λ_=>
 (nG y1 a.aQ).bind λy4=>
 cond (!decide (y4.1=0))
 ((dN o).bind λy5=>
 YH (y5,y4.1))
 ((ey a).bind λy6=>
 (bW (bm ((y4.2.aF:List bV).length+([y6]:List bV).length) 136)).bind λ_=>
 YH ((⟨y4.2.world,y4.2.aY,y4.2.aX,y4.2.aM,y4.2.aK,y4.2.lines,((y4.2.aF:List bV)++[y6])⟩:aL),0)))
 (cond (YL (a.kind=2))
 (cond (YL (a.kind=2))
 ((bh [16,3,4,5,6,7,8,9,10,11,12,13,14,15]).bind λ_=>
 (j5 y1 a).bind λy7=>
 cond (!decide (y7.1=0))
 ((dN o).bind λy8=>
 YH (y8,y7.1))
 ((ey a).bind λy9=>
 (bW (bm ((y7.2.aF:List bV).length+([y9]:List bV).length) 136)).bind λ_=>
 YH ((⟨y7.2.world,y7.2.aY,y7.2.aX,y7.2.aM,y7.2.aK,y7.2.lines,((y7.2.aF:List bV)++[y9])⟩:aL),0)))
 ((bh [16,3,4,5,6,7,8,9,10,11,12,13,14,15]).bind λ_=>
 (lf y1 a).bind λdL=>
 cond (!decide (dL.1=0))
 ((dN o).bind λji=>
 YH (ji,dL.1))
 ((ey a).bind λoX=>
 (bW (bm ((dL.2.aF:List bV).length+([oX]:List bV).length) 136)).bind λ_=>
 YH ((⟨dL.2.world,dL.2.aY,dL.2.aX,dL.2.aM,dL.2.aK,dL.2.lines,((dL.2.aF:List bV)++[oX])⟩:aL),0))))
 (cond (YL (a.kind=6))
 ((bh [16,3,4,5,6,7,8,9,10,11,12,13,14,15]).bind λ_=>
 (j5 y1 a).bind λmf=>
 cond (!decide (mf.1=0))
 ((dN o).bind λkX=>
 YH (kX,mf.1))
 ((ey a).bind λpg=>
 (bW (bm ((mf.2.aF:List bV).length+([pg]:List bV).length) 136)).bind λ_=>
 YH ((⟨mf.2.world,mf.2.aY,mf.2.aX,mf.2.aM,mf.2.aK,mf.2.lines,((mf.2.aF:List bV)++[pg])⟩:aL),0)))
 ((bh [16,3,4,5,6,7,8,9,10,11,12,13,14,15]).bind λ_=>
 (lf y1 a).bind λmu=>
 cond (!decide (mu.1=0))
 ((dN o).bind λrn=>
 YH (rn,mu.1))
 ((ey a).bind λsi=>
 (bW (bm ((mu.2.aF:List bV).length+([si]:List bV).length) 136)).bind λ_=>
 YH ((⟨mu.2.world,mu.2.aY,mu.2.aX,mu.2.aM,mu.2.aK,mu.2.lines,((mu.2.aF:List bV)++[si])⟩:aL),0))))))))
instance (o:aL)(a:bV):CT prog (nF o a):=⟨8,[.ag (lx o),.ag (gF a)],[],λr=>.tu [.ag [.ms 0,.ms 1,vi r.1.world.aa.change,.ms 2,.ms 3,.ms 4,vi r.1.world.now,.ms 5,.ms 6,vi r.1.world.bd,.ms 7,.ms 8,.ms 9,.ms 10,.ms 11,.ms 12],vi r.2],λr=>[YH ⟨.of 144,6,r.1.world.aa.aA.map bn⟩,YH ⟨.of 3,1,r.1.world.aa.off.map aE⟩,YH ⟨⟨94,YH 46⟩,11,r.1.world.ae.map ba⟩,YH ⟨.of 147,4,r.1.world.ar.map aC⟩,YH ⟨.of 46,2,r.1.world.ah.map aW⟩,YH ⟨.of 151,6,r.1.world.aH.map bt⟩,YH ⟨.of 3,1,r.1.world.skip.map aE⟩,YH ⟨.of 78,2,r.1.aY.map cG⟩,YH ⟨.of 81,4,r.1.aX.map cI⟩,YH ⟨.of 3,1,r.1.aM.map aE⟩,YH ⟨⟨44,YH 3⟩,7,r.1.aK.map bJ⟩,YH ⟨.of 85,4,r.1.lines.map bC⟩,YH ⟨⟨48,YH 3⟩,13,r.1.aF.map gF⟩],ck (nF.eq_1 ..) func8 ntmps8 results8⟩
structure PF(p:aT):Prop where
 a8:p.label.a8.size<=rq
 au:p.au.size<=rq
 bH:p.bH.length<=1048576
structure OF(o:aL):Prop where
 world:qp o.world
 aY:rF o.aY
 aX:o.aX.length<=1048576
 sO:o.aM.length<=1048576
 lines:o.lines.length<=1048576
 aK:o.aK.length<=1048576
 aF:o.aF.length<=1048576
 pf:∀p∈o.aK,PF p
 af:∀a∈o.aF,PF a.aQ
theorem PF.fit(h:PF p):p.label.a8.size<=rq/\p.au.size<=rq/\p.bH.length<NN:=⟨h.a8,h.au,by have:=h.bH;unfold NN;omega⟩
theorem OF.fit{o:aL}(h:OF o):Zdb o:=⟨h.world,h.aY,h.aX,h.sO,h.lines,h.aK,h.aF,λp hp=>(h.pf p hp).fit,λa ha=>(h.af a ha).fit⟩
theorem Ft(h:PF p):fv p=YH p:=by
 unfold fv;rw[eV (by have:=h.bH;grind) X9];rfl
theorem AR(h:PF p):gC p=YH p:=by
 unfold gC;rw[wZ h.bH];rfl
theorem Mi(h:PF a.aQ):ey a=YH a:=by
 unfold ey;rw[Ft h];rfl
theorem yc{xs:List α}{body:Int×List α->Option ((Int×List α)⊕List α)}(h1:∀(i:Nat) x,xs[i]?=YH x->body ((i:Int),xs.take i)=YH (.inl (((i+1:Nat):Int),xs.take i++[x])))
 (h2:body ((xs.length:Int),xs)=YH (.inr xs)) (hN:xs.length<NN):aD body NN (0,[])=YH xs:=by
 refine my (λi=>(((i:Nat):Int),xs.take i)) (n:=xs.length) (λi hi=>?_) Yd NN hN
 simp_all
theorem vO{x:α}{n c:Nat}(h:n<=1048576)(hc:c<=1024):bW (bm (n+([x]:List α).length) c)=YH ():=od (by unfold bm;rw[X7,show([x]:List α).length=1 from rfl];exact⟨X9,Wq (Nat.mul_le_mul (show n+1<=1048577 by omega) hc) X9⟩)
section
variable {o:aL} (h:OF o)
include h
theorem Uf:dN o=YH o:=by
 have e0:∀y1 y2,aD (gx o y1 y2) NN (0,[])=YH o.aK:=λy1 y2=>by
  refine yc (λi x hx=>?_) (by unfold gx;simp) (by have:=h.aK;unfold NN;omega)
  have bU:=(VT.1 hx).1;have hp:=h.aK;unfold gx;simp only[X1 (show(i:Int)<o.aK.length by omega),aS,hx,VS,Ft (h.pf x (VV hx)),bE bU X9]
  rw[vO Yd X9];rfl
 have e1:∀y1 y2 o0,aD (gy o y1 y2 o0) NN (0,[])=YH o.aF:=λy1 y2 o0=>by
  refine yc (λi x hx=>?_) (by unfold gy;simp) (by have:=h.aF;unfold NN;omega)
  have bU:=(VT.1 hx).1;have hp:=h.aF;unfold gy;simp only[X1 (show(i:Int)<o.aF.length by omega),aS,hx,VS,Mi (h.af x (VV hx)),bE bU X9]
  rw[vO Yd X9];rfl
 show(dA o.world).bind _=_;rw[xL h.world,VS,eV (by have:=h.aY.1;grind) X9,VS,eV (by have:=h.aX;grind) X9,VS,eV (by have:=h.sO;grind) X9,VS,yg h.lines,VS,e0,VS,e1]
 rfl
theorem Mk:iJ o=YH o:=by
 have e0:∀y1 y2 y3,aD (jC o y1 y2 y3) NN (0,[])=YH o.aK:=λy1 y2 y3=>by
  refine yc (λi x hx=>?_) (by unfold jC;simp) (by have:=h.aK;unfold NN;omega)
  have bU:=(VT.1 hx).1;have hp:=h.aK;unfold jC;simp only[X1 (show(i:Int)<o.aK.length by omega),aS,hx,VS,AR (h.pf x (VV hx)),bE bU X9]
  rw[vO Yd X9];rfl
 have e1:∀y1 y2 y3 o0,aD (jD o y1 y2 y3 o0) NN (0,[])=YH o.aF:=λy1 y2 y3 o0=>by
  refine yc (λi x hx=>?_) (by unfold jD;simp) (by have:=h.aF;unfold NN;omega)
  have bU:=(VT.1 hx).1;have hp:=h.aF;unfold jD;simp only[X1 (show(i:Int)<o.aF.length by omega),aS,hx,VS,AR (h.af x (VV hx)),bE bU X9]
  rw[vO Yd X9];rfl
 show(ee o.world).bind _=_;rw[vQ h.world,VS,eV (by have:=h.aY.1;grind) X9,VS,eV (by have:=h.aX;grind) X9,VS,wZ h.sO,VS,yh h.lines,VS,e0,VS,e1]
 rfl
end
structure L7(o:aL)(p:aT)(x:aL):Prop where
 kQ:∃v aG ys dW,gR o.aY o.aX p=YH (v,YJ)/\¬v=0/\Qe o.world p.au p.label.a8 p.label.ay p.ab (x.world,(o.world.ae.length:Int)+1,YJ) aG ys dW/\qt o.lines ((o.world.ae.length:Int)+1) v o.world.now=(x.lines,0)/\cQ o.world p.au p.label.a8 p.label.ay p.ab=YH (x.world,(o.world.ae.length:Int)+1,YJ)
 aY:x.aY=o.aY
 aX:x.aX=o.aX
 sO:x.aM=o.aM
 aK:x.aK=o.aK++[p]
 aF:x.aF=o.aF
theorem TO(w:ax)(o:az)(ys:List aq):(xw w o ys).now=w.now:=rfl
section
variable {o:aL} (h:OF o) (hv:ew o.world=YJ)
include h hv
theorem PJ(hp:PF p):∃r,nG o p=YH r/\lM o p=YH r/\(¬r.1=0/\r.2=o\/r.1=0/\L7 o p r.2):=by
 have hw:ql o.world:=⟨h.world,hv⟩;obtain⟨e,v,e'⟩:=yu h.aY h.aX hp.fit.1 hp.fit.2.1 hp.fit.2.2;unfold nG lM;rw[e,e',VS,VS];obtain⟨v,ok⟩:=v
 cases ok with
 |false=>simp
 |true=>
 by_cases hz:v=0
 ·simp_all
 simp only[X2 hz];obtain⟨r,a1,a2,hr⟩:=zK hw p.au p.label.a8 p.label.ay p.ab;show ∃r,(fk _ _ _ _ _).bind _=_/\(cQ _ _ _ _ _).bind _=_/\_;rw[a1,a2]
 rcases hr with⟨rfl,_⟩ |⟨aG,ys,dW,hT⟩
 ·simp
 have Iq:=hT.res;have Cg:r.1.now=o.world.now:=by rw[Iq];rfl
 have hid:r.2.1=(o.world.ae.length:Int)+1:=by grind
 have hok:r.2.2=true:=by grind
 simp only[hok,hid,Cg,QA h.lines,Hj h.lines,VS,Ft hp,AR hp]
 by_cases hc:(qt o.lines ((o.world.ae.length:Int)+1) v o.world.now).2=0
 ·rw[X1 hc,Bool.not_true,vO h.aK X9]
  refine⟨_,rfl,rfl,.inr ⟨rfl,⟨v,aG,ys,dW,e',hz,?_,?_,?_⟩,rfl,rfl,rfl,rfl,rfl⟩⟩
  all_goals grind
 simp_all
def GV(o:aL)(a:bV)(x:aL):Prop:=∃l y,x=⟨o.world,o.aY,o.aX,o.aM,o.aK,l,o.aF⟩/\1<=a.order/\aB o.world.ae (a.order-1)=YH y/\
 (¬a.kind=6/\DG o.lines a.order a.bz o.world.now=(l,0)\/a.kind=6/\y.state=3/\rk o.lines a.order y.dW y.bB o.aM o.world.now=(l,0))
theorem KX(hl:o.aK.length=o.world.ae.length)(h1:1<=a.order):∃r,j5 o a=YH r/\iM o a=YH r/\(¬r.1=0/\r.2=o\/r.1=0/\GV o a r.2):=by
 have ho:=h.world.ae;unfold j5 iM;rw[cE,hl]
 by_cases h2:(o.world.ae.length:Int)<a.order
 ·rw[X1 h2,X2 (show ¬a.order<=(o.world.ae.length:Int)by omega)]
  simp
 have hw:aI (a.order-1)=a.order-1:=aR X9;obtain⟨y,hy⟩:∃y,aB o.world.ae (a.order-1)=YH y:=by
  obtain⟨k,hk⟩:∃k:Nat,a.order-1=(k:Int):=⟨(a.order-1).toNat,X9⟩;rw[hk];exact⟨_,VU (show k<o.world.ae.length by omega)⟩
 rw[X2 h2,X1 h1,X1 (show a.order<=(o.world.ae.length:Int)by omega)]
 simp only[hw,hy,VS,ZeJ h.lines,Sr h.lines,SN h.lines h.sO,Jn h.lines h.sO]
 by_cases hk:a.kind=6
 ·simp only[X1 hk]
  by_cases hs:y.state=3
  ·simp only[X1 hs]
   by_cases hc:(rk o.lines a.order y.dW y.bB o.aM o.world.now).2=0
   ·simp only[X1 hc]
    exact⟨_,rfl,rfl,.inr ⟨rfl,_,y,rfl,h1,hy,.inr ⟨hk,hs,by grind⟩⟩⟩
   simp_all
  simp_all
 ·simp only[X2 hk]
  by_cases hc:(DG o.lines a.order a.bz o.world.now).2=0
  ·simp only[X1 hc]
   exact⟨_,rfl,rfl,.inr ⟨rfl,_,y,rfl,h1,hy,.inl ⟨hk,by grind⟩⟩⟩
  simp_all
def Bd(o:aL)(a:bV)(x:aL):Prop:=∃w,x=⟨w,o.aY,o.aX,o.aM,o.aK,o.lines,o.aF⟩/\
 (a.kind=3/\o.world.now<a.bM/\w=Fh o.world a.bM\/a.kind=4/\cJ o.world a.bj=YH (w,YJ)/\Shut o.world a.bj w\/a.kind=5/\∃n:Nat,¬n=0/\cD o.world=YH (w,(n:Int))/\Fe o.world w n)
theorem OO(hk:a.kind=3/\a.bM<=100000\/a.kind=4\/a.kind=5):∃r,lf o a=YH r/\(¬r.1=0/\r.2=o\/r.1=0/\Bd o a r.2)/\
 (cond (YL (a.kind=3)) (cond (YL (a.bM<=o.world.now)) (YH (6,o)) ((kR 8 []).bind λ_=>(dv o.world a.bM).bind λy3=>YH (0,(⟨y3,o.aY,o.aX,o.aM,o.aK,o.lines,o.aF⟩:aL))))
  (cond (YL (a.kind=4)) ((kR 8 []).bind λ_=>(cJ o.world a.bj).bind λy4=>cond (!y4.2) (YH (6,o)) (YH (0,(⟨y4.1,o.aY,o.aX,o.aM,o.aK,o.lines,o.aF⟩:aL))))
  ((cD o.world).bind λy5=>cond (YL (y5.2=0)) (YH (6,o)) (YH (0,(⟨y5.1,o.aY,o.aX,o.aM,o.aK,o.lines,o.aF⟩:aL))))):Option (Int×aL))=YH r:=by
 have hw:ql o.world:=⟨h.world,hv⟩;unfold lf
 rcases hk with⟨hk,hu⟩ |hk|hk
 ·simp only[hk]
  by_cases hc:a.bM<=o.world.now
  ·simp_all
  ·have hif:ew o.world=YJ/\o.world.now<=a.bM/\a.bM<=100000:=⟨hv,X9,hu⟩
   simp only[X2 hc,Nz h.world,if_pos hif];refine⟨_,rfl,.inr ⟨rfl,_,rfl,.inl ⟨hk,X9,rfl⟩⟩,?_⟩;rw[yS h.world,if_pos hif];rfl
 ·simp only[hk]
  obtain⟨r,e1,e2,hr⟩:=EO hw a.bj;rw[e1]
  rcases hr with rfl|⟨x,rfl,hS⟩
  ·refine⟨_,rfl,.inl ⟨by simp,rfl⟩,?_⟩
   show(cJ o.world a.bj).bind _=_
   grind
  ·refine⟨_,rfl,.inr ⟨rfl,_,rfl,.inr (.inl ⟨hk,e2,hS⟩)⟩,?_⟩
   show(cJ o.world a.bj).bind _=_
   grind
 ·simp only[hk]
  obtain⟨x,n,e1,e2,hR⟩:=CQ hw;have xO:=e2;rw[e1,xO];simp only[VS]
  by_cases hn:n=0
  ·simp_all
  ·simp only[X2 (show ¬((n:Int)=0)by omega)]
   exact⟨_,rfl,.inr ⟨rfl,_,rfl,.inr (.inr ⟨hk,n,hn,e2,hR⟩)⟩,rfl⟩
end
theorem Bi(h1:a.aQ.label.a8.size<=rq)(h2:a.aQ.au.size<=rq)(h3:a.aQ.bH.length<NN)(h:eE a=YH YJ):
 (a.kind=1\/(a.kind=2\/a.kind=6)/\1<=a.order\/(a.kind=3/\a.bM<=100000\/a.kind=4\/a.kind=5)):=by
 unfold eE at h
 simp only[o4,gE,cE]at h
 grind
theorem nn{o:aL}(h:iu o=YJ):ew o.world=YJ/\rM o.aY=YJ/\rJ o.aX (o.aY.length:Int)=YJ/\oH o.aM=YJ/\dG (o.lines.map bO)=YJ/\o.aK.length=o.world.ae.length/\o.aF.length<=150/\allI (nz o) 0 o.aK=YJ/\allI (tJ o) 0 o.lines=YJ/\allI Fg 0 o.aF=true:=by
 unfold iu at h
 grind
theorem tQ{o:aL}(a:ew o.world=YJ)(b:rM o.aY=YJ)(c:rJ o.aX (o.aY.length:Int)=YJ)(d:oH o.aM=YJ)(e:dG (o.lines.map bO)=YJ)(f:o.aK.length=o.world.ae.length)(g:o.aF.length<=150)(i:allI (nz o) 0 o.aK=YJ)(j:allI (tJ o) 0 o.lines=YJ)(k:allI Fg 0 o.aF=YJ):iu o=true:=by
 unfold iu
 grind
def JT(y:aL)(j:List bV):aL:=⟨y.world,y.aY,y.aX,y.aM,y.aK,y.lines,j⟩
structure Nx(o:aL)(a:bV)(x:aL):Prop where
 ok:iu o=YJ
 act:eE a=YH YJ
 few:o.aF.length<150
 how:∃y,x=JT y (o.aF++[a])/\(a.kind=1/\L7 o a.aQ y\/(a.kind=2\/a.kind=6)/\GV o a y\/(a.kind=3\/a.kind=4\/a.kind=5)/\Bd o a y)
theorem Mo{o:aL}(h:OF o)(ha:PF a.aQ):∃x c,nF o a=YH (x,c)/\mC o a=YH (x,c)/\(¬c=0/\x=o\/c=0/\Nx o a x):=by
 obtain⟨b,b1,b2⟩:=Bh ha.fit.1 ha.fit.2.1 ha.fit.2.2;unfold nF mC;simp only[Uf h,Mk h,zZ h.fit,An h.fit,b1,b2]
 cases hv:iu o with
 |false=>exact⟨_,_,rfl,rfl,.inl ⟨by simp,rfl⟩⟩
 |true=>
 cases b with
 |false=>exact⟨_,_,rfl,rfl,.inl ⟨by simp,rfl⟩⟩
 |true=>
 by_cases hj:150<=o.aF.length
 ·rw[X1 (show(150:Int)<=o.aF.length by omega)]
  exact⟨_,_,rfl,rfl,.inl ⟨by simp,rfl⟩⟩
 rw[X2 (show ¬(150:Int)<=o.aF.length by omega)]
 simp only[Bool.not_true,X6,Mi ha,AR ha,VS];have hp:=nn hv;have fin:∀{r:Int×aL} {Q:aL->Prop},(¬r.1=0/\r.2=o\/r.1=0/\Q r.2)->(∀y,Q y->y.aF=o.aF)->(∀y,Q y->(a.kind=1/\L7 o a.aQ y\/(a.kind=2\/a.kind=6)/\GV o a y\/(a.kind=3\/a.kind=4\/a.kind=5)/\Bd o a y))->
  ∃x c,(cond (!decide (r.1=0)) (YH (o,r.1)) ((bW (bm ((r.2.aF:List bV).length+([a]:List bV).length) 136)).bind λ_=>YH (JT r.2 (r.2.aF++[a]),0)))=YH (x,c)/\
   (cond (!decide (r.1=0)) (YH (o,r.1)) ((bW (bm ((r.2.aF:List bV).length+([a]:List bV).length) 136)).bind λ_=>YH (JT r.2 (r.2.aF++[a]),r.1)))=YH (x,c)/\(¬c=0/\x=o\/c=0/\Nx o a x):=λ{r Q} hr hQ hD=>by
  rcases hr with⟨hc,_⟩ |⟨hc,hq⟩
  ·rw[X2 hc]
   exact⟨_,_,rfl,rfl,.inl ⟨hc,rfl⟩⟩
  ·rw[hQ _ hq,vO X9 X9,hc]
   exact⟨_,_,rfl,rfl,.inr ⟨rfl,hv,b1,X9,r.2,rfl,hD _ hq⟩⟩
 rcases Bi ha.fit.1 ha.fit.2.1 ha.fit.2.2 b1 with hk|⟨hk,ho⟩ |hk
 ·obtain⟨r,e1,e2,hr⟩:=PJ h hp.1 ha
  unfold lh;simp only[X1 hk,e1,e2];exact fin hr (λy hy=>hy.aF) λy hy=>.inl ⟨hk,hy⟩
 ·obtain⟨r,e1,e2,hr⟩:=KX h hp.1 hp.2.2.2.2.2.1 ho
  have hq:=fin hr (λy hy=>by obtain⟨l,z,rfl,_⟩:=hy;rfl) λy hy=>.inr (.inl ⟨hk,hy⟩)
  unfold lh
  rcases hk with hk|hk
  ·simp only[X2 (show ¬a.kind=1 by omega),X1 hk,e1,e2]
   exact hq
  ·simp only[X2 (show ¬a.kind=1 by omega),X2 (show ¬a.kind=2 by omega),X1 hk,e1,e2]
   exact hq
 ·obtain⟨r,e1,hr,e2⟩:=OO h hp.1 hk
  have hk':a.kind=3\/a.kind=4\/a.kind=5:=X9;have hq:=fin hr (λy hy=>by obtain⟨w,rfl,_⟩:=hy;rfl) λy hy=>.inr (.inr ⟨hk',hy⟩)
  unfold lh;rw[e2];rw[X2 (show ¬a.kind=1 by omega),X2 (show ¬a.kind=2 by omega),X2 (show ¬a.kind=6 by omega)]
  simp only[e1];exact hq
theorem vI{c:Nat->α->Bool}{xs:List α}{x:α}(h:allI c 0 xs=YJ)(hx:c xs.length x=YJ):allI c 0 (xs++[x])=true:=by
 rw[cB]at h⊢
 grind
def S7(z z':az):Prop:=z'.au=z.au/\z'.a8=z.a8/\z'.ay=z.ay/\z'.ab=z.ab
theorem ue{o y:aL}{i:Nat}(hz:y.aY=o.aY)(hr:y.aX=o.aX)(hs:cr (y.lines.map bO) (((i+1:Nat):Int)) 1=cr (o.lines.map bO) (((i+1:Nat):Int)) 1)
 (ho:∀z,o.world.ae[i]?=YH z->∃z',y.world.ae[i]?=YH z'/\S7 z z') (h:nz o i p=YJ):nz y i p=true:=by
 unfold nz at h⊢
 cases hi:o.world.ae[i]? with
 |none=>rw[hi]at h;cases h
 |some z=>
  obtain⟨z',e,e1,e2,e3,e4⟩:=ho z hi;rw[hi]at h
  rw[e];rw[sn]at h⊢
  grind
structure Zda(w w':ax):Prop where
 ok:ql w'
 now:w.now<=w'.now
 len:w'.ae.length=w.ae.length
 eO:w'.aa=w.aa
 ord:∀(i:Nat) (z:az),w.ae[i]?=YH z->∃z',w'.ae[i]?=YH z'/\S7 z z'
theorem EL{n:aj}{z z':az}(h:qX n z z'):S7 z z':=by
 rcases h with rfl|⟨more,_,rfl⟩<;>exact⟨rfl,rfl,rfl,rfl⟩
theorem KY{o x:aL}(hw:ql o.world)(hu:a.kind=3->a.bM<=100000)(h:Bd o a x):Zda o.world x.world:=by
 obtain⟨w,rfl,h⟩:=h
 rcases h with⟨hk,hn,rfl⟩ |⟨_,_,hS⟩ |⟨_,n,_,_,hR⟩
 ·obtain⟨a1,a2,_⟩:=J9 hw (Int.le_of_lt hn) (hu hk)
  refine⟨a1,Int.le_of_lt hn,a2.len,a2.aa,λi z hz=>?_⟩
  have hi:=(VT.1 hz).1;have uM:=VU (show i<(Fh o.world a.bM).ae.length by rw[a2.len];omega)
  have hs:=a2.ord i z _ hz uM;exact⟨_,uM,hs.au,hs.a8,hs.ay,hs.ab⟩
 ·exact⟨hS.ok,by rw[hS.same.now];simp,hS.same.len,hS.same.aa,λi z hz=>by
   obtain⟨z',b1,_,b2⟩:=hS.ord i z hz;exact⟨z',b1,EL b2⟩⟩
 ·exact⟨hR.ok,by rw[hR.same.now];omega,hR.same.len,hR.same.aa,λi z hz=>by
   obtain⟨z',b1,b2,_⟩:=hR.ord i z hz;exact⟨z',b1,EL b2⟩⟩
theorem zo{o y:aL}(hp:o.aK.length<=y.aK.length)(hn:o.world.now<=y.world.now)(h:allI (tJ o) 0 o.lines=YJ):allI (tJ y) 0 o.lines=true:=by
 rw[cB]at h⊢
 intro j x hx;have:=h j x hx;unfold tJ at this⊢
 grind
theorem Zdf(ha:PF a.aQ)(h:eE a=YH YJ)(i:Nat):Fg i a=true:=by
 obtain⟨b,b1,b2⟩:=Bh ha.fit.1 ha.fit.2.1 ha.fit.2.2;unfold Fg
 grind
theorem AZ{x:aU}(h:sI l x=(l',0)):l'=l++[x]/\dG ((l++[x]).map bO)=YJ/\l.length<200:=by
 unfold sI at h
 grind
theorem Sq{o a t:Int}(h:DG l o a t=(l',0)):sI l ⟨o,2,a,t⟩=(l',0)/\¬j3 (l.map bO) o<a/\dG (l.map bO)=true:=by
 unfold DG at h
 grind
theorem DR{o a t:Int}(h:qt l o a t=(l',0)):sI l ⟨o,1,a,t⟩=(l',0)/\cr (l.map bO) o 1=0/\(1<=a/\a<=100000)/\dG (l.map bO)=true:=by
 unfold qt at h
 split at h;· grind
 split at h;· grind
 split at h;· grind
 have h1:dG (l.map bO)=true:=by grind
 have h3:¬0<cr (l.map bO) o 1:=by grind
 have h2:pr o 1 a t=true:=by grind
 exact⟨h,by have:=(L0 h1 o 1).1;omega,vK (x:=⟨o,1,a,t⟩) h2,h1⟩
theorem Pq{o du en t:Int}{ps:List Int}(h:rk l o du en ps t=(l',0)):sI l ⟨o,3,uw (cr (l.map bO) o 1) du en ps,t⟩=(l',0)/\dG (l.map bO)=true:=by
 unfold rk at h
 grind
theorem Cr(l:List aU)(x:aU):(l++[x]).map bO=l.map bO++[bO x]:=by simp
theorem O1{o x:aL}(h:GV o a x):∃z:aU,x=⟨o.world,o.aY,o.aX,o.aM,o.aK,o.lines++[z],o.aF⟩/\z.order=a.order/\¬z.kind=1/\z.aP=o.world.now/\dG ((o.lines++[z]).map bO)=YJ/\o.lines.length<200/\1<=a.order/\a.order<=o.world.ae.length:=by
 obtain⟨l,y,rfl,h1,hy,h⟩:=h;have bU:a.order<=o.world.ae.length:=by have:=(VT.1 (mw hy).2).1;omega
 rcases h with⟨_,h⟩ |⟨_,_,h⟩
 ·obtain⟨rfl,b,c⟩:=AZ (Sq h).1
  grind
 ·obtain⟨rfl,b,c⟩:=AZ (Pq h).1
  grind
theorem Dh{o:aL}(ha:PF a.aQ)(hc:eE a=YH YJ){y:aL}(hy:OF y)(hv:iu y=YJ)(hj:y.aF=o.aF)(hf:o.aF.length<150):OF (JT y (o.aF++[a]))/\iu (JT y (o.aF++[a]))=true:=by
 obtain⟨p1,p2,p3,p4,p5,p6,p7,p8,p9,p10⟩:=nn hv;refine⟨⟨hy.world,hy.aY,hy.aX,hy.sO,hy.lines,hy.aK,?_,hy.pf,λb hb=>?_⟩,tQ p1 p2 p3 p4 p5 p6 ?_ p8 p9 ?_⟩
 ·show(o.aF++[a]).length<=_
  grind
 ·rcases Wl.1 hb with hb|hb
  ·exact hy.af b Yd
  grind
 ·show(o.aF++[a]).length<=_
  grind
 ·rw[hj]at p10
  exact vI p10 (Zdf ha hc _)
theorem Sb{o y:aL}(h:OF o)(hv:iu o=YJ)(hu:a.kind=3->a.bM<=100000)(hm:Bd o a y):OF y/\iu y=true:=by
 obtain⟨p1,p2,p3,p4,p5,p6,p7,p8,p9,p10⟩:=nn hv;have hk:=KY ⟨h.world,p1⟩ hu hm;obtain⟨w,rfl,_⟩:=hm;refine⟨⟨hk.ok.fit,h.aY,h.aX,h.sO,h.lines,h.aK,h.aF,h.pf,h.af⟩,tQ hk.ok.ok p2 p3 p4 p5 (p6.trans hk.len.symm) p7 ?_ (zo (o:=o) (y:=⟨w,o.aY,o.aX,o.aM,o.aK,o.lines,o.aF⟩) (VX _) hk.now p9) p10⟩;rw[cB]at p8⊢
 exact λj p hp=>ue (o:=o) rfl rfl rfl (hk.ord _) (p8 j p hp)
theorem VC{o y:aL}(h:OF o)(hv:iu o=YJ)(hm:GV o a y):OF y/\iu y=true:=by
 obtain⟨p1,p2,p3,p4,p5,p6,p7,p8,p9,p10⟩:=nn hv;obtain⟨z,rfl,z1,z2,z3,z4,z5,z6,z7⟩:=O1 hm;refine⟨⟨h.world,h.aY,h.aX,h.sO,?_,h.aK,h.aF,h.pf,h.af⟩,tQ p1 p2 p3 p4 z4 p6 p7 ?_ (vI (zo (o:=o) (y:=⟨o.world,o.aY,o.aX,o.aM,o.aK,o.lines++[z],o.aF⟩) (VX _) (Int.le_refl _) p9) ?_) p10⟩
 ·grind
 ·rw[cB]at p8⊢
  refine λj p hp=>ue (o:=o) rfl rfl ?_ (λz hz=>⟨z,hz,rfl,rfl,rfl,rfl⟩) (p8 j p hp)
  rw[Cr];exact jt λhh=>z2 hh.2
 ·unfold tJ
  grind
theorem ZaG{o y:aL}(h:OF o)(hv:iu o=YJ)(hp:PF p)(hm:L7 o p y):OF y/\iu y=true:=by
 obtain⟨p1,p2,p3,p4,p5,p6,p7,p8,p9,p10⟩:=nn hv;obtain⟨v,aG,ys,dW,q1,q2,q3,q4,_⟩:=hm.kQ;have hw:ql o.world:=⟨h.world,p1⟩;have hpr:=hw.parts;have Iq:y.world=xw o.world (nL o.world p.au p.label.a8 p.label.ay p.ab dW aG) ys:=congrArg (·.1) q3.res
 have Zf7:y.world.ae=o.world.ae++[nL o.world p.au p.label.a8 p.label.ay p.ab dW aG]:=by rw[Iq];rfl
 have Cg:y.world.now=o.world.now:=by rw[Iq];rfl
 have hok:ql y.world:=by rw[Iq];exact q3.ok
 obtain⟨c1,c2,c3,c4⟩:=DR q4;obtain⟨d1,d2,d3⟩:=AZ c1;have hl:y.aK.length=o.aK.length+1:=by rw[hm.aK,V3];rfl
 refine⟨⟨hok.fit,by rw[hm.aY];exact h.aY,by rw[hm.aX];exact h.aX,by rw[hm.sO];exact h.sO,?_,X9,by rw[hm.aF];omega,λq hq=>?_,by rw[hm.aF];exact h.af⟩,tQ hok.ok (by rw[hm.aY];omega) (by rw[hm.aY,hm.aX];omega) (by rw[hm.sO];omega) Yd ?_ (by rw[hm.aF];omega) ?_ ?_ (by rw[hm.aF];omega)⟩
 ·grind
 ·rw[hm.aK]at hq
  rcases Wl.1 hq with hq|hq
  ·exact h.pf q hq
  grind
 ·grind
 ·rw[hm.aK]
  refine vI ?_ ?_
  ·rw[cB]at p8⊢
   intro j q hq;have hj:=(VT.1 hq).1;refine ue hm.aY hm.aX ?_ (λz hz=>⟨z,?_,rfl,rfl,rfl,rfl⟩) (p8 j q hq)
   ·rw[d1,Cr]
    refine jt λhh=>?_
    have:=hh.1;simp only[bO]at this
    omega
   grind
  ·unfold nz
   rw[hm.aY,hm.aX,q1,Zf7,p6,List.getElem?_append_right (VX _),Nat.sub_self];show BK y _ p _ (YH _)=YJ;have hs:cr (o.lines.map bO++[bO (⟨(o.world.ae.length:Int)+1,1,v,o.world.now⟩:aU)]) (((o.world.ae.length+1:Nat):Int)) 1=v:=by
    rw[show(((o.world.ae.length+1:Nat):Int))=(o.world.ae.length:Int)+1 by omega,vF (o:=(o.world.ae.length:Int)+1) (k:=1) (x:=bO (⟨(o.world.ae.length:Int)+1,1,v,o.world.now⟩:aU)) rfl rfl,c2]
    show wrap64 (0+v)=v;rw[<-oJ,aR X9];omega
   rw[sn,d1,Cr,hs];simp[nL]
 ·rw[d1]
  refine vI (zo X9 X9 p9) ?_;unfold tJ
  grind
theorem Mp{o x:aL}(h:OF o)(ha:PF a.aQ)(hd:Nx o a x):OF x/\iu x=true:=by
 obtain⟨y,rfl,hy⟩:=hd.how;have hu:a.kind=3->a.bM<=100000:=λhk=>by
  have:=Bi ha.fit.1 ha.fit.2.1 ha.fit.2.2 hd.act;omega
 rcases hy with⟨_,hy⟩ |⟨_,hy⟩ |⟨_,hy⟩
 ·obtain⟨b1,b2⟩:=ZaG h hd.ok ha hy
  exact Dh ha hd.act b1 b2 hy.aF hd.few
 ·obtain⟨b1,b2⟩:=VC h hd.ok hy
  exact Dh ha hd.act b1 b2 (by obtain⟨l,z,rfl,_⟩:=hy;rfl) hd.few
 ·obtain⟨b1,b2⟩:=Sb h hd.ok hu hy
  exact Dh ha hd.act b1 b2 (by obtain⟨w,rfl,_⟩:=hy;rfl) hd.few
def wQ(K:Nat)(w:ax):Prop:=∃u s:Nat,w.ae.length+u+s<=K/\∀o∈w.ae,o.aG.length<=6*(1+min u s)/\bb o<=((6*min u (s+1):Nat):Int)
structure Dj(n:aj)(K:Nat)(w:ax):Prop where
 ok:ql w
 eO:w.aa=n
 cnt:wQ K w
theorem Gi{n:aj}(h:qN n):(ak n).length<=7:=by
 have:=se (xs:=ak n) (ys:=rO) (Gj n) λp hp=>by
  have Ol:p∈(ir n).foldl sA []:=hp
  rcases r8.1 Ol with hp|hp
  ·unfold ir at hp
   obtain⟨l,hl,wq⟩:=List.mem_flatMap.1 hp;have:=h.bD l hl
   rcases List.mem_cons.1 wq with rfl|wq
   ·exact this.au
   ·rw[Wf.1 wq];exact this.a8
  ·cases hp
 exact this
theorem wQ.mono(h:wQ K w):wQ (K+1) w:=by
 obtain⟨u,s,h1,h2⟩:=h;exact⟨u,s,X9,h2⟩
theorem Dj.mono{n:aj}{K:Nat}{w:ax}(h:Dj n K w):Dj n (K+1) w:=⟨h.ok,h.eO,h.cnt.mono⟩
theorem DU{n:aj}(h7:(ak n).length<=7){w x:ax}(hw:ql w)(hn:w.aa=n)(h:wQ K w)(hl:x.ae.length=w.ae.length)(hr:∀(i:Nat) (o:az),w.ae[i]?=YH o->∃o',x.ae[i]?=YH o'/\qX w.aa o o'):wQ (K+1) x:=by
 obtain⟨hP,_⟩:=s7 hw;obtain⟨u,s,h1,h2⟩:=h;refine⟨u,s+1,X9,λo' yO=>?_⟩
 obtain⟨i,hi,rfl⟩:=Wc yO;have hiw:i<w.ae.length:=X9;have ho:=VU hiw;obtain⟨o2,e,hR⟩:=hr i _ ho;rw[VU hi]at e
 have e:=VW e;obtain⟨b1,b2⟩:=h2 _ (Wm hiw);have hc:=nr hP ho;rw[e]
 rcases hR with rfl|⟨more,hm,rfl⟩
 ·exact⟨X9,X9⟩
 ·rw[hn]at hm
  refine⟨?_,?_⟩
  ·show(cf w.ae[i]++more).length<=_
   rw[V3,hc.2.2.1];omega
  ·show bb w.ae[i]<=_
   omega
theorem Ue(hw:ql w)(h:wQ K w){t:Int}(hu:w.now<=t)(hm:t<=100000):wQ (K+1) (Fh w t):=by
 obtain⟨a,b,_⟩:=J9 hw hu hm;obtain⟨hP,_⟩:=s7 a;obtain⟨u,s,h1,h2⟩:=h;refine⟨u+1,s,by have:=b.len;omega,λo' yO=>?_⟩
 obtain⟨i,hi,rfl⟩:=Wc yO;have mZ:=VU hi;have hiw:i<w.ae.length:=by rw[<-b.len];exact hi
 have hs:=b.ord i _ _ (VU hiw) mZ;obtain⟨b1,b2⟩:=h2 _ (Wm hiw);have hc:=nr hP mZ;rw[hs.aG]at *
 exact⟨X9,X9⟩
/-! Zde a change of a world can not be. -/
theorem Of{n:aj}{o x:az}(h1:x.aG=o.aG)(h2:x.aN=o.aN)(h3:x.au=o.au):pn n x=pn n o:=by unfold pn;rw[h1,h2,h3]
theorem OQ{n:aj}{o x:az}(ho:mX n o now)(hx:mX n x now)(h1:x.aG=o.aG)(h2:x.aN=o.aN)(h3:x.au=o.au)(h4:x.a8=o.a8):x.state=o.state:=by
 have hh:=Of (n:=n) h1 h2 h3
 rcases ho.cases with⟨a1,_,a3,_,a5⟩ |⟨a1,_,_,t,b1,b2,b3⟩ |⟨a1,_,a3,a4,_,_⟩<;>rcases hx.cases with⟨c1,_,c3,_,c5⟩ |⟨c1,_,_,t',d1,d2,d3⟩ |⟨c1,_,c3,c4,_,_⟩
 ·rw[a1,c1]
 ·rw[h1,h2]at d1;have:=a5 t' d1;omega
 ·rw[hh,h4]at c3;exact absurd c3 a3
 ·have:=c5 t (by rw[h1,h2];exact b1);omega
 ·rw[a1,c1]
 ·have:=(VT.1 b1).1;rw[h1,h2]at c4;omega
 ·rw[hh,h4]at c3;exact absurd a3 c3
 ·rw[h1,h2]at d1;have:=(VT.1 d1).1;omega
 ·rw[a1,c1]
theorem Sd{n:aj}{o x:az}(hw:tn n o)(ho:mX n o now)(hx:mX n x now)(h1:x.aG=o.aG)(h2:x.aN=aI (o.aN+1))(h3:x.aN<=x.aG.length):False:=by
 have hg:=hw.aN;have hl:=E6 hw;rw[h2,h1,aR X9]at h3
 have bU:o.aN.toNat<o.aG.length:=X9;have hgo:=VU bU;have hp:=hx.past _ (by rw[h2,aR X9];omega) (by rw[h2,aR X9,h1,show(o.aN+1-1).toNat=o.aN.toNat by omega];exact hgo)
 have ht:=hw.bj _ (Wm bU)
 rcases ho.cases with⟨_,_,_,_,a5⟩ |⟨_,_,_,t,b1,_,b3⟩ |⟨_,_,_,a4,_,_⟩
 ·have:=a5 _ hgo;omega
 ·rw[hgo]at b1;rw[VW b1]at hp;omega
 ·omega
theorem OP{n:aj}{o x:az}(hw:tn n o)(ho:mX n o now)(hx:mX n x now)(h1:x.aG=o.aG)(h2:x.aN=o.aN)(h3:x.state=o.state)(h4:x.bB=aI (o.bB+1)):False:=by
 have hg:=hw.aN
 rcases ho.cases with⟨a1,_,_,a4,_⟩ |⟨a1,_,a4,_⟩ |⟨a1,_,_,a4,a5,a6⟩
 ·rcases hx.cases with⟨_,_,_,c4,_⟩ |⟨c1,_⟩ |⟨c1,_⟩
  ·rw[h4,a4,aR X9]at c4;omega
  ·omega
  ·omega
 ·rcases hx.cases with⟨c1,_⟩ |⟨_,_,c4,_⟩ |⟨c1,_⟩
  ·omega
  ·rw[h4,a4,aR X9]at c4;omega
  ·omega
 ·rcases hx.cases with⟨c1,_⟩ |⟨c1,_⟩ |⟨_,_,_,_,c5,c6⟩
  ·omega
  ·omega
  ·have bU:(o.aN-1).toNat<o.aG.length:=X9
   have hgo:=VU bU;have e1:=a6 _ hgo;have e2:=c6 _ (by rw[h1,h2];exact hgo)
   have ht:=hw.bj _ (Wm bU);rw[h4,aR X9]at e2
   omega
theorem Zaw{K k:Nat}{o x:az}(hc:wQ K w)(ho:w.ae[k]?=YH o)(h1:x.aG=o.aG)(h3:x.state=o.state/\x.aN=o.aN/\x.bB=o.bB):wQ K (⟨w.aa,w.ae.set k x,w.ar,w.ah,w.now,w.aH,w.skip,w.bd⟩:ax):=by
 obtain⟨u,s,c1,c2⟩:=hc;refine⟨u,s,by simp only[WI];exact c1,λy hy=>?_⟩
 rcases XZ hy with hy|rfl
 ·exact c2 y hy
 ·have:=c2 o (VV ho)
  have e:bb y=bb o:=by unfold bb;rw[h3.1,h3.2.1]
  rw[h1,e];exact this
section
variable {n:aj} (hn:qN n)
include hn
theorem zJ(hw:Dj n K w)(au a8:ByteArray)(ay ab:Int):aJ (cQ w au a8 ay ab) λr=>Dj n (K+1) r.1:=by
 obtain⟨r,_,e,hr⟩:=zK hw.ok au a8 ay ab;refine aJ.of e ?_
 rcases hr with⟨rfl,_⟩ |⟨aG,ys,dW,hT⟩
 ·exact hw.mono
 ·rw[hT.res]
  have qj:=hw.eO;have h7:=Gi hn;have hR:=qe hw.ok.fit.eO hw.ok.fit.ar hw.ok.fit.ah hT.iU;have ZfX:=Nv hw.ok.fit.eO hR;rw[qj]at ZfX
  refine⟨hT.ok,hw.eO,?_⟩;obtain⟨u,s,h1,h2⟩:=hw.cnt;refine⟨u,s,?_,λo ho=>?_⟩
  ·show(w.ae++[nL w au a8 ay ab dW aG]).length+u+s<=K+1
   rw[V3];simp only[VZ,VY];omega
  ·have yO:o∈w.ae++[nL w au a8 ay ab dW aG]:=ho
   rcases Wl.1 yO with yO|yO
   ·exact h2 o yO
   ·obtain rfl:=Wf.1 yO
    refine⟨?_,?_⟩
    ·show aG.length<=_;omega
    ·show(if(1:Int)=2 then(0:Int)+1 else 0)<=_
     rw[if_neg X9];omega
theorem EN(hw:Dj n K w)(t:av):aJ (cJ w t) λr=>Dj n (K+1) r.1:=by
 obtain⟨r,_,e,hr⟩:=EO hw.ok t;refine aJ.of e ?_
 rcases hr with rfl|⟨x,rfl,hS⟩
 ·exact hw.mono
 ·have hr:∀(i:Nat) (o:az),w.ae[i]?=YH o->∃o',x.ae[i]?=YH o'/\qX w.aa o o':=λi o ho=>by
   obtain⟨o',a,_,c⟩:=hS.ord i o ho;exact⟨o',a,c⟩
  exact⟨hS.ok,hS.same.aa.trans hw.eO,DU (Gi hn) hw.ok hw.eO hw.cnt hS.same.len hr⟩
theorem CP(hw:Dj n K w):aJ (cD w) λr=>Dj n (K+1) r.1:=by
 obtain⟨x,m,_,e,hR⟩:=CQ hw.ok;refine aJ.of e ?_;have hr:∀(i:Nat) (o:az),w.ae[i]?=YH o->∃o',x.ae[i]?=YH o'/\qX w.aa o o':=λi o ho=>by
  obtain⟨o',a,c,_⟩:=hR.ord i o ho;exact⟨o',a,c⟩
 exact⟨hR.ok,hR.same.aa.trans hw.eO,DU (Gi hn) hw.ok hw.eO hw.cnt hR.same.len hr⟩
theorem GX(hw:Dj n K w)(u:Int):aJ (dv w u) (Dj n (K+1)):=by
 refine aJ.of (yS hw.ok.fit u) ?_
 split
 ·rename_i h
  obtain⟨a,b,_⟩:=J9 hw.ok h.2.1 h.2.2;exact⟨a,b.aa.trans hw.eO,Ue hw.ok hw.cnt h.2.1 h.2.2⟩
 ·exact hw.mono
theorem Qh{c:aO}(h:bQ c)(hw:Dj n K w):aJ (mD c w) λr=>Dj n (K+1) r.1/\bQ r.2:=by
 have qj:=hw.eO;unfold mD;refine aJ.dq (aJ.bind (bg h 6) λy1 h1=>?_)
 rw[qj];have hc:=h1.2;refine aJ.cond (λ_=>aJ.cond (λ_=>?_) λ_=>aJ.cond (λ_=>?_) λ_=>aJ.cond (λ_=>?_) λ_=>?_) λ_=>aJ.cond (λ_=>aJ.cond (λ_=>?_) λ_=>aJ.cond (λ_=>?_) λ_=>aJ.cond (λ_=>?_) λ_=>?_) λ_=>aJ.cond (λ_=>?_) λ_=>aJ.cond (λ_=>?_) λ_=>aJ.cond (λ_=>?_) λ_=>?_
 any_goals exact aJ.D3 (aJ.dq (aJ.bind (Sk hn hc) λy2 h2=>aJ.dq (aJ.bind (Sk hn h2) λy3 h3=>aJ.dq (aJ.bind (bg h3 3) λy4 h4=>aJ.dq (aJ.bind (bg h4.2 4000) λy5 h5=>aJ.bind (zJ hn hw _ _ _ _) λy6 h6=>aJ.ret ⟨h6,h5.2⟩)))))
 any_goals exact aJ.D3 (aJ.dq (aJ.bind (E9 hn hc qj) λy7 h7=>aJ.bind (EN hn hw _) λy8 h8=>aJ.ret ⟨h8,h7⟩))
 any_goals exact aJ.bind (CP hn hw) λy9 h9=>aJ.ret ⟨h9,hc⟩
 all_goals exact aJ.D3 (aJ.dq (aJ.bind (bg hc 40) λdL wm=>aJ.bind (GX hn hw _) λji Eb=>aJ.ret ⟨Eb,wm.2⟩))
theorem Zez{skip:List Int}(hs:skip.length<=50)(K:Nat):Dj n K (⟨n,[],[],[],0,[],skip,0⟩:ax):=by
 have hf:qp (⟨n,[],[],[],0,[],skip,0⟩:ax):=⟨hn.fit,by simp,by simp,by simp,by simp,by simp only;omega,λo ho=>by cases ho⟩
 have hv:ew (⟨n,[],[],[],0,[],skip,0⟩:ax)=true:=by
  unfold ew cn uC;simp only[hn.ok,Xe];simp[allI];omega
 exact⟨⟨hf,hv⟩,rfl,0,0,by simp,λo ho=>by cases ho⟩
end
theorem NY{c:aO}(h:bQ c)(iC:Int)(hm:iC<=9):aJ (lJ c iC) λr=>∃n,qN n/\Dj n 8 r.1/\bQ r.2:=by
 unfold lJ;refine aJ.dq (aJ.bind (MP h) λy1 h1=>?_)
 obtain⟨h1,Ax⟩:=h1;refine aJ.bind (P:=λo=>bQ ⟨o.1,o.2.1,o.2.2.1⟩/\qN ⟨o.2.2.2,y1.1.off,y1.1.change⟩) ?_ λo0 Ch=>?_
 ·have hlen:=h1.len
  refine aJ.loop (fun(k:Nat) (s:Int×(List YR)×Int×Int×(List bK))=>∃i:Nat,s.1=(i:Int)/\i+k=s.2.2.2.2.length/\bQ ⟨s.2.1,s.2.2.1,s.2.2.2.1⟩/\qN ⟨s.2.2.2.2,y1.1.off,y1.1.change⟩) (λk s hs=>?_) NN y1.1.aA.length _ ⟨0,rfl,by simp,Ax,h1⟩ Yc
  obtain⟨i,hi,hk,hc,hd⟩:=hs;have MA:=hd.len;simp only at MA
  unfold oz;rw[hi];refine aJ.cond (λbU=>?_) λ_=>aJ.ret ⟨hc,hd⟩
  have bU:=X3 bU;have wI:aI ((i:Int)+1)=((i+1:Nat):Int):=by rw[aR X9];omega
  rw[wI];refine aJ.dq (aJ.bind (iD hc 2) λy2 h2=>aJ.cond (λ_=>aJ.D3 (aJ.dq (aJ.bind (bg h2 9) λy3 h3=>?_))) λ_=>aJ.ret ⟨k-1,X9,i+1,rfl,by simp only;omega,h2,hd⟩)
  refine aJ.get X9 bU λx hx _=>aJ.ret ⟨k-1,X9,i+1,rfl,by simp only[WI];omega,h3.2,?_⟩
  have b3:=h3.1.2.1 X9;have b0:=h3.1.1;have hr:aI (2000+aI (1000*y3.1))=2000+1000*y3.1:=by rw[aR (n:=1000*y3.1) X9,aR X9]
  refine⟨by simp only[WI];exact MA,λl hl=>?_,hd.off,hd.change⟩
  rcases XZ hl with hl|rfl
  ·exact hd.bD l hl
  ·obtain⟨a1,a2,a3,a4,a5,a6,a7⟩:=hd.bD x hx
   exact⟨a1,a2,a3,a4,a5,a6,by simp only[hr];omega⟩
 ·refine aJ.dq (aJ.bind (bg Ch.1 6) λy5 h5=>?_)
  have b5:=h5.1.2.1 X9;have b5':=h5.1.1;refine aJ.bind (P:=λo=>bQ ⟨o.1,o.2.1,o.2.2.1⟩/\o.2.2.2.length<=50) ?_ λo1 Dz=>?_
  ·refine aJ.loop (fun(k:Nat) (s:Int×(List YR)×Int×Int×(List Int))=>s.1=(k:Int)/\s.2.2.2.2.length+k<=6/\bQ ⟨s.2.1,s.2.2.1,s.2.2.2.1⟩) (λk s hs=>?_) NN y5.1.toNat _ ⟨by simp only;omega,by simp only[VY];omega,h5.2⟩ Yc
   obtain⟨hk,hl,hc⟩:=hs;unfold oA;refine aJ.cond (λhd=>?_) λ_=>aJ.ret ⟨hc,by simp only;omega⟩
   have hd:=X3 hd;have wI:aI (s.1-1)=((k-1:Nat):Int):=by rw[aR X9];omega
   exact aJ.dq (aJ.bind (bg hc 25) λy6 h6=>aJ.bW (jj Ym X9) (aJ.ret ⟨k-1,X9,wI,by simp only[V3,VZ,VY];omega,h6.2⟩))
  ·refine aJ.D9 ?_
   rw[Ex Ch.2 Dz.2,VS];refine aJ.dq (aJ.bind (bg Dz.1 iC) λy8 h8=>?_)
   have b8:=h8.1;have b8':y8.1<=8:=by
    rcases Int.lt_or_le 0 iC with hp|hp
    ·have:=b8.2.1 hp;omega
    ·have:=b8.2.2 hp;omega
   refine aJ.bind (P:=λo=>bQ ⟨o.1,o.2.1,o.2.2.1⟩/\Dj ⟨o0.2.2.2,y1.1.off,y1.1.change⟩ 8 (⟨(⟨o.2.2.2.2.2.2.1,o.2.2.2.2.2.2.2.1,o.2.2.2.1⟩:aj),o.2.2.2.2.2.2.2.2.1,o.2.2.2.2.2.2.2.2.2.1,o.2.2.2.2.2.2.2.2.2.2.1,o.2.2.2.2.1,o.2.2.2.2.2.2.2.2.2.2.2.1,o.2.2.2.2.2.2.2.2.2.2.2.2,o.2.2.2.2.2.1⟩:ax)) ?_ λo2 zX=>aJ.ret ⟨_,Ch.2,zX.2,zX.1⟩
   refine aJ.loop (fun(k:Nat) (s2:Int×(List YR)×Int×Int×Int×Int×Int×(List bK)×(List Int)×(List az)×(List aq)×(List av)×(List bq)×(List Int))=>s2.1=(k:Int)/\k<=8/\bQ ⟨s2.2.1,s2.2.2.1,s2.2.2.2.1⟩/\Dj ⟨o0.2.2.2,y1.1.off,y1.1.change⟩ (8-k) (⟨(⟨s2.2.2.2.2.2.2.2.1,s2.2.2.2.2.2.2.2.2.1,s2.2.2.2.2.1⟩:aj),s2.2.2.2.2.2.2.2.2.2.1,s2.2.2.2.2.2.2.2.2.2.2.1,s2.2.2.2.2.2.2.2.2.2.2.2.1,s2.2.2.2.2.2.1,s2.2.2.2.2.2.2.2.2.2.2.2.2.1,s2.2.2.2.2.2.2.2.2.2.2.2.2.2,s2.2.2.2.2.2.2.1⟩:ax)) (λk s hs=>?_) NN y8.1.toNat _ ⟨by simp only;omega,?_,h8.2,?_⟩ Yc
   ·obtain⟨hk,hkl,hc,hw⟩:=hs
    unfold oB;refine aJ.cond (λhd=>?_) λhd=>aJ.ret ⟨hc,?_⟩
    ·have hd:=X3 hd
     have wI:aI (s.1-1)=((k-1:Nat):Int):=by rw[aR X9];omega
     refine aJ.D9 (aJ.dq (aJ.bind (Qh Ch.2 hc hw) λy9 h9=>aJ.ret ⟨k-1,X9,wI,X9,h9.2,?_⟩))
     have:=h9.1;rw[show 8-k+1=8-(k-1)by omega]at this
     exact this
    ·have hd:=X4 hd
     have xU:k=0:=X9;rw[xU]at hw
     exact hw
   ·omega
   ·exact Zez Ch.2 Dz.2 _
theorem Qn{c:aO}(h:bQ c):aJ (mE c) λr=>(qN r.1.aa/\qp r.1/\(ew r.1=YJ->True/\wQ 8 r.1))/\bQ r.2:=by
 unfold mE;refine aJ.dq (aJ.bind (NY h 9 X9) λy1 h1=>?_)
 obtain⟨n,hn,hw,hc⟩:=h1;have hf:=hw.ok.fit;have tD:=hw.ok.parts.2.2.1;have hnd:qN y1.1.aa:=by rw[hw.eO];exact hn
 have TD:True/\wQ 8 y1.1:=⟨trivial,hw.cnt⟩;refine aJ.dq (aJ.bind (iD hc 2) λy2 h2=>aJ.cond (λ_=>aJ.ret ⟨⟨hnd,hf,λ_=>⟨trivial,TD.2⟩⟩,h2⟩) λ_=>aJ.cond (λ_=>aJ.ret ⟨⟨hnd,hf,λ_=>⟨trivial,TD.2⟩⟩,h2⟩) λhz=>?_)
 have hz:=X4 hz;refine aJ.dq (aJ.bind (bg h2 _) λy3 h3=>aJ.dq (aJ.bind (bg h3.2 13) λy4 h4=>?_))
 have b3:=h3.1.2.1 X9;obtain⟨o,ho,hm⟩:=ki (xs:=y1.1.ae) (i:=y3.1) ⟨h3.1.1,b3⟩;have Oc:=h4.2;rw[ho];simp only[VS];have Rz:=(mw ho).2;have set:∀(x:az),x.aG=o.aG->qp (⟨y1.1.aa,(y1.1.ae.set (Wd y3.1) x),y1.1.ar,y1.1.ah,y1.1.now,y1.1.aH,y1.1.skip,y1.1.bd⟩:ax):=λx hx=>⟨hf.eO,by simp only[WI];exact hf.ae,hf.ar,hf.ah,hf.aH,hf.skip,hf.set hm hx⟩
 have Zhu:aB y1.1.ae y3.1=YH o:=ho;have hSt:=hw.ok.state Rz;have hWy:=hw.ok.aG Rz;have PA:∀(x:az),x.aG=o.aG->(x.au=o.au/\x.a8=o.a8/\x.aP=o.aP)->(mX y1.1.aa x y1.1.now->0<=x.aN->x.aN<=x.aG.length->x.state=o.state/\x.aN=o.aN/\x.bB=o.bB)->(ew (⟨y1.1.aa,(y1.1.ae.set (Wd y3.1) x),y1.1.ar,y1.1.ah,y1.1.now,y1.1.aH,y1.1.skip,y1.1.bd⟩:ax)=YJ->True/\wQ 8 (⟨y1.1.aa,(y1.1.ae.set (Wd y3.1) x),y1.1.ar,y1.1.ah,y1.1.now,y1.1.aH,y1.1.skip,y1.1.bd⟩:ax)):=λx hx hx2 hk hv=>by
  have hok:ql (⟨y1.1.aa,(y1.1.ae.set (Wd y3.1) x),y1.1.ar,y1.1.ah,y1.1.now,y1.1.aH,y1.1.skip,y1.1.bd⟩:ax):=⟨set x hx,hv⟩;have hzi:(y1.1.ae.set (Wd y3.1) x)[(Wd y3.1)]?=YH x:=by
   rw[List.getElem?_set_self (VT.1 Rz).1]
  obtain⟨k1,k2,k3⟩:=hk (hok.state hzi) (hok.aG hzi).aN.1 (hok.aG hzi).aN.2;exact⟨trivial,Zaw TD.2 Rz hx ⟨k1,k2,k3⟩⟩
 have U9:∀(a b:Int),qp (⟨y1.1.aa,y1.1.ae,y1.1.ar,y1.1.ah,a,y1.1.aH,y1.1.skip,b⟩:ax):=λa b=>⟨hf.eO,hf.ae,hf.ar,hf.ah,hf.aH,hf.skip,hf.aG⟩
 refine aJ.cond (λ_=>aJ.D3 (aJ.dq (aJ.bind (bg Oc 5) λy5 h5=>aJ.ret ⟨⟨hnd,set _ rfl,PA _ rfl ⟨rfl,rfl,rfl⟩ (λh1 _ _=>⟨OQ hSt h1 rfl rfl rfl rfl,rfl,rfl⟩)⟩,h5.2⟩))) λ_=>?_
 refine aJ.cond (λ_=>aJ.ret ⟨⟨hnd,set _ rfl,PA _ rfl ⟨rfl,rfl,rfl⟩ (λh1 h2 h3=>(Sd hWy hSt h1 rfl rfl h3).elim)⟩,Oc⟩) λ_=>?_
 refine aJ.cond (λ_=>aJ.D3 (aJ.dq (aJ.bind (A8 Oc Ye) λdL wm=>aJ.ret ⟨⟨hnd,set _ rfl,PA _ rfl ⟨rfl,rfl,rfl⟩ (λ_ _ _=>⟨rfl,rfl,rfl⟩)⟩,wm.2⟩))) λ_=>?_
 refine aJ.cond (λ_=>aJ.ret ⟨⟨hnd,set _ rfl,PA _ rfl ⟨rfl,rfl,rfl⟩ (λ_ _ _=>⟨rfl,rfl,rfl⟩)⟩,Oc⟩) λ_=>?_
 refine aJ.cond (λ_=>aJ.D3 (aJ.dq (aJ.bind (jL Oc Ye) λkX h14=>aJ.ret ⟨⟨hnd,U9 _ _,λ_=>⟨trivial,TD.2⟩⟩,h14.2⟩))) λ_=>?_
 refine aJ.cond (λ_=>aJ.D3 (aJ.dq (aJ.bind (bg Oc _) λpg h15=>?_))) λ_=>?_
 ·have hb:=hf.ar
  have wY:aI ((y1.1.ar.length:Int)+1)=(y1.1.ar.length:Int)+1:=aR X9;have b15:=h15.1.2.1 (by rw[wY];omega)
  rw[wY]at b15
  have b0:=h15.1.1;refine aJ.bW (by unfold gg;exact X1 X9) (aJ.ret ⟨⟨hnd,⟨hf.eO,hf.ae,?_,hf.ah,hf.aH,hf.skip,hf.aG⟩,λ_=>⟨trivial,TD.2⟩⟩,h15.2⟩)
  simp only[cH,List.length_take,List.length_drop];omega
 refine aJ.cond (λ_=>aJ.D3 (aJ.dq (aJ.bind (L4 hn Oc hw.eO) λmu h16=>?_))) λ_=>?_
 ·have e:=h16.2
  rw[e];refine aJ.bW (jj Ym X9) (aJ.ret ⟨⟨hnd,⟨hf.eO,hf.ae,hf.ar,?_,hf.aH,hf.skip,hf.aG⟩,λ_=>⟨trivial,TD.2⟩⟩,h16.1⟩)
  simp only[V3,VZ,VY];omega
 refine aJ.cond (λ_=>aJ.ret ⟨⟨hnd,set _ rfl,PA _ rfl ⟨rfl,rfl,rfl⟩ (λh1 _ _=>(OP hWy hSt h1 rfl rfl rfl rfl).elim)⟩,Oc⟩) λ_=>?_
 refine aJ.cond (λ_=>aJ.dq (aJ.bind (jL Oc Ye) λvH h19=>aJ.ret ⟨⟨hnd,U9 _ _,λ_=>⟨trivial,TD.2⟩⟩,h19.2⟩)) λ_=>?_
 exact aJ.cond (λ_=>aJ.D3 (aJ.dq (aJ.bind (jL Oc Ye) λAJ h20=>aJ.ret ⟨⟨hnd,set _ rfl,PA _ rfl ⟨rfl,rfl,rfl⟩ (λ_ _ _=>⟨rfl,rfl,rfl⟩)⟩,h20.2⟩))) λ_=>aJ.ret ⟨⟨hnd,hf,λ_=>⟨trivial,TD.2⟩⟩,Oc⟩
end Go.Proofs.YtdilaemengjipaaGreatDoor
