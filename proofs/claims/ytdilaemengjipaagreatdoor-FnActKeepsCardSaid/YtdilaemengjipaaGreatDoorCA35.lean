/- A part of the proof of the statement in the last file of this claim: texts on the language of the program and on its functions. No condition. -/
import Derived.Test.YtdilaemengjipaaGreatDoorCA33
import Derived.Test.YtdilaemengjipaaGreatDoorCA22
import Derived.Test.YtdilaemengjipaaGreatDoorCA30
import Derived.Test.YtdilaemengjipaaGreatDoorCA17
import Derived.Test.YtdilaemengjipaaGreatDoorCA24
import Derived.Test.YtdilaemengjipaaGreatDoorCA4
import Derived.Test.YtdilaemengjipaaGreatDoorCA8
import Derived.Test.YtdilaemengjipaaGreatDoorCA7
import Derived.Test.YtdilaemengjipaaGreatDoorCA13
import Derived.Test.YtdilaemengjipaaGreatDoorCA11
import Derived.Test.YtdilaemengjipaaGreatDoorCA16
import Derived.Test.YtdilaemengjipaaGreatDoorCA1
set_option linter.unusedVariables false
set_option linter.unusedSimpArgs false
set_option linter.unusedSectionVars false
open Option renaming some->YH,none->YI
open Bool renaming true->YJ,false->YK
open Decidable renaming decide->YL
open Go.Proofs.Tryz
set_option maxHeartbeats 40000000
namespace Go.Proofs.YtdilaemengjipaaGreatDoor
open List renaming length_append->V3,mem_append->Wl,mem_map->WE,getElem_of_mem->Wc,getElem?_eq_getElem->VU,getElem?_eq_some_iff->VT,mem_of_getElem?->VV,getElem_mem->Wm,any_eq_false->XM
open Option.some renaming inj->VW
open Option renaming bind_some->VS
set_option maxRecDepth 10000
open Go.RowKit
variable {a8 au:ByteArray}{ah:List av}{l:List aq}{t:av}
/-! The ar are ZgV of the ways. -/
def yT:Nat->List az->List aq
 |_,[]=>[]
 |i,o::os=>gD ((i+1:Nat):Int) o.ab o.aG++yT (i+1) os
theorem GZ:∀(os:List az) (i:Nat),(yT i os).length=(os.map λo=>o.aG.length).sum
 | [],_=>rfl
 |o::os,i=>by
  unfold yT gD;rw[V3,List.length_map,GZ os,List.map_cons,List.sum_cons]
theorem xz{b:aq}:∀{os:List az} {i:Nat},b∈yT i os↔∃(j:Nat) (o:az) (t:av),os[j]?=YH o/\t∈o.aG/\b=⟨((i+j+1:Nat):Int),t,o.ab⟩
 | [],i=>by simp[yT]
 |o::os,i=>by
  unfold yT gD;rw[Wl,xz (os:=os) (i:=i+1),WE];constructor
  ·rintro(⟨t,h1,h2⟩ |⟨j,o',t,h1,h2,h3⟩)
   ·exact⟨0,o,t,rfl,h1,h2.symm⟩
   ·exact⟨j+1,o',t,by simp_all,h2,by grind⟩
  grind
theorem Bn:∀{os:List az} {i:Nat},(∀o∈os,o.aG.Nodup)->(yT i os).Nodup
 | [],i,_=>List.nodup_nil
 |o::os,i,h=>by
  unfold yT;refine List.nodup_append.2 ⟨?_,Bn λx hx=>h x Yd,λa ha b hb e=>?_⟩
  ·unfold gD List.Nodup
   grind
  ·obtain⟨j,o',t,_,_,h3⟩:=xz.1 hb
   unfold gD at ha
   grind
theorem Kf{w:ax}{c:Nat->List av}(h:uU w c){b:aq}(hb:b∈w.ar):∃(j:Nat) (o:az) (t:av),w.ae[j]?=YH o/\t∈o.aG/\b=⟨((j+1:Nat):Int),t,o.ab⟩:=by
 have hn:=(dH h.mg).1;have hnd:(yT 0 w.ae).Nodup:=Bn λo ho=>by
  obtain⟨i,hi,rfl⟩:=Wc ho;exact u4 h.fit.eO hn (kL h (VU hi)).chain
 have uq:∀x∈yT 0 w.ae,x∈w.ar:=λx hx=>by
  obtain⟨j,o,t,h1,h2,rfl⟩:=xz.1 hx;rw[Nat.zero_add];exact vg h h1 h2
 have hlen:(yT 0 w.ae).length=w.ar.length:=by rw[GZ,h.sum]
 have u9:b∈yT 0 w.ae:=Classical.byContradiction λhx=>by
  have:=se (xs:=b::yT 0 w.ae) (ys:=w.ar) (List.nodup_cons.2 ⟨hx,hnd⟩) λx hm=>by
   grind
  grind
 obtain⟨j,o,t,h1,h2,h3⟩:=xz.1 u9
 grind
theorem LI{w:ax}{c:Nat->List av}(h:uU w c){i:Nat}{o:az}(ho:w.ae[i]?=YH o)(hr:¬lZ o=[]):¬o.state=3/\¬fZ w.aa o=o.a8:=by
 have hP:=kL h ho;obtain⟨k0,k1,k2,k3⟩:=nr h ho;have bU:bb o<o.aG.length:=by
  rcases Int.lt_or_le (bb o) o.aG.length with hx|hx
  ·omega
  ·exact absurd (List.drop_eq_nil_of_le X9) hr
 have hs:¬o.state=3:=λhs=>by
  rcases hP.ok.cases with⟨c1,_⟩ |⟨c1,_⟩ |⟨c1,c2,_⟩
  all_goals omega
 refine⟨hs,λhe=>?_⟩
 rw[<-D5 h ho hs]at he
 by_cases h0:0<bb o
 ·have hkt:(bb o).toNat-1<o.aG.length:=X9
  have wF:(cf o).getLast?=YH o.aG[(bb o).toNat-1]:=by
   unfold cf
   grind
  rw[tz wF]at he
  have:=cB.1 hP.ok.aG _ _ (VU hkt);unfold tY at this
  grind
 ·have:cf o=[]:=by unfold cf;simp_all
  rw[this]at he
  exact hP.ok.ZbM he
structure qo(w w':ax):Prop where
 aa:w'.aa=w.aa
 now:w'.now=w.now
 ah:w'.ah=w.ah
 aH:w'.aH=w.aH
 skip:w'.skip=w.skip
 bd:w'.bd=w.bd
 len:w'.ae.length=w.ae.length
theorem qo.refl(w:ax):qo w w:=⟨rfl,rfl,rfl,rfl,rfl,rfl,rfl⟩
theorem qo.trans{a b c:ax}(h:qo a b)(k:qo b c):qo a c:=⟨k.1.trans h.1,k.2.trans h.2,k.3.trans h.3,k.4.trans h.4,k.5.trans h.5,k.6.trans h.6,k.7.trans h.7⟩
theorem qo.new(w:ax)(i:Nat)(o:az)(ts:List av)(bs:List aq):qo w (xa w i o ts bs):=⟨rfl,rfl,rfl,rfl,rfl,rfl,by simp only[xa,List.length_set]⟩
theorem Nv{n:aj}(hf:cO n){ab aP:Int}{aG:List av}(h:TN n l ah ab au a8 aP aG):aG.length<=(ak n).length-1:=by
 have:=se (xs:=au::aG.map (cg n)) (ys:=ak n) h.nodup λp hp=>by
  rcases List.mem_cons.1 hp with rfl|hp
  ·exact Zcc h.hC.2.1
  ·obtain⟨t,ht,rfl⟩:=WE.1 hp
   obtain⟨y,hy,hym⟩:=fa hf (pW h.chain t ht);have f2:cg n t=y.a8:=by unfold cg;simp_all
   rw[f2];exact(pL hym).2
 grind
def qX(n:aj)(o o':az):Prop:=o'=o\/∃more,more.length<=(ak n).length-1/\o'=fK o (cf o++more)
theorem Jq{w w':ax}(hf:cO w.aa){i:Nat}{o:az}(hR:ua w i o w')(ho:w.ae[i]?=YH o):qo w w'/\(∃o',w'.ae[i]?=YH o'/\qX w.aa o o')/\∀j,¬j=i->w'.ae[j]?=w.ae[j]?:=by
 have Dk:=(VT.1 ho).1
 rcases hR with⟨_,rfl⟩ |⟨aG,bs,hN,rfl⟩
 ·refine⟨qo.new _ _ _ _ _,⟨fK o (cf o),?_,.inr ⟨[],by simp,by simp⟩⟩,λj hj=>?_⟩
  ·show(w.ae.set i _)[i]?=_
   simp_all
  ·show(w.ae.set i _)[j]?=_
   grind
 ·refine⟨qo.new _ _ _ _ _,⟨_,?_,.inr ⟨aG,Nv hf hN.JS,rfl⟩⟩,λj hj=>?_⟩
  ·show(w.ae.set i _)[i]?=_
   simp_all
  ·show(w.ae.set i _)[j]?=_
   grind
def qk(w:ax):Int×Int×Int×(List bK)×(List Int)×(List az)×(List aq)×(List av)×(List bq)×(List Int):=(w.aa.change,w.now,w.bd,w.aa.aA,w.aa.off,w.ae,w.ar,w.ah,w.aH,w.skip)
theorem jS{α β:Type}{x:Option α}{f:α->Option β}{r:β}:x.bind f=YH r↔∃a,x=YH a/\f a=YH r:=by
 cases x<;>simp
theorem Kk{α:Type}{b:Bool}{x y:α}{P:α->Prop}(h:b=YJ->P x)(k:b=YK->P y):P (cond b x y):=by
 grind
theorem Pw{n:aj}{aP ab:Int}{x:List av}(h:bN n l ah au a8 aP ab=YH (x,YK)):x=[]:=by
 obtain⟨y1,_,h⟩:=jS.1 h;obtain⟨y2,_,h⟩:=jS.1 h;obtain⟨y3,_,h⟩:=jS.1 h;obtain⟨y4,_,h⟩:=jS.1 h
 revert h
 have nil:(YH (([]:List av),YK))=YH (x,YK)->x=[]:=λe=>by
  grind
 refine Kk (P:=λz=>z=YH (x,YK)->x=[]) (λ_=>nil) λ_=>Kk (P:=λz=>z=YH (x,YK)->x=[]) (λ_=>nil) λ_ h=>?_
 obtain⟨y5,_,h⟩:=jS.1 h
 revert h
 refine Kk (P:=λz=>z=YH (x,YK)->x=[]) (λ_=>nil) λ_ h=>?_
 obtain⟨y6,_,h⟩:=jS.1 h;obtain⟨o0,_,h⟩:=jS.1 h;obtain⟨o1,_,h⟩:=jS.1 h
 grind
section
variable {w:ax} {c:Nat->List av} (h:uU w c) {i:Nat} {o:az} (ho:w.ae[i]?=YH o)
include h ho
theorem Gg{a b:Nat}{s t:av}(B8:a<b)(ha:o.aG[a]?=YH s)(hb:o.aG[b]?=YH t):dF w.aa s<=cM w.aa t/\cM w.aa s<dF w.aa s:=by
 have hn:=(dH h.mg).1;have hO:=kL h ho;obtain⟨c0,c1⟩:=kI hn;have hs:=hO.ok.bj s (VV ha);obtain⟨t1,t2,t3,t4,t5⟩:=cR h.fit.eO hn hs;have zi:=(VT.1 hb).1;have h1:o.aG[a+1]?=YH o.aG[a+1]:=VU X9;have hn1:=((BF hO.chain ha).2 _ h1).1
 by_cases pk:b=a+1
 ·grind
 ·have bU:=BH h.fit.eO hn hO.chain
  have:=List.pairwise_iff_getElem.1 bU (a+1) b X9 zi X9
  grind
theorem FO(ht:t∈cf o):cM w.aa t<=w.now:=by
 have hO:=kL h ho;obtain⟨k0,k1,k2,k3⟩:=nr h ho;obtain⟨a,ha,hae⟩:=Wc ht;have hao:o.aG[a]?=YH t:=by rw[<-ID h ho ha,<-hae];simp
 have past:0<o.aN->a<=(o.aN-1).toNat->cM w.aa t<=w.now:=λhg hle=>by
  have uQ:(o.aN-1).toNat<o.aG.length:=X9;have hp:=hO.st.past _ hg (VU uQ)
  by_cases My:a=(o.aN-1).toNat
  ·subst My
   rw[VU uQ]at hao
   rw[VW hao]at hp
   have hn:=(dH h.mg).1;obtain⟨t1,t2,t3,t4,t5⟩:=cR h.fit.eO hn (hO.ok.bj t Yd);omega
  ·have:=Gg h ho (a:=a) (b:=(o.aN-1).toNat) X9 hao (VU uQ)
   have hn:=(dH h.mg).1;obtain⟨t1,t2,t3,t4,t5⟩:=cR h.fit.eO hn (hO.ok.bj _ (Wm uQ));omega
 rcases hO.st.cases with⟨s1,s2,s3,s4,s5⟩ |⟨s1,s2,s3,t2,u1,u2,u3⟩ |⟨s1,s2,s3,s4,s5,s6⟩
 ·have zj:bb o=o.aN:=by unfold bb;omega
  omega
 ·have zj:bb o=o.aN+1:=by unfold bb;omega
  grind
 omega
theorem LH(ht:t∈lZ o):w.now<cM w.aa t:=by
 have hO:=kL h ho;obtain⟨k0,k1,k2,k3⟩:=nr h ho;obtain⟨g0,g1⟩:=hO.ok.aN;obtain⟨a,ha,hae⟩:=Wc ht;have hao:o.aG[(bb o).toNat+a]?=YH t:=by
  have:=VU ha;rw[hae]at this
  unfold lZ at this
  grind
 have hal:=(VT.1 hao).1
 rcases hO.st.cases with⟨s1,s2,s3,s4,s5⟩ |⟨s1,s2,s3,t2,u1,u2,u3⟩ |⟨s1,s2,s3,s4,s5,s6⟩
 ·have zj:bb o=o.aN:=by unfold bb;omega
  have uQ:o.aN.toNat<o.aG.length:=X9;have h5:=s5 _ (VU uQ)
  by_cases h0:a=0
  ·grind
  ·have:=Gg h ho (a:=o.aN.toNat) X9 (VU uQ) hao
   omega
 ·have zj:bb o=o.aN+1:=by unfold bb;omega
  have:=Gg h ho (a:=o.aN.toNat) X9 u1 hao;omega
 omega
theorem QX:lk w.aa w.ar ((i+1:Nat):Int) (w.now+1)=YH (gl w i o):=by
 have hn:=(dH h.mg).1;have zi:=(dH h.mg).2;unfold lk;rw[il h.fit.eO h.fit.ar,h.mg];have e:aD (iO w.aa w.ar ((i+1:Nat):Int) (w.now+1) YJ) NN (0,[])=YH (gl w i o):=by
  refine my (body:=iO w.aa w.ar ((i+1:Nat):Int) (w.now+1) YJ) (λj:Nat=>((j:Int),oY ((i+1:Nat):Int) (lZ o) (w.ar.take j))) (n:=w.ar.length) (λj hj=>?_) ?_ NN Yc
  ·have hg:aB w.ar (j:Int)=YH w.ar[j]:=by rw[aS];simp
   have hw:aI ((j:Int)+1)=((j+1:Nat):Int):=bE hj X9;have Og:(oY ((i+1:Nat):Int) (lZ o) (w.ar.take j)).length<=1000:=Nat.le_trans (List.length_filter_le _ _) Yd;have ha:bW (bm ((oY ((i+1:Nat):Int) (lZ o) (w.ar.take j)).length+([w.ar[j]]:List aq).length) 32)=YH ():=eV Yd X9;have hs:oY ((i+1:Nat):Int) (lZ o) (w.ar.take (j+1))=oY ((i+1:Nat):Int) (lZ o) (w.ar.take j)++(if(YL (w.ar[j].bw=((i+1:Nat):Int))&&dx (lZ o) w.ar[j].bj)=YJ then []else [w.ar[j]]):=by
    unfold oY;rw[List.take_succ_eq_append_getElem hj]
    grind
   obtain⟨t1,t2,t3,t4,t5⟩:=cR h.fit.eO hn (Ke h.fit.eO h.mg (Wm hj));unfold iO;rw[hs]
   by_cases hth:w.ar[j].bw=((i+1:Nat):Int)
   ·rw[X1 hth]
    simp;obtain⟨j',o',t',q1,q2,q3⟩:=Kf h (Wm hj);have hjj:j'=i:=by
     grind
    subst hjj;rw[ho]at q1
    obtain rfl:=VW q1;have ME:w.ar[j].bj=t':=congrArg aq.bj q3;rw[ME];rw[sG h ho]at q2
    cases hc:dx (lZ o) t' with
    |true=>
     have:=LH h ho (jT.1 hc)
     grind
    |false=>
     rcases Wl.1 q2 with q2|q2
     ·have:=FO h ho q2
      grind
     ·rw[jT.2 q2]at hc;grind
   grind
  ·unfold iO gl
   simp
 grind
theorem TU(hs:¬o.state=3):∃w',eF w (i:Int)=YH w'/\ua w i o w':=by
 have hn:=(dH h.mg).1;have zi:=(dH h.mg).2;have hO:=kL h ho;have hlen:=tS h ho;obtain⟨k0,k1,k2,k3⟩:=nr h ho;obtain⟨g0,g1⟩:=hO.ok.aN;obtain⟨c0,c1⟩:=kI hn;have Dk:=(VT.1 ho).1;have hol:=h.IU;have Cg:=h.now;have Rz:aB w.ae (i:Int)=YH o:=by rw[aS];omega
 have Eg:e9 o=YH (bb o):=(sR hO.ok.aN X9).1;have uq:cH o.aG 0 (bb o)=cf o:=by rfl
 have zl:bW (gg 0 (bb o) o.aG.length)=YH ():=od Yy;have wY:aI (w.now+1)=w.now+1:=aR X9;have wI:aI ((i:Int)+1)=((i+1:Nat):Int):=by rw[aR X9];omega
 have Il:(gl w i o).length<=120:=Nat.le_trans (tw _ _ _).length_le zi;have sM:=yW h.fit.eO h.mg (tw ((i+1:Nat):Int) (lZ o) w.ar);have Ij:eU w.aa o=YH (fZ w.aa o):=by
  unfold eU fZ
  rcases hO.st.cases with⟨s1,_⟩ |⟨s1,s2,s3,t2,u1,u2,u3⟩ |⟨s1,_⟩
  ·grind
  ·have hg:aB o.aG o.aN=YH t2:=by unfold aB;grind
   obtain⟨y,hy,_⟩:=fa h.fit.eO (hO.ok.bj t2 (VV u1));unfold cg
   grind
  omega
 have ha0:bW (bm ((([]:List av)).length+(cf o).length) 16)=YH ():=eV Yd X9;obtain⟨⟨aG,b⟩,_,e2⟩:=qZ h.fit.eO (l:=gl w i o) X9 h.fit.ah (fZ w.aa o) o.a8 (atR w.aa w.now o) o.ab;have tail:∀a,a=atR w.aa w.now o->∃w',((bN w.aa (gl w i o) w.ah (fZ w.aa o) o.a8 a o.ab).bind λy8=>
  (ct w.aa (gl w i o) ((i+1:Nat):Int) o.ab y8.1).bind λy9=>
  cond y9.2
  ((bW (bm ((([]++cf o):List av).length+(y8.1:List av).length) 16)).bind λ_=>
  YH (xa w i o (cf o++y8.1) y9.1))
  (YH (xa w i o (cf o) (gl w i o))))=YH w'/\ua w i o w':=by
  rintro a rfl
  cases b with
  |false=>
   obtain rfl:=Pw e2;have zY:=tp h.fit.eO (show(gl w i o).length<=1048000 by omega) ((i+1:Nat):Int) o.ab (aG:=[]) (d:=gl w i o) (by simp[gD]) (He sM)
   rw[if_pos ⟨sM,by simp,sM⟩]at zY
   have ha:bW (bm ((([]++cf o):List av).length+([]:List av).length) 16)=YH ():=eV Yd X9;exact⟨_,by grind,.inl ⟨.inl ⟨[],e2⟩,rfl⟩⟩
  |true=>
  have hR:=qe h.fit.eO (show(gl w i o).length<=1048576 by omega) h.fit.ah e2
  have TH:=hR.len;have AU:(gD ((i+1:Nat):Int) o.ab aG).length=aG.length:=by unfold gD;simp
  obtain⟨d,d1,d2⟩:=Gx (gl w i o++gD ((i+1:Nat):Int) o.ab aG) Yd;have zY:=tp h.fit.eO (show(gl w i o).length<=1048000 by omega) ((i+1:Nat):Int) o.ab d1 d2
  by_cases Re:cn w.aa d=YJ
  ·rw[if_pos ⟨sM,TH,Re⟩]at zY
   have ha:bW (bm ((([]++cf o):List av).length+aG.length) 16)=YH ():=eV Yd X9;exact⟨_,by grind,.inr ⟨aG,d,⟨e2,zY,hR,d1,Re⟩,rfl⟩⟩
  ·rw[if_neg (λhx=>Re hx.2.2)]at zY
   exact⟨_,by grind,.inl ⟨.inr ⟨aG,e2,zY⟩,rfl⟩⟩
 unfold eF;rw[Rz,VS,Eg,VS]
 by_cases h0:0<bb o
 ·have hkt:(bb o).toNat-1<o.aG.length:=X9
  have wF:(cf o).getLast?=YH o.aG[(bb o).toNat-1]:=by
   unfold cf
   grind
  have hgk:aB o.aG (aI (bb o-1))=YH o.aG[(bb o).toNat-1]:=by
   rw[aR X9];unfold aB;rw[if_pos X9];simp
  obtain⟨t1,t2,t3,t4,t5⟩:=cR h.fit.eO hn (hO.ok.bj _ (Wm hkt));have hwe:aI (dF w.aa o.aG[(bb o).toNat-1]+w.aa.change)=dF w.aa o.aG[(bb o).toNat-1]+w.aa.change:=aR X9;have Zb5:fB (w.now+1) (dF w.aa o.aG[(bb o).toNat-1]+w.aa.change)=YH (atR w.aa w.now o):=by
   unfold fB atR
   grind
  rw[X1 h0,hgk];simp only[VS,t2,wY,hwe,Zb5,wI,QX h ho,Ij,zl,uq,ha0];obtain⟨w',q1,q2⟩:=tail _ rfl;refine⟨w',?_,q2⟩;rw[<-q1];rfl
 ·have Rc:w.now+1=atR w.aa w.now o:=by unfold atR;grind
  rw[X2 h0];simp only[wY,wI,QX h ho,Ij,zl,uq,ha0];obtain⟨w',q1,q2⟩:=tail _ Rc;refine⟨w',?_,q2⟩;rw[<-q1];rfl
omit h ho in
theorem Ps{a b:ax}(h1:ua w i o a)(h2:ua w i o b):a=b:=by
 have no:∀{aG bs},P8 w i o->P7 w i o aG bs->False:=λ{aG bs} hx hy=>by
  rcases hx with⟨x,hx⟩ |⟨x,hx,hb⟩
  ·rw[hy.iU]at hx
   grind
  ·rw[hy.iU]at hx
   have hxx:aG=x:=congrArg Prod.fst (VW hx);rw[<-hxx,hy.book]at hb
   grind
 rcases h1 with⟨n1,rfl⟩ |⟨w1,b1,n1,rfl⟩<;>rcases h2 with⟨n2,rfl⟩ |⟨w2,b2,n2,rfl⟩
 ·rfl
 ·grind
 ·grind
 ·have e:=n2.iU
  rw[n1.iU]at e
  have hw:w1=w2:=congrArg Prod.fst (VW e);subst hw;have e2:=n2.book;rw[n1.book]at e2
  grind
theorem Bm(hs:¬o.state=3)(iq:¬fZ w.aa o=o.a8):∃w',eF w (i:Int)=YH w'/\eZ w ((i+1:Nat):Int)=YH w'/\ua w i o w'/\uU w' (λj=>if j=i then w.ah else c j):=by
 obtain⟨a,a1,a2,a3⟩:=LF h ho hs iq;obtain⟨b,b1,b2⟩:=TU h ho hs;obtain rfl:=Ps b2 a2
 grind
end
section
variable {n:aj} (hf:cO n) (hn:aV n=YH YJ)
include hf hn
theorem Zcr{bD z:Int}{y:bK}(hy:aB n.aA bD=YH y):iY n bD z=cF n [] [] bD z 0:=by
 have Rq:=(ym hf hn y (su hy)).iU;have hw:aI (y.iU-0)=y.iU:=by rw[aR X9];omega
 have hb:kg n bD z=cK n [] [] bD z 0:=by
  funext s
  unfold kg cK
  cases YL (s<=60)with
  |false=>rfl
  |true=>
  cases cA n bD s with
  |none=>rfl
  |some b=>
  cases b with
  |false=>rfl
  |true=>
  cases bp n ⟨bD,s⟩with
  |none=>rfl
  |some v=>
  simp only[VS]
  cases YL (z<=v)with
  |false=>rfl
  |true=>
  have hc:dp [] (⟨bD,s⟩:av)=YH false:=by rfl
  simp only[X5,hc,VS,Bool.not_false,hy,IJ,hw,X1 Rq.1]
 unfold iY cF;rw[hb]
theorem Zaj(gG:List Int)(f:Int):oF n (ak n) gG f=eu n [] [] 0 (ak n) gG f:=by
 have hb:n9 n (ak n) gG f=eB n [] [] 0 (ak n) gG f:=by
  funext s
  unfold n9 eB
  cases YL (s.1<(n.aA.length:Int))with
  |false=>simp
  |true=>
  cases hy:aB n.aA s.1 with
  |none=>simp
  |some y=>simp only[Zcr hf hn hy]
 unfold oF eu;rw[hb]
theorem Kc{aP:Int}(KB:0<=bf (ak n) au)(Dt:aP<=100000){k:Nat}(hk:k<=(ak n).length):jI n au aP (k:Int)=YH (cd n [] [] 0 (bf (ak n) au) aP k):=by
 have hp:=O4 hf;obtain⟨r0,e0,_⟩:=zd hf (bf (ak n) au) aP;have h0:cd n [] [] 0 (bf (ak n) au) aP 0=r0:=by unfold cd;grind
 unfold jI;rw[(dh hf).2];simp only[VS,oZ hf];have e:aD (fJ n (k:Int) (ak n) (bf (ak n) au)) NN (0,cd n [] [] 0 (bf (ak n) au) aP 0)=YH (cd n [] [] 0 (bf (ak n) au) aP k):=by
  refine my (body:=fJ n (k:Int) (ak n) (bf (ak n) au)) (λi:Nat=>((i:Int),cd n [] [] 0 (bf (ak n) au) aP i)) (n:=k) (o:=cd n [] [] 0 (bf (ak n) au) aP k) (λi hi=>?_) ?_ NN Yc
  ·unfold fJ
   rw[X1 (show(i:Int)<(k:Int)by omega),X1 (show(i:Int)<((ak n).length:Int)by omega),Zaj hf hn,(r7 hf (l:=[]) Ye (ah:=[]) Ye 0 _ aP i).1,aR X9]
   rfl
  ·unfold fJ
   simp
 grind
theorem Kv{aP:Int}(KB:0<=bf (ak n) au)(Dt:aP<=100000)(JZ:0<=bf (ak n) a8){e:Int}(he:aB (cd n [] [] 0 (bf (ak n) au) aP (ak n).length) (bf (ak n) a8)=YH e):jr n au a8 aP=YH e:=by
 have bU:=(na (ak n) a8).2;have zi:=nw hf (l:=[]) Ye (ah:=[]) Ye 0 (bf (ak n) au) aP (ak n).length;unfold jr;rw[(dh hf).2];simp only[VS,oZ hf,Kc hf hn KB Dt (Nat.le_refl _),X2 (show ¬bf (ak n) a8<0 by omega),X2 (show ¬(((cd n [] [] 0 (bf (ak n) au) aP (ak n).length).length:Int)=0)by omega),X6,he]
omit hf hn in
theorem Gm{ay e aP:Int}(he:jr n au a8 aP=YH e)(h0:0<=e)(h1:e<=100000)(hs:1<=ay/\ay<=3):kc n ay au a8 aP=YH (HD e ay):=by
 unfold kc;rw[he];simp only[VS,cE];have d1:e.tdiv 1440=e / 1440:=Int.tdiv_eq_ediv_of_nonneg h0;have d2:e.tmod 1440=e % 1440:=Int.tmod_eq_emod_of_nonneg h0;have GR:IntKind.i64.wrap (e / 1440)=e / 1440:=aR X9;have hk:∃k:Int,0<=k/\k<=4/\aI (aI (ay-1)*aI (ay-1))=k/\k=(if ay=1 then 0 else if ay=2 then 1 else 4):=by
  rcases(show ay=1\/ay=2\/ay=3 by omega)with rfl|rfl|rfl
  ·exact⟨0,X9,X9,by rfl,by simp⟩
  ·exact⟨1,X9,X9,by rfl,by simp⟩
  ·exact⟨4,X9,X9,by rfl,by simp⟩
 obtain⟨k,k0,k1,k2,k3⟩:=hk;rw[d1,d2,GR,X1 hs.1,X1 hs.2,X2 (show ¬e<0 by omega),k2]
 simp;unfold HD;rw[<-k3]
 by_cases hd:1080<e % 1440
 ·rw[X1 hd,if_pos hd,X5]
  rw[aR (n:=e / 1440+1) X9,aR (n:=e / 1440+1+k) X9,aR (n:=(e / 1440+1+k)*1440) X9,aR X9]
 ·rw[X2 hd,if_neg hd,X6]
  rw[aR (n:=e / 1440+k) X9,aR (n:=(e / 1440+k)*1440) X9,aR X9,Int.add_zero]
theorem yv(hl:l.length<=1048576)(hc:ah.length<=1048576){aP ab ay:Int}(hs:1<=ay/\ay<=3){aG:List av}(h:bN n l ah au a8 aP ab=YH (aG,YJ)):
 ∃d,fE n ay au a8 aP=YH d/\kc n ay au a8 aP=YH d/\0<=d/\d<=200000:=by
 obtain⟨d,d1,d2,d3⟩:=Jh hf hn hl hc hs h;have hR:=qe hf hl hc h;obtain⟨q1,q2,q3,q4⟩:=hR.hC;have bU:=(na (ak n) a8).2;have zi:=nw hf (l:=[]) Ye (ah:=[]) Ye 0 (bf (ak n) au) aP (ak n).length;obtain⟨e,he,_⟩:=ki (xs:=cd n [] [] 0 (bf (ak n) au) aP (ak n).length) (i:=bf (ak n) a8) ⟨hR.JZ,X9⟩;have e1:=BR hf hn q2 q3 hR.JZ he;have e2:=Kv hf hn q2 q3 hR.JZ he;have gH:0<=e/\e<=100000:=by
  obtain⟨v,hv,h0⟩:∃v,sj (cd n [] [] 0 (bf (ak n) au) aP (ak n).length) (bf (ak n) a8) v/\v<=100000:=Bw hf hn hl hc h;obtain⟨v',v1,v2,v3⟩:=hv
  grind
 refine⟨HD e ay,CJ e1 gH.1 gH.2 hs,Gm e2 gH.1 gH.2 hs,?_⟩;have:=QY (ay:=ay) gH.1 gH.2;omega
end
theorem zK{w:ax}(h:ql w)(au a8:ByteArray)(ay ab:Int):
 ∃r,fk w au a8 ay ab=YH r/\cQ w au a8 ay ab=YH r/\(r=(w,0,YK)/\L6 w au a8 ay ab\/∃aG ys dW,Qe w au a8 ay ab r aG ys dW):=by
 have hf:=h.fit;obtain⟨p1,p2,p3,p4,p5,p6,p7⟩:=h.parts;obtain⟨r,e,hr⟩:=Qg h au a8 ay ab λaG hw hs=>by
  obtain⟨d,d1,_,d2,d3⟩:=yv hf.eO h.eO hf.ar hf.ah hs hw
  grind
 refine⟨r,e,?_,hr⟩;have wY:aI (w.now+1)=w.now+1:=aR X9;have Az:aI ((w.ae.length:Int)+1)=(w.ae.length:Int)+1:=aR X9;unfold cQ;rw[vQ hf,qb hf,h.ok,wY,Az];simp only[cE]
 -- L3 follows where all is Zif but the aG
 obtain⟨⟨aG,b⟩,e1,e2⟩:=qZ hf.eO hf.ar hf.ah au a8 (w.now+1) ab;have hbt:=Qt hf.eO (show w.ar.length<=1048000 by omega) ((w.ae.length:Int)+1) ab aG
 obtain⟨y6,e6,_⟩:=hbt;rw[e2];simp only[VS];rw[e6]
 rcases hr with⟨rfl,hR⟩ |⟨ZgL,ys,dW,hT⟩
 ·by_cases c1:30<=w.ae.length
  ·grind
  rw[X2 (show ¬(30:Int)<=(w.ae.length:Int)by omega)]
  by_cases c2:au=a8
  ·grind
  rw[X2 c2]
  by_cases c3:1<=ay/\ay<=3
  case neg=>
   grind
  rw[X1 c3.2]
  by_cases c4:1<=ab/\ab<=30000
  case neg=>
   grind
  rw[X1 c4.2];simp
  rcases hR with hx|hx|hx|hx|⟨x,hx⟩ |⟨wy,l,hx,hy⟩
  all_goals grind
 ·have hrm:=hT.iU
  rw[e2]at hrm
  have hb:b=true:=congrArg Prod.snd (VW hrm);have Zge:aG=ZgL:=congrArg Prod.fst (VW hrm);subst Zge;subst hb;have xq:=hT.book;rw[e6]at xq
  obtain rfl:=VW xq;have hok:=hT.ok;obtain⟨k1,k2,_⟩:=hok.parts;have k2':(w.ae++[nL w au a8 ay ab dW aG]).length<=30:=k2;rw[V3]at k2'
  simp at k2'
  have hv:=qh hok.ok (i:=w.ae.length) (o:=nL w au a8 ay ab dW aG) (by
   show(w.ae++[nL w au a8 ay ab dW aG])[w.ae.length]?=_;simp)
  unfold jR at hv
  simp at hv
  have c3:1<=ay/\ay<=3:=hv.1.1.1.1.1.1.1.1.2;have c4:1<=ab/\ab<=30000:=hv.1.1.1.1.1.1.1.2;obtain⟨d,d1,d2,_⟩:=yv hf.eO h.eO hf.ar hf.ah c3 hT.iU;have hpr:=hT.prom;rw[d1]at hpr
  obtain rfl:=VW hpr;have hR:=qe hf.eO hf.ar hf.ah hT.iU;have hlen:=hR.len;have ha:bW (bm (w.ae.length+([nL w au a8 ay ab d aG]:List az).length) 128)=YH ():=eV Yd X9;have hsi:=Gu (w:=⟨w.aa,w.ae++[nL w au a8 ay ab d aG],ys,w.ah,w.now,w.aH,w.skip,w.bd⟩) ⟨by grind,p4,by grind⟩ ⟨(w.ae.length:Int)+1,w.now,1,au,⟨0,0⟩⟩
  rw[X2 (show ¬(30:Int)<=(w.ae.length:Int)by omega),X2 hT.ne,X1 c3.1,X1 c3.2,X1 c4.1,X1 c4.2]
  simp only[d2,VS];unfold nL at ha hsi
  rw[ha];simp;rw[hsi,hT.res];rfl
theorem R6{σ σ' ο ο':Type}{b:σ->Option (σ⊕ο)}{b':σ'->Option (σ'⊕ο')}(I:Nat->σ->σ'->Prop){P:ο->ο'->Prop}
 (h:∀k s s',I k s s'->(∃t t' k',b s=YH (.inl t)/\b' s'=YH (.inl t')/\k'<k/\I k' t t')\/∃o o',b s=YH (.inr o)/\b' s'=YH (.inr o')/\P o o'):
 ∀(N k:Nat) (s:σ) (s':σ'),I k s s'->k<N->∃o o',aD b N s=YH o/\aD b' N s'=YH o'/\P o o'
 |0,k,s,s',_,hN=>X9
 |N+1,k,s,s',hI,hN=>by
  simp only[aD]
  rcases h k s s' hI with⟨t,t',k',e,e',hk,hI'⟩ |⟨o,o',e,e',hP⟩
  ·rw[e,e']
   exact R6 I h N k' t t' hI' X9
  grind
structure Shut(w:ax)(t:av)(x:ax):Prop where
 bj:fV w.aa t=YJ
 later:w.now<cM w.aa t
 new:¬t∈w.ah
 few:w.ah.length<20
 ok:ql x
 same:qo ⟨w.aa,w.ae,w.ar,w.ah++[t],w.now,w.aH,w.skip,w.bd⟩ x
 ord:∀(i:Nat) (o:az),w.ae[i]?=YH o->∃o',x.ae[i]?=YH o'/\(¬t∈lZ o->o'=o)/\qX w.aa o o'
theorem EO{w:ax}(h:ql w)(t:av):∃r,kx w t=YH r/\cJ w t=YH r/\(r=(w,YK)\/∃x,r=(x,YJ)/\Shut w t x):=by
 have hf:=h.fit;obtain⟨p1,p2,p3,p4,p5,p6,p7⟩:=h.parts;obtain⟨hP,hRs⟩:=s7 h;unfold kx cJ;rw[xL hf,vQ hf,VS,VS,sx hf,qb hf,h.ok,VS,VS,(qS hf.eO t).1,x8 hf.eO h.eO,VS,VS]
 cases yP:fV w.aa t with
 |false=>simp
 |true=>
 obtain⟨t1,t2,t3,t4,t5⟩:=cR hf.eO h.eO yP;have uL:df w.aa t=YH (cM w.aa t):=by rw[qf];omega
 rw[uL,t1,VS,VS];simp only[Bool.not_true]
 by_cases c1:cM w.aa t<=w.now
 ·grind
 rw[X2 c1,jX,jk hf.ah];have hcb:(w.ah.any λy=>YL (y=t))=dx w.ah t:=rfl
 rw[hcb]
 cases tD:dx w.ah t with
 |true=>simp
 |false=>
 simp only[X6]
 by_cases c2:(20:Int)<=(w.ah.length:Int)
 ·grind
 have ha:bW (bm (w.ah.length+([t]:List av).length) 16)=YH ():=eV Yd X9;rw[X2 c2,ha]
 let w1:ax:=⟨w.aa,w.ae,w.ar,w.ah++[t],w.now,w.aH,w.skip,w.bd⟩
 have hf1:qp w1:=⟨hf.eO,hf.ae,hf.ar,by grind,hf.aH,hf.skip,hf.aG⟩
 have va:¬t∈w.ah:=λhm=>by grind
 have key:∃r r',aD (fm t w) NN (0,qk w1)=YH r/\aD (fw t) NN (0,qk w1)=YH r'/\r'=r/\∃u,r=qk u/\qo w1 u/\uU u (λj=>if j<w.ae.length then u.ah else w.ah)/\∀(i:Nat) (o:az),w.ae[i]?=YH o->∃o',u.ae[i]?=YH o'/\(¬t∈lZ o->o'=o)/\qX w.aa o o':=by
  refine R6 (fun(k:Nat) (s s':Int×Int×Int×Int×(List bK)×(List Int)×(List az)×(List aq)×(List av)×(List bq)×(List Int))=>s'=s/\∃(i:Nat) (u:ax),s=((i:Int),qk u)/\i+k=w.ae.length/\qo w1 u/\uU u (λj=>if j<i then u.ah else w.ah)/\
   (∀(j:Nat) (o:az),w.ae[j]?=YH o->∃o',u.ae[j]?=YH o'/\(¬t∈lZ o->o'=o)/\qX w.aa o o')/\∀j,i<=j->u.ae[j]?=w.ae[j]?) (λk s s' hs=>?_) NN w.ae.length _ _ ⟨rfl,0,w1,rfl,X9,qo.refl _,⟨hf1,hP.mg,hP.now,hP.IU,λi o ho=>hP.ord i o ho,hP.sum,λi=>by grind⟩,λj o ho=>⟨o,ho,λ_=>rfl,Or.inl rfl⟩,λj _=>rfl⟩ Yc
  obtain⟨rfl,i,u,rfl,hk,hS,hU,hold,xW⟩:=hs;have hul:u.ae.length=w.ae.length:=hS.len
  by_cases bU:i<w.ae.length
  ·have Oe:YL ((i:Int)<(w.ae.length:Int))=true:=X1 X9
   have PT:YL ((i:Int)<(u.ae.length:Int))=true:=X1 X9;have wI:aI ((i:Int)+1)=((i+1:Nat):Int):=by rw[aR X9];omega
   have hio:=VU bU;have KH:u.ae[i]?=YH w.ae[i]:=by grind
   have hg:aB u.ae (i:Int)=YH w.ae[i]:=by rw[aS];omega
   have hO:=kL hU KH;have hlen:=tS hU KH;obtain⟨k0,k1,k2,k3⟩:=nr hU KH;have Rh:e9 w.ae[i]=YH (bb w.ae[i]):=(sR hO.ok.aN X9).1;have Eg:gI w.ae[i]=YH (bb w.ae[i]):=by
    rw[(sR hO.ok.aN X9).2.2,if_neg X9]
   have zl:bW (gg (bb w.ae[i]) (w.ae[i].aG.length:Int) w.ae[i].aG.length)=YH ():=od Yy;have uq:cH w.ae[i].aG (bb w.ae[i]) (w.ae[i].aG.length:Int)=lZ w.ae[i]:=by
    unfold cH lZ;rw[List.take_of_length_le Ye]
   have hrl:(lZ w.ae[i]).length<=1048576:=by unfold lZ;grind
   have hcr:((lZ w.ae[i]).any λy=>YL (y=t))=dx (lZ w.ae[i]) t:=rfl
   cases hc:dx (lZ w.ae[i]) t
   rotate_left
   ·have hm:=jT.1 hc
    obtain⟨r1,r2⟩:=LI hU KH (λe=>by grind)
    obtain⟨u',e2,e,hR,hU'⟩:=Bm hU KH r1 r2;obtain⟨s1,⟨o',o1,o2⟩,s3⟩:=Jq hU.fit.eO hR KH;rw[hS.aa]at o2
    have e':eZ ⟨⟨u.aa.aA,u.aa.off,u.aa.change⟩,u.ae,u.ar,u.ah,u.now,u.aH,u.skip,u.bd⟩ ((i+1:Nat):Int)=YH u':=e;have xO:eF ⟨⟨u.aa.aA,u.aa.off,u.aa.change⟩,u.ae,u.ar,u.ah,u.now,u.aH,u.skip,u.bd⟩ (i:Int)=YH u':=e2;refine .inl ⟨(((i+1:Nat):Int),qk u'),_,k-1,?_,?_,X9,rfl,i+1,u',rfl,X9,hS.trans s1,?_,λj o ho=>?_,λj hj=>?_⟩
    ·unfold fm
     simp only[qk,Oe,X5,hg,VS,Eg,zl,uq,jk hrl,wI,hcr,hc,bh,e']
    ·unfold fw
     show cond (YL ((i:Int)<(u.ae.length:Int))) _ _=_;rw[PT];simp only[qk,X5,hg,VS,Rh,zl,uq,jX,jk hrl,wI,hcr,hc,bh,xO]
    ·have ef:(λj=>if j=i then u.ah else if j<i then u.ah else w.ah)=λj=>if j<i+1 then u'.ah else w.ah:=by
      funext j
      rw[s1.ah]
      grind
     grind
    all_goals grind
   ·refine .inl ⟨(((i+1:Nat):Int),qk u),_,k-1,?_,?_,X9,rfl,i+1,u,rfl,X9,hS,⟨hU.fit,hU.mg,hU.now,hU.IU,λj o ho=>?_,hU.sum,λj=>?_⟩,hold,λj hj=>xW j X9⟩
    ·unfold fm
     simp only[qk,Oe,X5,X6,hg,VS,Eg,zl,uq,jk hrl,wI,hcr,hc]
    ·unfold fw
     show cond (YL ((i:Int)<(u.ae.length:Int))) _ _=_;rw[PT];simp only[qk,X5,X6,hg,VS,Rh,zl,uq,jX,jk hrl,wI,hcr,hc]
    ·by_cases hj:j=i
     ·subst hj
      rw[KH]at ho
      obtain rfl:=VW ho;have hv:=hU.ord j _ KH;rw[if_neg (Nat.lt_irrefl j)]at hv
      rw[if_pos (Nat.lt_succ_self j)];unfold xd jR at hv⊢
      simp only[Bool.and_eq_true,Bool.not_eq_true']at hv⊢
      refine⟨hv.1,?_⟩;have TC:=hv.2;rw[hS.ah];refine XM.2 λy hy hyc=>?_
      have:=XM.1 TC y hy;have Zgf:=jT.1 hyc
      rcases Wl.1 Zgf with hx|hx
      ·exact this (jT.2 hx)
      ·obtain rfl:=List.mem_singleton.1 hx
       have:dx (lZ w.ae[j]) y=true:=jT.2 hy
       grind
     ·have hv:=hU.ord j o ho
      grind
    ·show(if j<i+1 then u.ah else w.ah).length<=1048576
     split
     ·exact hU.fit.ah
     omega
  ·have Oe:YL ((i:Int)<(w.ae.length:Int))=false:=X2 X9
   have PT:YL ((i:Int)<(u.ae.length:Int))=false:=X2 X9;refine .inr ⟨qk u,_,?_,?_,rfl,u,rfl,hS,?_,hold⟩
   ·unfold fm
    grind
   ·unfold fw
    show cond (YL ((i:Int)<(u.ae.length:Int))) _ _=_
    grind
   refine⟨hU.fit,hU.mg,hU.now,hU.IU,λj o ho=>?_,hU.sum,λj=>?_⟩
   ·have hj:=(VT.1 ho).1
    have hv:=hU.ord j o ho
    grind
   ·show(if j<w.ae.length then u.ah else w.ah).length<=1048576
    split
    ·exact hU.fit.ah
    omega
 obtain⟨r,_,e,e2,rfl,u,rfl,hS,hU,hold⟩:=key;have e':aD (fm t w) NN (0,w.aa.change,w.now,w.bd,w.aa.aA,w.aa.off,w.ae,w.ar,w.ah++[t],w.aH,w.skip)=YH (qk u):=e;have xO:aD (fw t) NN (0,w.aa.change,w.now,w.bd,w.aa.aA,w.aa.off,w.ae,w.ar,w.ah++[t],w.aH,w.skip)=YH (qk u):=e2;rw[e',xO];refine⟨(u,YJ),rfl,rfl,.inr ⟨u,rfl,yP,X9,va,X9,?_,hS,hold⟩⟩;refine JV ⟨hU.fit,hU.mg,hU.now,hU.IU,λj o ho=>?_,hU.sum,λ_=>hU.fit.ah⟩ ⟨?_,by rw[hS.aH];omega,by rw[hS.skip];omega,by rw[hS.aH,hS.bd];omega,?_,?_⟩
 ·have hj:=(VT.1 ho).1
  have hv:=hU.ord j o ho;rw[if_pos (by rw[<-hS.len];omega)]at hv
  omega
 ·rw[hS.ah];grind
 ·refine cB.2 λj x hx=>?_
  unfold rS;rw[hS.ah,hS.aa]at *
  have uJ:(w.ah++[t])[j]?=YH x:=hx;rw[Nat.zero_add];show(fV w.aa x&&!dx ((w.ah++[t]).take j) x)=YJ
  by_cases hj:j<w.ah.length
  ·rw[List.getElem?_append_left hj]at uJ
   have:=cB.1 hRs.cl j x uJ;unfold rS at this
   grind
  grind
 ·refine cB.2 λj x hx=>?_
  rw[hS.aH]at hx
  have:=cB.1 hRs.sc j x hx;unfold wL at this⊢
  rw[hS.aa,hS.now];omega
def nG(o:aL)(p:aT):Option (Int×aL):=
 (kr o.aY o.aX p).bind λy1=>
 cond (!y1.2)
 (YH (2,o))
 (cond (YL (y1.1=0))
 (YH (2,o))
 ((kR 8 []).bind λ_=>
 (fk o.world p.au p.label.a8 p.label.ay p.ab).bind λy2=>
 cond (!y2.2.2)
 (YH (3,o))
 ((kn o.lines y2.2.1 y1.1 o.world.now).bind λy3=>
 cond (!decide (y3.2=0))
 (YH (4,o))
 ((fv p).bind λy4=>
 (bW (bm ((o.aK:List aT).length+([y4]:List aT).length) 88)).bind λ_=>
 YH (0,(⟨y2.1,o.aY,o.aX,o.aM,((o.aK:List aT)++[y4]),y3.1,o.aF⟩:aL))))))
instance (o:aL)(p:aT):CT prog (nG o p):=⟨27,[.be 0 0 0,.ag (bJ p)],[YH ⟨.of 40,16,[[.ms 1,.ms 2,vi o.world.aa.change,.ms 3,.ms 4,.ms 5,vi o.world.now,.ms 6,.ms 7,vi o.world.bd,.ms 8,.ms 9,.ms 10,.ms 11,.ms 12,.ms 13]]⟩,YH ⟨.of 144,6,o.world.aa.aA.map bn⟩,YH ⟨.of 3,1,o.world.aa.off.map aE⟩,YH ⟨⟨94,YH 46⟩,11,o.world.ae.map ba⟩,YH ⟨.of 147,4,o.world.ar.map aC⟩,YH ⟨.of 46,2,o.world.ah.map aW⟩,YH ⟨.of 151,6,o.world.aH.map bt⟩,YH ⟨.of 3,1,o.world.skip.map aE⟩,YH ⟨.of 78,2,o.aY.map cG⟩,YH ⟨.of 81,4,o.aX.map cI⟩,YH ⟨.of 3,1,o.aM.map aE⟩,YH ⟨⟨44,YH 3⟩,7,o.aK.map bJ⟩,YH ⟨.of 85,4,o.lines.map bC⟩,YH ⟨⟨48,YH 3⟩,13,o.aF.map gF⟩],λr=>vi r.1,λr=>[YH ⟨.of 40,16,[[.ms 14,.ms 15,vi r.2.world.aa.change,.ms 16,.ms 17,.ms 18,vi r.2.world.now,.ms 19,.ms 20,vi r.2.world.bd,.ms 8,.ms 9,.ms 10,.ms 21,.ms 22,.ms 13]]⟩,YI,YI,YI,YI,YI,YI,YI,YH ⟨.of 78,2,r.2.aY.map cG⟩,YH ⟨.of 81,4,r.2.aX.map cI⟩,YH ⟨.of 3,1,r.2.aM.map aE⟩,YI,YI,YH ⟨⟨48,YH 3⟩,13,r.2.aF.map gF⟩,YH ⟨.of 144,6,r.2.world.aa.aA.map bn⟩,YH ⟨.of 3,1,r.2.world.aa.off.map aE⟩,YH ⟨⟨94,YH 46⟩,11,r.2.world.ae.map ba⟩,YH ⟨.of 147,4,r.2.world.ar.map aC⟩,YH ⟨.of 46,2,r.2.world.ah.map aW⟩,YH ⟨.of 151,6,r.2.world.aH.map bt⟩,YH ⟨.of 3,1,r.2.world.skip.map aE⟩,YH ⟨⟨44,YH 3⟩,7,r.2.aK.map bJ⟩,YH ⟨.of 85,4,r.2.lines.map bC⟩],ck (nG.eq_1 ..) func27 ntmps27 results27⟩
def kW(a:List bI)(b:List bI)(s0:Int):Option (Int⊕(Unit⊕Bool)):=
 cond (YL (s0<(a.length:Int)))
 ((aB a s0).bind λy1=>
 (aB b s0).bind λy2=>
 cond (!decide (y1=y2))
 (YH (.inr (.inr YK)))
 (YH (.inl (aI (s0+1)))))
 (YH (.inr (.inl ())))
instance (a:List bI)(b:List bI):bo (kW a b):=⟨λs0=>(.sl (a.map cG)::.sl (b.map cG)::(U 10 (vi (a.length:Int)::vi s0::(U 12 [])))),λs0=>[]⟩
def gP(a:List bI)(b:List bI):Option Bool:=
 cond (!decide ((a.length:Int)=(b.length:Int)))
 (YH YK)
 ((aD (kW a b) NN 0).bind (bk (λo0=>
 YH YJ) (λr=>YH r)))
instance (a:List bI)(b:List bI):CT prog (gP a b):=⟨32,[.sl (a.map cG),.sl (b.map cG)],[],λr=>vb r,λr=>[],λH=>by replace H:=H0 H;unfold gP at H;exact ja func32 rfl ntmps32 results32 λQ hQ Ia=>JU⟩
def kS(a:List aU)(b:List aU)(s0:Int):Option (Int⊕(Unit⊕Bool)):=
 cond (YL (s0<(a.length:Int)))
 ((aB a s0).bind λy1=>
 (aB b s0).bind λy2=>
 cond (!decide (y1=y2))
 (YH (.inr (.inr YK)))
 (YH (.inl (aI (s0+1)))))
 (YH (.inr (.inl ())))
instance (a:List aU)(b:List aU):bo (kS a b):=⟨λs0=>(.sl (a.map bC)::.sl (b.map bC)::(U 10 (vi (a.length:Int)::vi s0::(U 12 [])))),λs0=>[]⟩
def gM(a:List aU)(b:List aU):Option Bool:=
 cond (!decide ((a.length:Int)=(b.length:Int)))
 (YH YK)
 ((aD (kS a b) NN 0).bind (bk (λo0=>
 YH YJ) (λr=>YH r)))
instance (a:List aU)(b:List aU):CT prog (gM a b):=⟨35,[.sl (a.map bC),.sl (b.map bC)],[],λr=>vb r,λr=>[],λH=>by replace H:=H0 H;unfold gM at H;exact ja func35 rfl ntmps35 results35 λQ hQ Ia=>JU⟩
end Go.Proofs.YtdilaemengjipaaGreatDoor
