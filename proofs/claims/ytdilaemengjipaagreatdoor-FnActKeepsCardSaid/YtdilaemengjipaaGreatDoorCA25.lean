/- A part of the proof of the statement in the last file of this claim: texts on the language of the program and on its functions. No condition. -/
import Derived.Test.YtdilaemengjipaaGreatDoorCA19
import Derived.Test.YtdilaemengjipaaGreatDoorCA9
import Derived.Test.YtdilaemengjipaaGreatDoorCA8
import Derived.Test.YtdilaemengjipaaGreatDoorCA16
import Derived.Test.YtdilaemengjipaaGreatDoorCA4
import Derived.Test.YtdilaemengjipaaGreatDoorCA13
import Derived.Test.YtdilaemengjipaaGreatDoorCA1
set_option linter.unusedVariables false
set_option linter.unusedSimpArgs false
set_option linter.unusedSectionVars false
open Option renaming some->YH,none->YI
open Bool renaming true->YJ,false->YK
open Decidable renaming decide->YL
open Go.Proofs.Tryz
set_option maxHeartbeats 40000000
namespace Go.Proofs.YtdilaemengjipaaGreatDoor
open List renaming getElem?_eq_some_iff->VT,mem_of_getElem?->VV,getElem_of_mem->Wc,getElem?_eq_getElem->VU,getElem_mem->Wm,mem_append->Wl,mem_cons_self->Wp,mem_cons_of_mem->Wk,mem_cons->V1,mem_singleton->Wf,length_map->Wo,getElem?_map->Wj
open Option renaming bind_some->VS,map_eq_some_iff->Wb,map_some->WB
open Bool renaming and_eq_true->V6,not_eq_true'->WG
open Nat renaming le_refl->VX,zero_add->We
set_option maxRecDepth 10000
open Go.RowKit
variable {a b:Option Bool}{c:Prop}{i:Nat}{k u:Int}{n:aj}{s:bq}{t:av}{α:Type}
def rS(w:ax)(i:Nat)(t:av):Bool:=fV w.aa t&&!dx (w.ah.take i) t
def wL(w:ax)(i:Nat)(s:bq):Bool:=(cz w.aa s).getD YK&&!decide (w.now<s.aP)
def uC(w:ax):Int:=w.ae.foldl (λa o=>aI (a+(o.aG.length:Int))) 0
def ew(w:ax):Bool:=
 cn w.aa w.ar&&(YL (0<=w.now)&&YL (w.now<=100000))&&!decide (30<(w.ae.length:Int))&&!decide (20<(w.ah.length:Int))&&!decide (200<(w.aH.length:Int))&&!decide (50<(w.skip.length:Int))&&(YL ((w.aH.length:Int)<=w.bd)&&YL (w.bd<=1000000000)) &&
  allI (rS w) 0 w.ah&&allI (wL w) 0 w.aH&&allI (jR w) 0 w.ae&&YL (uC w=(w.ar.length:Int))
theorem wh(xs:List α)(i:Nat):cH xs 0 (i:Int)=xs.take i:=by rfl
section
variable {w:ax} (hf:qp w) (hb:cn w.aa w.ar=YJ)
include hf
theorem Ta(s:bq):cz w.aa s=YH ((cz w.aa s).getD YK):=by
 obtain⟨b,h⟩:=Ac hf.eO s
 grind
theorem Hm:aD (lT w) NN 0=YH (if allI (rS w) 0 w.ah=YJ then .inl ()else .inr YK):=by
 refine fD (A:=Unit) (λ_ i=>i) _ (λa _=>a) id (λa i t ht=>?_) (λa=>?_) (by have:=hf.ah;unfold NN;omega) ()
 ·have bU:=(VT.1 ht).1
  have tD:=hf.ah;have hg:aB w.ah (i:Int)=YH t:=by rw[aS];omega
  have hi:aI ((i:Int)+1)=((i+1:Nat):Int):=bE bU X9;have hs:bW (gg 0 (i:Int) w.ah.length)=YH ():=od Yy;unfold lT;simp only[hg,VS,uB hf.eO,wh,jX,jk (show(w.ah.take i).length<=1048576 by grind)]
  unfold rS;have Od:((w.ah.take i).any λy=>YL (y=t))=dx (w.ah.take i) t:=rfl
  grind
 ·unfold lT
  simp
theorem Hk(hb:cn w.aa w.ar=YJ):aD (lz w) NN 0=YH (if allI (rS w) 0 w.ah=YJ then .inl ()else .inr YK):=by
 have qj:=(dH hb).1;refine fD (A:=Unit) (λ_ i=>i) _ (λa _=>a) id (λa i t ht=>?_) (λa=>?_) (by have:=hf.ah;unfold NN;omega) ()
 ·have bU:=(VT.1 ht).1
  have tD:=hf.ah;have hg:aB w.ah (i:Int)=YH t:=by rw[aS];omega
  have hi:aI ((i:Int)+1)=((i+1:Nat):Int):=bE bU X9;have hs:bW (gg 0 (i:Int) w.ah.length)=YH ():=od Yy;unfold lz;simp only[x9 hf.eO qj,uB hf.eO,wh,jk (show(w.ah.take i).length<=1048576 by grind)]
  unfold rS;have Od:((w.ah.take i).any λy=>YL (y=t))=dx (w.ah.take i) t:=rfl
  grind
 ·unfold lz
  simp
theorem LQ:aD (lU w) NN 0=YH (if allI (wL w) 0 w.aH=YJ then .inl ()else .inr YK):=by
 refine fD (A:=Unit) (λ_ i=>i) _ (λa _=>a) id (λa i s hs=>?_) (λa=>?_) (by have:=hf.aH;unfold NN;omega) ()
 ·have bU:=(VT.1 hs).1
  have tD:=hf.aH;have hg:aB w.aH (i:Int)=YH s:=by rw[aS];omega
  have hi:aI ((i:Int)+1)=((i+1:Nat):Int):=bE bU X9;unfold lU;rw[X1 (show(i:Int)<w.aH.length by omega),hg]
  simp;rw[Ta hf s];unfold wL
  grind
 ·unfold lU
  simp
theorem LP:aD (lA w) NN 0=YH (if allI (wL w) 0 w.aH=YJ then .inl ()else .inr YK):=by
 refine fD (A:=Unit) (λ_ i=>i) _ (λa _=>a) id (λa i s hs=>?_) (λa=>?_) (by have:=hf.aH;unfold NN;omega) ()
 ·have bU:=(VT.1 hs).1
  have tD:=hf.aH;have hg:aB w.aH (i:Int)=YH s:=by rw[aS];omega
  have hi:aI ((i:Int)+1)=((i+1:Nat):Int):=bE bU X9;unfold lA;rw[X1 (show(i:Int)<w.aH.length by omega),hg]
  simp;rw[Ox hf.eO,Ta hf s];unfold wL
  grind
 ·unfold lA
  simp
include hb
theorem IY:aD (lV w) NN (0,0)=YH (if allI (jR w) 0 w.ae=YJ then .inl (uC w)else .inr YK):=by
 refine fD (A:=Int) (λa i=>(a,i)) _ (λa (o:az)=>aI (a+(o.aG.length:Int))) id (λa i o ho=>?_) (λa=>?_) (by have:=hf.ae;unfold NN;omega) 0
 ·have bU:=(VT.1 ho).1
  have tD:=hf.ae;have hg:aB w.ae (i:Int)=YH o:=by rw[aS];omega
  have hi:aI ((i:Int)+1)=((i+1:Nat):Int):=bE bU X9;unfold lV;simp only[LU hf hb hg]
  grind
 ·unfold lV
  simp
theorem IX:aD (lB w (ak w.aa)) NN (0,0)=YH (if allI (jR w) 0 w.ae=YJ then .inl (uC w)else .inr YK):=by
 refine fD (A:=Int) (λa i=>(a,i)) _ (λa (o:az)=>aI (a+(o.aG.length:Int))) id (λa i o ho=>?_) (λa=>?_) (by have:=hf.ae;unfold NN;omega) 0
 ·have bU:=(VT.1 ho).1
  have tD:=hf.ae;have hg:aB w.ae (i:Int)=YH o:=by rw[aS];omega
  have hi:aI ((i:Int)+1)=((i+1:Nat):Int):=bE bU X9;unfold lB;simp only[hi,KJ hf hb hg]
  grind
 ·unfold lB
  simp
end
theorem qb{w:ax}(hf:qp w):fA w=YH (ew w):=by
 unfold fA ew;rw[il hf.eO hf.ar];simp only[VS,cE]
 cases hb:cn w.aa w.ar with
 |false=>rfl
 |true=>
 cases YL (0<=w.now)&&YL (w.now<=100000)with
 |false=>rfl
 |true=>
 cases YL (30<(w.ae.length:Int))with
 |true=>rfl
 |false=>
 cases YL (20<(w.ah.length:Int))with
 |true=>rfl
 |false=>
 cases YL (200<(w.aH.length:Int))with
 |true=>rfl
 |false=>
 cases YL (50<(w.skip.length:Int))with
 |true=>rfl
 |false=>
 cases YL ((w.aH.length:Int)<=w.bd)&&YL (w.bd<=1000000000)with
 |false=>rfl
 |true=>
 rw[Hm hf,LQ hf,IY hf hb]
 grind
theorem sx{w:ax}(hf:qp w):gK w=YH (ew w):=by
 unfold gK ew;rw[vc hf.eO hf.ar,gE];simp only[cE]
 cases hb:cn w.aa w.ar with
 |false=>rfl
 |true=>
 cases YL (0<=w.now)&&YL (w.now<=100000)with
 |false=>rfl
 |true=>
 cases YL (30<(w.ae.length:Int))with
 |true=>rfl
 |false=>
 cases YL (20<(w.ah.length:Int))with
 |true=>rfl
 |false=>
 cases YL (200<(w.aH.length:Int))with
 |true=>rfl
 |false=>
 cases YL (50<(w.skip.length:Int))with
 |true=>rfl
 |false=>
 cases YL ((w.aH.length:Int)<=w.bd)&&YL (w.bd<=1000000000)with
 |false=>rfl
 |true=>
 rw[Hk hf hb,LP hf,Aa hf.eO];simp;rw[IX hf hb]
 grind
theorem qh{w:ax}(h:ew w=YJ){o:az}(ho:w.ae[i]?=YH o):jR w i o=true:=by
 unfold ew at h
 simp at h
 have:=cB.1 h.1.2 i o ho
 grind
theorem Ap{w:ax}(h:ew w=YJ):cn w.aa w.ar=true:=by
 unfold ew at h
 grind
structure ZaR(l:bK):Prop where
 start:0<=l.start/\l.start<=1439
 mP:1<=l.mP/\l.mP<=4320
 iU:0<=l.iU/\l.iU<=1000000
theorem RQ{l:bK}(h:Co l)(hv:fq l=YH YJ):ZaR l:=by
 obtain⟨_,b1,s1⟩:=l7 (s:=l.au) h.1;obtain⟨_,b2,s2⟩:=l7 (s:=l.a8) h.2;unfold fq at hv
 rw[s1,s2]at hv
 simp only[VS,cE]at hv
 cases b1 with
 |false=>grind
 |true=>
 cases b2 with
 |false=>grind
 |true=>
 cases h1:YL (l.au=l.a8)with
 |true=>grind
 |false=>
 rw[h1]at hv
 cases h2:YL (0<=l.start)&&YL (l.start<=1439)with
 |false=>grind
 |true=>
 rw[h2]at hv
 cases h3:YL (1<=l.mP)&&YL (l.mP<=4320)with
 |false=>grind
 |true=>
 rw[h3]at hv
 cases h4:YL (1<=l.uK)&&YL (l.uK<=127)with
 |false=>grind
 |true=>
 rw[h4]at hv
 cases h5:YL (0<=l.iU)&&YL (l.iU<=1000000)with
 |false=>grind
 |true=>
 simp only[V6,X7]at h2 h3 h5
 exact⟨h2,h3,h5⟩
theorem ym(h:cO n)(hn:aV n=YH YJ):∀l∈n.aA,ZaR l:=by
 have e:aD (bX n) NN 0=YH (if allI (λ_ l=>(fq l).getD YK) 0 n.aA=YJ then .inl ()else .inr YK):=by
  refine fD (A:=Unit) (λ_ i=>i) _ (λa _=>a) id (λa i l hl=>?_) (λa=>?_) (by have:=h.aA;unfold NN;omega) ()
  ·have bU:=(VT.1 hl).1
   have tD:=h.aA;have hg:aB n.aA (i:Int)=YH l:=by rw[aS];omega
   have hi:aI ((i:Int)+1)=((i+1:Nat):Int):=bE bU X9;obtain⟨_,b,hb⟩:=x6 (h.bD l (VV hl));unfold bX
   grind
  ·unfold bX
   simp
 unfold aV at hn
 by_cases ha:allI (λ_ l=>(fq l).getD YK) 0 n.aA=YJ
 ·intro l hl
  obtain⟨i,hi,rfl⟩:=Wc hl;have:=cB.1 ha i _ (VU hi);obtain⟨_,b,hb⟩:=x6 (h.bD _ (Wm hi));rw[hb]at this
  subst this;exact RQ (h.bD _ (Wm hi)) hb
 grind
theorem Dd(ht:fV n t=YJ):0<=t.day/\t.day<=60:=by
 unfold fV cA at ht
 rw[cE,cE]at ht
 grind
def cM(n:aj)(t:av):Int:=(bp n t).getD 0
def dF(n:aj)(t:av):Int:=(bl n t).getD 0
theorem cR(h:cO n)(hn:aV n=YH YJ)(ht:fV n t=YJ):
 bp n t=YH (cM n t)/\bl n t=YH (dF n t)/\0<=cM n t/\cM n t<dF n t/\dF n t<=100000:=by
 obtain⟨y,hy,hm⟩:=fa h ht;obtain⟨d0,d1⟩:=Dd ht;have hl:=ym h hn y hm;obtain⟨a0,a1⟩:=hl.start;obtain⟨b0,b1⟩:=hl.mP;have e1:bp n t=YH (t.day*1440+y.start):=by
  unfold bp;rw[hy];simp;rw[aR (n:=t.day*1440) X9,aR X9]
 have e2:bl n t=YH (t.day*1440+y.start+y.mP):=by
  unfold bl;rw[e1,hy];simp;rw[aR X9]
 have s1:cM n t=t.day*1440+y.start:=by unfold cM;grind
 have s2:dF n t=t.day*1440+y.start+y.mP:=by unfold dF;grind
 grind
theorem JH{o:az}{now:Int}(h:cb n o now=YH YJ):(o.state=1/\¬(o.place=o.a8))\/(o.state=2/\o.aN<o.aG.length)\/(o.state=3/\o.aN=o.aG.length/\0<o.aN):=by
 by_cases h1:o.state=1
 ·unfold cb at h
  cases h0:YL (0<o.aN)with
  |false=>
   grind
  |true=>
   rw[h0]at h
   simp at h
   cases hg:aB o.aG (aI (o.aN-1))with
   |none=>grind
   |some y1=>
    rw[hg]at h
    simp at h
    cases hl:aB n.aA y1.bD with
    |none=>grind
    |some y2=>
     rw[hl]at h
     simp at h
     cases he:bl n y1 with
     |none=>grind
     |some v=>
      grind
 ·by_cases h2:o.state=2
  ·rcases Classical.em (o.aN<o.aG.length)with bU|bU
   ·omega
   unfold cb at h
   rw[X2 bU]at h
   cases h0:YL (0<o.aN)with
   |false=>
    grind
   |true=>
    rw[h0]at h
    simp at h
    cases hg:aB o.aG (aI (o.aN-1))with
    |none=>grind
    |some y1=>
     rw[hg]at h
     simp at h
     cases hl:aB n.aA y1.bD with
     |none=>grind
     |some y2=>
      rw[hl]at h
      simp at h
      cases he:bl n y1 with
      |none=>grind
      |some v=>
       grind
  ·by_cases h3:o.state=3
   ·rcases Classical.em (o.aN=o.aG.length/\0<o.aN)with bU|bU
    ·omega
    unfold cb at h
    rw[X1 h3]at h
    cases h0:YL (0<o.aN)with
    |false=>
     grind
    |true=>
     have iq:¬o.aN=(o.aG.length:Int):=λe=>bU ⟨e,X3 h0⟩
     rw[X2 iq]at h
     simp at h
     cases hg:aB o.aG (aI (o.aN-1))with
     |none=>grind
     |some y1=>
      rw[hg]at h
      simp at h
      cases hl:aB n.aA y1.bD with
      |none=>grind
      |some y2=>
       rw[hl]at h
       simp at h
       cases he:bl n y1 with
       |none=>grind
       |some v=>
        grind
   ·unfold cb at h
    cases h0:YL (0<o.aN)with
    |false=>grind
    |true=>
     rw[h0]at h
     simp at h
     cases hg:aB o.aG (aI (o.aN-1))with
     |none=>grind
     |some y1=>
      rw[hg]at h
      simp at h
      cases hl:aB n.aA y1.bD with
      |none=>grind
      |some y2=>
       rw[hl]at h
       simp at h
       cases he:bl n y1 with
       |none=>grind
       |some v=>
        grind
structure Fc(w:ax)(i:Nat)(o:az):Prop where
 aN:0<=o.aN/\o.aN<=o.aG.length
 bj:∀t∈o.aG,fV w.aa t=YJ
 aG:allI (tY w ((i+1:Nat):Int) o) 0 o.aG=YJ
 Za8:eK w.aa o.aG o.au (Av w.aa o) (aI (o.aP+1))=YH YJ
 st:cb w.aa o w.now=YH YJ
 cases:(o.state=1/\¬(o.place=o.a8))\/(o.state=2/\o.aN<o.aG.length)\/(o.state=3/\o.aN=o.aG.length/\0<o.aN)
 open_:((o.aG.drop (bb o).toNat).any (dx w.ah))=YK
 ZbM:¬o.au=o.a8
 aP:0<=o.aP/\o.aP<=w.now
 dW:0<=o.dW/\o.dW<=200000
theorem IW{w:ax}(hf:qp w){o:az}(hl:o.aG.length<=1048576)(h:jR w i o=YJ):Fc w i o:=by
 unfold jR at h
 simp only[V6,WG,X7,X8]at h
 obtain⟨⟨⟨⟨⟨⟨⟨⟨⟨⟨⟨h1,h2⟩,h3⟩,h4⟩,h5⟩,h6⟩,h7⟩,h8⟩,h9⟩,wm⟩,Eb⟩,TC⟩:=h;have ht:∀t∈o.aG,fV w.aa t=true:=by
  intro t ht;obtain⟨j,hj,rfl⟩:=Wc ht;have:=cB.1 h9 j _ (VU hj);unfold tY at this
  grind
 obtain⟨r,hr⟩:=w7 hf.eO hl o.au (Av w.aa o) (aI (o.aP+1));obtain⟨b,hb⟩:=C6 (n:=w.aa) h8 hl (λt htt=>by obtain⟨y,hy,_⟩:=fa hf.eO (ht t htt);grind) w.now
 rw[hr]at wm
 rw[hb]at Eb
 subst wm Eb;exact⟨h8,ht,h9,hr,hb,JH hb,TC,h3,h6,h7⟩
section
variable {w:ax} (hf:qp w) (hv:ew w=YJ)
include hf hv
theorem mQ{o:az}(ho:w.ae[i]?=YH o):Fc w i o:=IW hf (hf.aG o (VV ho)) (qh hv ho)
theorem E8:aV w.aa=YH true:=(dH (Ap hv)).1
theorem Dg{o:az}(ho:w.ae[i]?=YH o)(h0:0<=k)(h1:k<o.aG.length):∃t,aB o.aG k=YH t/\fV w.aa t=true:=by
 have bU:k.toNat<o.aG.length:=X9;exact⟨o.aG[k.toNat],by unfold aB;grind,(mQ hf hv ho).bj _ (Wm bU)⟩
theorem Vp:gw w=(aD (ib w) NN (0,(-1))).bind (λo0=>YH o0):=by
 have qj:=E8 hf hv;have Oj:=hf.ae
 let F:Nat->Int->az->Option (Int⊕Int):=λ_ a o=>
  if o.aN=o.aG.length then YH (.inl a)else(aB o.aG o.aN).bind λt=>
   let v:=if o.state=2 then dF w.aa t else cM w.aa t
   YH (.inl (if a<0\/v<a then v else a))
 have e1:aD (fb w) NN ((-1),0)=tV F YH 0 w.ae (-1):=by
  refine qT (A:=Int) (λa i=>(a,i)) F YH (λa i o ho=>?_) (λa=>?_) Yc (-1)
  ·have bU:=(VT.1 ho).1
   have hg:aB w.ae (i:Int)=YH o:=by rw[aS];omega
   have hi:aI ((i:Int)+1)=((i+1:Nat):Int):=bE bU X9;have hok:=mQ hf hv ho;unfold fb;simp only[hg,VS,qf,rU]
   by_cases uQ:o.aN<o.aG.length
   ·obtain⟨t,htg,yP⟩:=Dg hf hv ho hok.aN.1 uQ
    obtain⟨t1,t2,t3,t4,t5⟩:=cR hf.eO qj yP;rw[htg];simp
    rcases hok.cases with⟨c1,_⟩ |⟨c1,_⟩ |⟨c1,c2,_⟩
    all_goals grind
   ·have yM:=hok.aN.2
    rw[X2 uQ]
    rcases hok.cases with⟨c1,_⟩ |⟨c1,_⟩ |⟨c1,c2,_⟩
    all_goals grind
  ·unfold fb
   simp
 have e2:aD (ib w) NN (0,(-1))=tV F YH 0 w.ae (-1):=by
  refine qT (A:=Int) (λa i=>(i,a)) F YH (λa i o ho=>?_) (λa=>?_) Yc (-1)
  ·have bU:=(VT.1 ho).1
   have hg:aB w.ae (i:Int)=YH o:=by rw[aS];omega
   have hi:aI ((i:Int)+1)=((i+1:Nat):Int):=bE bU X9;have hok:=mQ hf hv ho;unfold ib;simp
   by_cases uQ:o.aN<o.aG.length
   ·obtain⟨t,htg,yP⟩:=Dg hf hv ho hok.aN.1 uQ
    obtain⟨t1,t2,t3,t4,t5⟩:=cR hf.eO qj yP
    grind
   ·have yM:=hok.aN.2
    grind
  ·unfold ib
   simp
 unfold gw
 grind
end
theorem JI{w:ax}(hf:qp w)(hv:ew w=YJ){o:az}(ho:w.ae[i]?=YH o):∃b,fT w o=YH b/\kG w (i:Int)=YH b/\(b=YK->0<o.aG.length):=by
 have hok:=mQ hf hv ho;have hl:=hf.aG o (VV ho);obtain⟨c1,c2,c3⟩:=sR hok.aN hl;have hg:aB w.ae (i:Int)=YH o:=by rw[aS];omega
 unfold fT kG;rw[hg];simp only[VS]
 rcases hok.cases with⟨k1,k2⟩ |⟨k1,k2⟩ |⟨k1,k2,k3⟩
 ·have zj:bb o=o.aN:=by unfold bb;omega
  have yM:=hok.aN;have hh:eU w.aa o=YH o.place:=by unfold eU;grind
  rw[Mz,c3,zj]
  by_cases uQ:o.aN=o.aG.length
  ·simp_all
  ·exact⟨YK,by grind,by grind,λ_=>X9⟩
 ·have zj:bb o=o.aN+1:=by unfold bb;omega
  have yM:=hok.aN;obtain⟨t,htg,yP⟩:=Dg hf hv ho hok.aN.1 k2;obtain⟨y,hy,_⟩:=fa hf.eO yP;have hh:eU w.aa o=YH y.a8:=by unfold eU;grind
  rw[Mz,hh,c1,c3,zj,if_neg (show ¬(o.aG.length:Int)<o.aN+1 by omega),k1]
  simp only[VS]
  cases YL (o.aN+1=(o.aG.length:Int))with
  |true=>grind
  |false=>grind
 simp_all
theorem vU{σ ο:Type}{body:σ->Option (σ⊕ο)}{P:ο->Prop}(h:∀s o,body s=YH (.inr o)->P o):∀(N:Nat) (s:σ) (o:ο),aD body N s=YH o->P o
 |0,s,o,he=>by simp[aD]at he
 |N+1,s,o,he=>by
  simp only[aD]at he
  cases hb:body s with
  |none=>grind
  |some x=>
   rw[hb]at he
   cases x with
   |inl s'=>exact vU h N s' o he
   |inr r=>grind
theorem MO(hn:aV n=YH YJ):(0<=n.change/\n.change<=240)/\n.aA.length<=20/\n.off.length<=10:=by
 unfold aV at hn
 have p0:∀(N:Nat) (s:Int) (o:Unit⊕Bool),aD (bX n) N s=YH o->o=.inl ()\/o=.inr false:=by
  refine vU λs o h=>?_
  unfold bX at h
  cases hd:YL (s<(n.aA.length:Int))with
  |false=>grind
  |true=>
   cases hg:aB n.aA s with
   |none=>grind
   |some y=>
    cases hl:fq y with
    |none=>simp_all
    |some b=>grind
 have p1:∀(N:Nat) (s:Int) (o:Unit⊕Bool),aD (bY n) N s=YH o->o=.inl ()\/o=.inr false:=by
  refine vU λs o h=>?_
  unfold bY at h
  cases hd:YL (s<(n.off.length:Int))with
  |false=>grind
  |true=>
   cases hg:aB n.off s with
   |none=>grind
   |some y=>
    rw[hg,VS,cE]at h
    cases hb:YL (0<=y)&&YL (y<=60)with
    |false=>grind
    |true=>
     cases hs:YL (0<s)with
     |false=>simp_all
     |true=>
      rw[hs]at h
      simp at h
      cases UJ:aB n.off (aI (s-1))with
      |none=>simp_all
      |some z=>
       grind
 cases h0:aD (bX n) NN 0 with
 |none=>grind
 |some r0=>
 rcases p0 _ _ _ h0 with rfl|rfl
 ·cases h1:aD (bY n) NN 0 with
  |none=>simp_all
  |some r1=>
  rw[h1]at hn
  rcases p1 _ _ _ h1 with rfl|rfl
  ·simp only[cE]at hn
   grind
  simp_all
 grind
theorem kI(hn:aV n=YH YJ):0<=n.change/\n.change<=240:=(MO hn).1
theorem rD(hn:aV n=YH YJ):n.aA.length<=20:=(MO hn).2.1
def mi(n:aj)(t:av):ByteArray:=((aB n.aA t.bD).map (·.au)).getD ⟨#[]⟩
def iE(n:aj):ByteArray->Int->List av->Prop
 |_,_,[]=>True
 |p,a,t::ts=>fV n t=YJ/\mi n t=p/\a<=cM n t/\iE n (cg n t) (dF n t+n.change) ts
theorem x8(h:cO n)(hn:aV n=YH YJ)(t:av):dC n t=YH (fV n t):=by
 rw[<-(qS h t).1,x9 h hn,uB h]
theorem Ad(hf:cO n)(hn:aV n=YH YJ){aG:List av}(hl:aG.length<=1048576){a b:ByteArray}{t:Int}(h:eK n aG a b t=YH YJ):iE n a t aG:=by
 obtain⟨ch0,ch1⟩:=kI hn;have wq:=ff n;have Il:=hf.aA
 let F:Nat->ByteArray×Int->av->Option ((ByteArray×Int)⊕(ByteArray⊕Bool)):=λ_ p t=>
  YH (if fV n t=YJ/\mi n t=p.1/\p.2<=cM n t then .inl (cg n t,dF n t+n.change)else .inr (.inr YK))
 have e1:aD (dn n aG b) NN (a,t,0)=tV F (λp=>YH (.inl p.1)) 0 aG (a,t):=by
  refine qT (A:=ByteArray×Int) (λp i=>(p.1,p.2,i)) F (λp=>YH (.inl p.1)) (λp i x hx=>?_) (λp=>?_) Yc (a,t)
  ·have bU:=(VT.1 hx).1
   have hg:aB aG (i:Int)=YH x:=by rw[aS];omega
   have hi:aI ((i:Int)+1)=((i+1:Nat):Int):=bE bU X9;unfold dn;simp only[X1 (show(i:Int)<aG.length by omega),hg,VS,x8 hf hn,F]
   cases ht:fV n x with
   |false=>rfl
   |true=>
    obtain⟨y,hy,_⟩:=fa hf ht;obtain⟨t1,t2,t3,t4,t5⟩:=cR hf hn ht;have f1:mi n x=y.au:=by unfold mi;simp_all
    have f2:cg n x=y.a8:=by unfold cg;simp_all
    have hw:aI (dF n x+n.change)=dF n x+n.change:=aR X9
    grind
  ·unfold dn
   simp
 have key:∀(ts:List av) (i:Nat) (p:ByteArray×Int) (r:ByteArray),tV F (λp=>YH (.inl p.1)) i ts p=YH (.inl r)->iE n p.1 p.2 ts:=by
  intro ts
  induction ts with
  |nil=>intro i p r h;trivial
  |cons x ts ih=>
   intro i p r h;simp only[tV,F]at h
   by_cases hc:fV n x=YJ/\mi n x=p.1/\p.2<=cM n x
   ·rw[if_pos hc]at h
    exact⟨hc.1,hc.2.1,hc.2.2,ih (i+1) (cg n x,dF n x+n.change) r h⟩
   simp_all
 unfold eK at h
 rw[(dh hf).2,hn]at h
 simp only[VS,oN (show(ak n).length<=4194304 by omega)]at h
 cases h1:YL (bf (ak n) a<0)with
 |true=>simp_all
 |false=>
 cases h2:YL (bf (ak n) b<0)with
 |true=>simp_all
 |false=>
 rw[h2]at h
 cases hr:tV F (λp=>YH (.inl p.1)) 0 aG (a,t)with
 |none=>simp_all
 |some r=>
  cases r with
  |inl r=>grind
  |inr v=>
   exfalso;have:∀(ts:List av) (i:Nat) (p:ByteArray×Int) (v:Bool),tV F (λp=>YH (.inl p.1)) i ts p=YH (.inr v)->v=false:=by
    intro ts
    induction ts with
    |nil=>intro i p v h;cases h
    |cons x ts ih=>
     intro i p v h;simp only[tV]at h
     grind
   simp_all
theorem BF{n:aj}:∀{ts:List av} {p:ByteArray} {a:Int} {i:Nat} {t:av},iE n p a ts->ts[i]?=YH t->fV n t=YJ/\∀t',ts[i+1]?=YH t'->dF n t+n.change<=cM n t'/\mi n t'=cg n t
 | [],_,_,_,_,_,h=>by grind
 |x::ts,p,a,0,t,hc,h=>by
  obtain rfl:x=t:=by grind
  refine⟨hc.1,λt' h'=>?_⟩
  cases ts with
  |nil=>grind
  |cons y ts=>obtain rfl:y=t':=by grind
              exact⟨hc.2.2.2.2.2.1,hc.2.2.2.2.1⟩
 |x::ts,p,a,i+1,t,hc,h=>by
  have h':ts[i]?=YH t:=by grind
  have:=BF hc.2.2.2 h'
  grind
def pn(n:aj)(o:az):ByteArray:=if 0<o.aN then((o.aG[(o.aN-1).toNat]?).map (cg n)).getD ⟨#[]⟩else o.au
structure mX(n:aj)(o:az)(now:Int):Prop where
 past:∀t,0<o.aN->o.aG[(o.aN-1).toNat]?=YH t->dF n t<=now
 cases:(o.state=1/\o.place=pn n o/\¬pn n o=o.a8/\o.bB=0/\∀t,o.aG[o.aN.toNat]?=YH t->now<cM n t)\/
  (o.state=2/\o.place=⟨#[]⟩/\o.bB=0/\∃t,o.aG[o.aN.toNat]?=YH t/\cM n t<=now/\now<dF n t)\/
  (o.state=3/\o.place=o.a8/\pn n o=o.a8/\o.aN=o.aG.length/\0<o.aN/\∀t,o.aG[(o.aN-1).toNat]?=YH t->o.bB=dF n t)
theorem vP[Decidable c]:cond (YL c) a b=YH YJ↔(c/\a=YH YJ)\/(¬c/\b=YH YJ):=by
 grind
theorem wS[Decidable c]:cond (!decide c) a b=YH YJ↔(¬c/\a=YH YJ)\/(c/\b=YH YJ):=by
 grind
theorem tW(hf:cO n)(hn:aV n=YH YJ){o:az}(hg:0<=o.aN/\o.aN<=o.aG.length)(hl:o.aG.length<=1048576)(ht:∀t∈o.aG,fV n t=YJ)(now:Int):cb n o now=YH YJ↔mX n o now:=by
 have wY:aI (o.aN-1)=o.aN-1:=aR X9;have nx:(∃t,o.aN<o.aG.length/\aB o.aG o.aN=YH t/\o.aG[o.aN.toNat]?=YH t/\bp n t=YH (cM n t)/\bl n t=YH (dF n t))\/(o.aN=o.aG.length/\o.aG[o.aN.toNat]?=YI):=by
  by_cases h:o.aN<o.aG.length
  ·have bU:o.aN.toNat<o.aG.length:=X9
   obtain⟨t1,t2,_⟩:=cR hf hn (ht _ (Wm bU));exact .inl ⟨o.aG[o.aN.toNat],h,by unfold aB;simp_all,VU bU,t1,t2⟩
  grind
 unfold cb;rw[wY]
 by_cases h0:0<o.aN
 ·have bU:(o.aN-1).toNat<o.aG.length:=X9
  obtain⟨p,hp,UQ⟩:∃p,aB o.aG (o.aN-1)=YH p/\o.aG[(o.aN-1).toNat]?=YH p:=⟨o.aG[(o.aN-1).toNat],by unfold aB;rw[if_pos X9];simp,VU bU⟩
  have hpt:=ht p (VV UQ);obtain⟨y,hy,_⟩:=fa hf hpt;obtain⟨t1,t2,t3,t4,t5⟩:=cR hf hn hpt;have hh:pn n o=y.a8:=by unfold pn;rw[if_pos h0,UQ];simp[cg,hy]
  rcases nx with⟨t,n1,n2,n3,n4,n5⟩ |⟨n1,n3⟩
  ·have ng:¬o.aN=o.aG.length:=X9
   simp only[hp,hy,t2,n2,n4,VS,vP,wS];constructor
   ·intro h
    refine⟨λq _ hq=>?_,?_⟩
    ·simp_all
    ·simp
     by_cases s1:o.state=1<;>by_cases s2:o.state=2<;>by_cases s3:o.state=3<;>simp_all
   ·rintro⟨k1,k2⟩
    have k1':=k1 p h0 UQ;simp at k2
    have:¬now<dF n p:=X9
    rcases k2 with k|k|k<;>simp_all
  ·simp only[hp,hy,t2,VS,vP,wS]
   constructor
   ·intro h
    refine⟨λq _ hq=>?_,?_⟩
    ·simp_all
    ·rw[hh];simp
     by_cases s1:o.state=1<;>by_cases s2:o.state=2<;>by_cases s3:o.state=3<;>simp_all
   ·rintro⟨k1,k2⟩
    have k1':=k1 p h0 UQ;rw[hh]at k2;simp at k2
    have:¬now<dF n p:=X9
    rcases k2 with k|k|k<;>simp_all
 ·have hh:pn n o=o.au:=by unfold pn;grind
  rcases nx with⟨t,n1,n2,n3,n4,n5⟩ |⟨n1,n3⟩
  ·have ng:¬o.aN=o.aG.length:=X9
   simp only[vP,Option.some.injEq];constructor
   ·intro h
    refine⟨λq hq=>absurd hq h0,?_⟩
    grind
   ·rintro⟨k1,k2⟩
    simp at k2
    rcases k2 with k|k|k<;>simp_all
  ·simp only[vP,wS]
   constructor
   ·intro h
    refine⟨λq hq=>absurd hq h0,?_⟩
    simp_all
   ·rintro⟨k1,k2⟩
    simp_all
def dY(n:aj)(o:az):Option Int:=(o.aG[o.aN.toNat]?).map λt=>if o.state=2 then dF n t else cM n t
def Bp(n:aj)(aP:Int)(o:az)(t:av):az:=
 if cg n t=o.a8 then { o with aN:=o.aN+1,state:=3,place:=cg n t,bB:=aP}else { o with aN:=o.aN+1,state:=1,place:=cg n t}
def cy(n:aj)(aP:Int)(o:az):az:=match o.aG[o.aN.toNat]? with
 |some t=>if o.state=2/\dF n t=aP then Bp n aP o t else o
 |none=>o
def nV(n:aj)(aP:Int)(o:az):az:=match o.aG[o.aN.toNat]? with
 |some t=>if o.state=1/\cM n t=aP then { o with state:=2,place:=⟨#[]⟩}else o
 |none=>o
structure tn(n:aj)(o:az):Prop where
 aN:0<=o.aN/\o.aN<=o.aG.length
 bj:∀t∈o.aG,0<=cM n t/\cM n t<dF n t/\dF n t<=100000
 next:∀(i:Nat) t t',o.aG[i]?=YH t->o.aG[i+1]?=YH t'->dF n t<=cM n t'
 last:∀(i:Nat) t,o.aG[i]?=YH t->cg n t=o.a8->i+1=o.aG.length
structure qn(o o':az):Prop where
 au:o'.au=o.au
 a8:o'.a8=o.a8
 ay:o'.ay=o.ay
 ab:o'.ab=o.ab
 aP:o'.aP=o.aP
 dW:o'.dW=o.dW
 aG:o'.aG=o.aG
theorem qn.refl(o:az):qn o o:=⟨rfl,rfl,rfl,rfl,rfl,rfl,rfl⟩
theorem qn.trans{a b c:az}(h:qn a b)(k:qn b c):qn a c:=⟨k.1.trans h.1,k.2.trans h.2,k.3.trans h.3,k.4.trans h.4,k.5.trans h.5,k.6.trans h.6,k.7.trans h.7⟩
theorem uY(n:aj)(aP:Int)(o:az):qn o (cy n aP o):=by
 unfold cy Bp
 split
 ·split
  ·split<;>exact⟨rfl,rfl,rfl,rfl,rfl,rfl,rfl⟩
  ·exact .refl o
 ·exact .refl o
theorem OI(n:aj)(aP:Int)(o:az):qn o (nV n aP o):=by
 unfold nV
 split
 ·split
  ·exact⟨rfl,rfl,rfl,rfl,rfl,rfl,rfl⟩
  ·exact .refl o
 ·exact .refl o
def pI(n:aj)(aP:Int)(o:az):az:=nV n aP (cy n aP o)
theorem tX(n:aj)(aP:Int)(o:az):qn o (pI n aP o):=(uY n aP o).trans (OI n aP _)
theorem tn.same{o o':az}(h:tn n o)(k:qn o o')(hg:0<=o'.aN/\o'.aN<=o.aG.length):tn n o':=
 ⟨by rw[k.aG];omega,by rw[k.aG];exact h.bj,by rw[k.aG];exact h.next,by rw[k.aG,k.a8];exact h.last⟩
def iX(o:az):Nat:=2*(o.aG.length-o.aN.toNat)-(if o.state=2 then 1 else 0)
structure Ff(n:aj)(o:az)(aP:Int):Prop where
 ok:mX n o aP
 aN:0<=o.aN/\o.aN<=o.aG.length
 next:∀e,dY n o=YH e->aP<e
theorem qW{o:az}{aP:Int}(h:mX n o aP)(hg:0<=o.aN/\o.aN<=o.aG.length):Ff n o aP:=by
 refine⟨h,hg,λe he=>?_⟩
 unfold dY at he
 rcases h.cases with⟨c,_,_,_,k⟩ |⟨c,_,_,t,k1,_,k3⟩ |⟨c,_,_,k,_,_⟩
 all_goals grind
theorem ML{o:az}{aP:Int}(hw:tn n o)(hp:∀t,0<o.aN->o.aG[(o.aN-1).toNat]?=YH t->dF n t<=aP)
 (hs:o.state=1) (h1:o.place=pn n o) (h2:¬pn n o=o.a8) (h3:o.bB=0) (h4:∀t,o.aG[o.aN.toNat]?=YH t->aP<=cM n t):
 Ff n (nV n aP o) aP/\iX (nV n aP o)<=iX o/\((∃t,o.aG[o.aN.toNat]?=YH t/\cM n t=aP)->iX (nV n aP o)<iX o):=by
 unfold nV
 cases ht:o.aG[o.aN.toNat]? with
 |none=>
  refine⟨qW ⟨hp,.inl ⟨hs,h1,h2,h3,λt h=>?_⟩⟩ hw.aN,VX _,λ⟨t,h,_⟩=>?_⟩
  all_goals grind
 |some t=>
  have bU:=(VT.1 ht).1;obtain⟨a1,a2,a3⟩:=hw.bj t (VV ht)
  by_cases uL:cM n t=aP
  ·simp only[hs,uL]
   refine⟨qW ⟨λq hq=>?_,.inr (.inl ⟨rfl,rfl,h3,t,ht,X9,X9⟩)⟩ hw.aN,?_,λ_=>?_⟩
   ·grind
   ·unfold iX;simp_all
   ·unfold iX;simp only[hs];simp;omega
  ·have hng:¬(o.state=1/\cM n t=aP):=λh=>uL h.2
   simp only[if_neg hng];refine⟨qW ⟨hp,.inl ⟨hs,h1,h2,h3,λq hq=>?_⟩⟩ hw.aN,VX _,λ⟨q,hq,hq2⟩=>?_⟩
   all_goals grind
theorem w8{o:az}{aP:Int}(hs:¬o.state=1):nV n aP o=o:=by
 unfold nV
 grind
theorem step_ok{o:az}{now aP:Int}(hw:tn n o)(h:mX n o now)(hn:now<=aP)(he:∀e,dY n o=YH e->aP<=e):
 Ff n (pI n aP o) aP/\tn n (pI n aP o)/\iX (pI n aP o)<=iX o/\(dY n o=YH aP->iX (pI n aP o)<iX o):=by
 have hg:=hw.aN;have main:Ff n (pI n aP o) aP/\iX (pI n aP o)<=iX o/\(dY n o=YH aP->iX (pI n aP o)<iX o):=by
  unfold pI
  rcases h.cases with⟨c1,c2,c3,c4,c5⟩ |⟨c1,c2,c3,t,c4,c5,c6⟩ |⟨c1,c2,c3,c4,c5,c6⟩
  ·have e1:cy n aP o=o:=by
    unfold cy
    grind
   rw[e1];have h4:∀t,o.aG[o.aN.toNat]?=YH t->aP<=cM n t:=λt ht=>he _ YG
   obtain⟨a,b,c⟩:=ML hw (λt h1 h2=>by have:=h.past t h1 h2;omega) c1 c2 c3 c4 h4
   refine⟨a,b,λhev=>c ?_⟩
   unfold dY at hev
   grind
  ·have he':=he (dF n t) YG
   by_cases hx:dF n t=aP
   ·have e1:cy n aP o=Bp n aP o t:=by unfold cy;grind
    rw[e1];have hgn:(o.aN+1-1).toNat=o.aN.toNat:=X9;have hgs:(o.aN+1).toNat=o.aN.toNat+1:=X9;unfold Bp
    by_cases hd:cg n t=o.a8
    ·have hlen:=hw.last _ t c4 hd
     rw[if_pos hd,w8 Ye];have hh:pn n { o with aN:=o.aN+1,state:=3,place:=cg n t,bB:=aP}=cg n t:=by
      unfold pn;grind
     refine⟨qW ⟨λq _ hq=>?_,.inr (.inr ⟨rfl,hd,hh.trans hd,by grind,by grind,λq hq=>?_⟩)⟩ Yd,?_,λ_=>?_⟩
     ·grind
     ·grind
     ·unfold iX;grind
     ·unfold iX;grind
    ·rw[if_neg hd]
     have hh:pn n { o with aN:=o.aN+1,state:=1,place:=cg n t}=cg n t:=by
      unfold pn;grind
     have hw':tn n { o with aN:=o.aN+1,state:=1,place:=cg n t}:=hw.same ⟨rfl,rfl,rfl,rfl,rfl,rfl,rfl⟩ Yd
     obtain⟨a,b,c⟩:=ML (aP:=aP) hw' (λq _ hq=>by grind) rfl hh.symm Yd c3 (λq hq=>by
      simp only[hgs]at hq
      have:=hw.next _ t q c4 hq;omega)
     have hb:iX { o with aN:=o.aN+1,state:=1,place:=cg n t} < iX o:=by unfold iX;grind
     grind
   ·have e1:cy n aP o=o:=by unfold cy;grind
    rw[e1,w8 X9];refine⟨qW ⟨λq h1 h2=>by have:=h.past q h1 h2;omega,.inr (.inl ⟨c1,c2,c3,t,c4,X9,X9⟩)⟩ hg,VX _,λhev=>?_⟩
    unfold dY at hev
    grind
  ·have e1:cy n aP o=o:=by unfold cy;grind
   rw[e1,w8 X9];refine⟨qW ⟨λq h1 h2=>by have:=h.past q h1 h2;omega,.inr (.inr ⟨c1,c2,c3,c4,c5,c6⟩)⟩ hg,VX _,λhev=>?_⟩
   unfold dY at hev
   grind
 have hs:=tX n aP o;exact⟨main.1,hw.same hs (by have:=main.1.aN;rw[hs.aG]at this;omega),main.2⟩
theorem PK{o:az}(hw:tn n o){now:Int}(h:mX n o now)(h0:iX o=0):dY n o=none:=by
 unfold dY
 rcases h.cases with⟨c,_⟩ |⟨c,_,_,t,k1,_⟩ |⟨c,_,_,k,_⟩
 ·unfold iX at h0;grind
 ·unfold iX at h0;grind
 grind
theorem Di{w:ax}(hf:qp w)(hv:ew w=YJ)(hs:s∈w.aH):cz w.aa s=YH YJ/\s.aP<=w.now:=by
 unfold ew at hv
 simp at hv
 obtain⟨j,hj,rfl⟩:=Wc hs;have:=cB.1 hv.1.1.2 j _ (VU hj);unfold wL at this
 obtain⟨b,hb⟩:=Ac hf.eO w.aH[j]
 grind
def nS(skip:List Int)(p:List bq×Int)(s:bq):List bq×Int:=
 let m:=if p.2<1000000000 then p.2+1 else p.2
 (if(skip.any λy=>YL (y=m))=YK/\p.1.length<200 then p.1++[s]else p.1,m)
def im(n:aj)(aP:Int)(i:Nat)(o:az):List bq:=match o.aG[o.aN.toNat]? with
 |some t=>if o.state=2/\dF n t=aP then⟨((i+1:Nat):Int),aP,2,⟨#[]⟩,t⟩::(if cg n t=o.a8 then [⟨((i+1:Nat):Int),aP,4,cg n t,⟨0,0⟩⟩]else [])else []
 |none=>[]
def qx(n:aj)(aP:Int)(i:Nat)(o:az):List bq:=match o.aG[o.aN.toNat]? with
 |some t=>if o.state=1/\cM n t=aP then [⟨((i+1:Nat):Int),aP,3,⟨#[]⟩,t⟩]else []
 |none=>[]
def pV(f:Nat->az->List bq):Nat->List az->List bq
 |_,[]=>[]
 |i,o::os=>f i o++pV f (i+1) os
theorem vz{f:Nat->az->List bq}{s:bq}:∀{os:List az} {i:Nat},s∈pV f i os->∃j o,os[j]?=YH o/\s∈f (i+j) o
 | [],_,h=>by simp[pV]at h
 |o::os,i,h=>by
  simp only[pV,Wl]at h
  rcases h with h|h
  ·exact⟨0,o,rfl,h⟩
  ·obtain⟨j,o',h1,h2⟩:=vz h
   exact⟨j+1,o',by grind,by grind⟩
def CW(w:ax)(aP:Int):List bq:=pV (im w.aa aP) 0 w.ae++pV (qx w.aa aP) 0 (w.ae.map (cy w.aa aP))
def fR(w:ax)(aP:Int):ax:=
 { w with ae:=w.ae.map (pI w.aa aP),now:=aP,aH:=((CW w aP).foldl (nS w.skip) (w.aH,w.bd)).1,bd:=((CW w aP).foldl (nS w.skip) (w.aH,w.bd)).2}
structure ql(w:ax):Prop where
 fit:qp w
 ok:ew w=YJ
theorem ql.eO{w:ax}(h:ql w):aV w.aa=YH true:=E8 h.fit h.ok
theorem ql.aG{w:ax}(h:ql w){i:Nat}{o:az}(ho:w.ae[i]?=YH o):tn w.aa o:=by
 have hok:=mQ h.fit h.ok ho;have hl:=h.fit.aG o (VV ho);have Cb:=Ad h.fit.eO h.eO hl hok.Za8;refine⟨hok.aN,λt ht=>?_,λi t t' h1 h2=>?_,λi t h1 h2=>?_⟩
 ·obtain⟨_,_,a,b,c⟩:=cR h.fit.eO h.eO (hok.bj t ht)
  omega
 ·have:=((BF Cb h1).2 t' h2).1
  have:=(kI h.eO).1;omega
 ·have hw:=cB.1 hok.aG i t h1
  unfold tY at hw
  grind
theorem ql.state{w:ax}(h:ql w){o:az}(ho:w.ae[i]?=YH o):mX w.aa o w.now:=by
 have hok:=mQ h.fit h.ok ho;exact(tW h.fit.eO h.eO hok.aN (h.fit.aG o (VV ho)) hok.bj _).1 hok.st
theorem ql.parts{w:ax}(h:ql w):(0<=w.now/\w.now<=100000)/\w.ae.length<=30/\w.ah.length<=20/\w.aH.length<=200/\w.skip.length<=50/\(w.aH.length<=w.bd/\w.bd<=1000000000)/\w.ar.length<=120:=by
 have hb:=dH (Ap h.ok);have hv:=h.ok;unfold ew at hv
 grind
structure AM(n:aj)(aP:Int)(p:List bq×Int):Prop where
 ZdL:∀s∈p.1,cz n s=YH YJ/\s.aP<=aP
 len:p.1.length<=200
 bd:p.1.length<=p.2/\p.2<=1000000000
theorem Eu{aP:Int}{skip:List Int}{p:List bq×Int}(h:AM n aP p)(hs:cz n s=YH YJ/\s.aP<=aP):AM n aP (nS skip p s):=by
 obtain⟨h1,h2,h3⟩:=h;unfold nS
 by_cases hm:p.2<1000000000
 ·simp only[if_pos hm]
  split
  ·exact⟨λx hx=>by grind,by grind,by grind⟩
  ·exact⟨h1,h2,by grind⟩
 ·simp only[if_neg hm]
  split
  ·exact⟨λx hx=>by grind,by grind,by grind⟩
  ·exact⟨h1,h2,X9⟩
theorem BY{n:aj}{aP:Int}{skip:List Int}:∀(l:List bq) (p:List bq×Int),AM n aP p->(∀s∈l,cz n s=YH YJ/\s.aP<=aP)->AM n aP (l.foldl (nS skip) p)
 | [],p,h,_=>h
 |s::l,p,h,hl=>BY l _ (Eu h (hl s Wp)) λx hx=>hl x (Wk _ hx)
theorem Fl{aP:Int}{o:az}:bb o<=bb (cy n aP o):=by
 unfold cy
 split
 ·split
  ·rename_i t ht hc
   unfold Bp
   split<;>(unfold bb;simp[hc.1])
  omega
 omega
theorem KV{aP:Int}{o:az}:bb o<=bb (nV n aP o):=by
 unfold nV
 split
 ·split
  ·unfold bb
   grind
  omega
 omega
theorem LZ{aP:Int}{o:az}:bb o<=bb (pI n aP o):=Int.le_trans Fl KV
theorem QW{l:List α}{p:α->Bool}{a b:Nat}(h:a<=b)(hk:(l.drop a).any p=YK):(l.drop b).any p=false:=by
 obtain⟨c,rfl⟩:∃c,b=a+c:=⟨b-a,X9⟩;rw[<-List.drop_drop]
 grind
section
variable {w:ax} (h:ql w) {aP:Int} (hn:w.now<=aP) (hm:aP<=100000) (he:∀o∈w.ae,∀e,dY w.aa o=YH e->aP<=e)
include h hn hm he
theorem xl{th:Int}{p:ByteArray}(h1:1<=th/\th<=9999)
 (hk:(k=2/\p=⟨#[]⟩/\fV w.aa t=YJ/\dF w.aa t<=aP)\/(k=3/\p=⟨#[]⟩/\fV w.aa t=YJ/\aP<=cM w.aa t)\/(k=4/\¬bf (ak w.aa) p<0/\t=⟨0,0⟩)):
 cz w.aa ⟨th,aP,k,p,t⟩=YH true:=by
 have Cg:=h.parts.1;have wq:=ff w.aa;have Il:=h.fit.eO.aA;unfold cz;rw[h.eO];simp only[VS,cE,X1 (show 0<=aP by omega),(dh h.fit.eO).2,oN (show(ak w.aa).length<=4194304 by omega),x8 h.fit.eO h.eO]
 rcases hk with⟨rfl,rfl,h2,h3⟩ |⟨rfl,rfl,h2,h3⟩ |⟨rfl,h2,rfl⟩
 ·obtain⟨a1,a2,_⟩:=cR h.fit.eO h.eO h2
  grind
 ·obtain⟨a1,a2,_⟩:=cR h.fit.eO h.eO h2
  grind
 grind
theorem Pz:∀s∈CW w aP,cz w.aa s=YH YJ/\s.aP<=aP:=by
 have hlen:=h.parts.2.1;intro s hs
 rcases Wl.1 hs with hs|hs
 ·obtain⟨j,o,ho,hj⟩:=vz hs
  have bU:=(VT.1 ho).1;have hok:=mQ h.fit h.ok ho;rw[We]at hj
  unfold im at hj
  split at hj
  ·rename_i t ht
   have yP:=hok.bj t (VV ht)
   split at hj
   ·rcases V1.1 hj with rfl|hj
    ·exact⟨xl h hn hm he X9 (.inl ⟨rfl,rfl,yP,X9⟩),Int.le_refl _⟩
    ·split at hj
     ·rename_i hd
      obtain rfl:=Wf.1 hj;have JZ:¬bf (ak w.aa) o.a8<0:=by
       have:=qh h.ok ho;unfold jR at this
       simp_all
      exact⟨xl h hn hm he X9 (.inr (.inr ⟨rfl,by simp_all,rfl⟩)),Int.le_refl _⟩
     simp_all
   grind
  grind
 ·obtain⟨j,o,ho,hj⟩:=vz hs
  have bU:=(VT.1 ho).1;rw[Wo]at bU
  rw[Wj]at ho
  obtain⟨o0,Ch,rfl⟩:=Wb.1 ho;have hok:=mQ h.fit h.ok Ch;rw[We]at hj
  unfold qx at hj
  split at hj
  ·rename_i t ht
   rw[(uY w.aa aP o0).aG]at ht
   have yP:=hok.bj t (VV ht)
   split at hj
   ·obtain rfl:=Wf.1 hj
    exact⟨xl h hn hm he X9 (.inr (.inl ⟨rfl,rfl,yP,X9⟩)),Int.le_refl _⟩
   grind
  grind
theorem FD{o:az}(ho:w.ae[i]?=YH o)(s:List bq)(m:Int):jR { w with ae:=w.ae.map (pI w.aa aP),now:=aP,aH:=s,bd:=m} i (pI w.aa aP o)=true:=by
 have hv:=qh h.ok ho;have hok:=mQ h.fit h.ok ho;have hl:=h.fit.aG o (VV ho);have hs:=tX w.aa aP o;obtain⟨k1,k2,_⟩:=step_ok (h.aG ho) (h.state ho) hn (he o (VV ho));have uL:=(tW h.fit.eO h.eO k2.aN (by rw[hs.aG];omega) (by rw[hs.aG];exact hok.bj) aP).2 k1.ok
 have Ef:=LZ (n:=w.aa) (aP:=aP) (o:=o);have hgn:=k2.aN;unfold jR at hv⊢
 simp only[V6,WG,X7]at hv⊢
 obtain⟨⟨⟨⟨⟨⟨⟨⟨⟨⟨⟨h1,h2⟩,h3⟩,h4⟩,h5⟩,h6⟩,h7⟩,h8⟩,h9⟩,wm⟩,Eb⟩,TC⟩:=hv;have Ih:Av w.aa (pI w.aa aP o)=Av w.aa o:=by unfold Av;rw[hs.aG,hs.au]
 refine⟨⟨⟨⟨⟨⟨⟨⟨⟨⟨⟨?_,?_⟩,?_⟩,?_⟩,?_⟩,?_⟩,?_⟩,?_⟩,?_⟩,?_⟩,?_⟩,?_⟩
 ·rw[hs.au];omega
 ·rw[hs.a8];omega
 ·rw[hs.au,hs.a8];omega
 ·rw[hs.ay];omega
 ·rw[hs.ab];omega
 ·rw[hs.aP];omega
 ·rw[hs.dW];omega
 ·omega
 ·rw[hs.aG]
  refine(Ka λj x hx=>?_).trans h9
  unfold tY;simp only[hs.ab,hs.a8,hs.aG]
 ·simp only[Ih,hs.aG,hs.au,hs.aP];omega
 ·grind
 ·rw[hs.aG]
  exact QW X9 TC
theorem Ec:ql (fR w aP):=by
 have hp:=h.parts;have hv:=h.ok;have DA:=BY (skip:=w.skip) (CW w aP) (w.aH,w.bd) (n:=w.aa) (aP:=aP) ⟨λs hs=>?_,hp.2.2.2.1,hp.2.2.2.2.2.1⟩ (Pz h hn hm he)
 ·refine⟨⟨h.fit.eO,by simp only[fR,Wo];omega,h.fit.ar,h.fit.ah,by have:=DA.len;simp only[fR];omega,h.fit.skip,λo ho=>?_⟩,?_⟩
  ·simp only[fR,List.mem_map]at ho
   obtain⟨o0,Ch,rfl⟩:=ho;rw[(tX w.aa aP o0).aG];exact h.fit.aG o0 Ch
  ·unfold ew at hv⊢
   simp at hv⊢
   obtain⟨⟨⟨⟨⟨⟨⟨⟨⟨⟨h1,h2⟩,h3⟩,h4⟩,h5⟩,h6⟩,h7⟩,h8⟩,h9⟩,wm⟩,Eb⟩:=hv;have hl:=DA.len;have hmd:=DA.bd;refine⟨⟨⟨⟨⟨⟨⟨⟨⟨⟨h1,?_⟩,?_⟩,h4⟩,?_⟩,h6⟩,?_⟩,h8⟩,?_⟩,?_⟩,?_⟩
   ·simp only[fR];omega
   ·simp only[fR,Wo];omega
   ·simp only[fR];omega
   ·simp only[fR];omega
   ·refine cB.2 λj s hj=>?_
    obtain⟨a,b⟩:=DA.ZdL s (VV hj);show((cz w.aa s).getD YK&&!decide (aP<s.aP))=YJ
    grind
   ·refine cB.2 λj o hj=>?_
    simp only[fR,Wj]at hj
    obtain⟨o0,Ch,rfl⟩:=Wb.1 hj;rw[We];exact FD h hn hm he Ch _ _
   ·unfold uC at Eb⊢
    simp only[fR,List.foldl_map];rw[<-Eb]
    congr 1
    funext a o
    rw[(tX w.aa aP o).aG]
 ·have:=Di h.fit h.ok hs
  grind
end
def qL(a:Int)(e:Option Int):Int:=match e with
 |some v=>if a<0\/v<a then v else a
 |none=>a
def fN(w:ax):Int:=w.ae.foldl (λa o=>qL a (dY w.aa o)) (-1)
theorem ze{n:aj}:∀(os:List az) (a:Int),(∀o∈os,∀e,dY n o=YH e->0<=e)->a<0\/0<=a->
 (os.foldl (λa o=>qL a (dY n o)) a=a/\a<0/\∀o∈os,dY n o=YI)\/
 (0<=os.foldl (λa o=>qL a (dY n o)) a/\(os.foldl (λa o=>qL a (dY n o)) a=a\/∃o∈os,dY n o=YH (os.foldl (λa o=>qL a (dY n o)) a))/\(0<=a->os.foldl (λa o=>qL a (dY n o)) a<=a)/\∀o∈os,∀e,dY n o=YH e->os.foldl (λa o=>qL a (dY n o)) a<=e)
 | [],a,_,ha=>by
  grind
 |o::os,a,h,ha=>by
  have h0:=h o Wp;have hs:=λx hx=>h x (Wk o hx)
  cases ho:dY n o with
  |none=>
   have e:qL a YI=a:=rfl
   rcases ze os a hs ha with⟨k1,k2,k3⟩ |⟨k1,k2,k3,k4⟩
   all_goals grind
  |some v=>
   have e:0<=qL a (YH v)/\qL a (YH v)<=v/\(0<=a->qL a (YH v)<=a)/\(qL a (YH v)=a\/qL a (YH v)=v):=by
    unfold qL;grind
   obtain⟨e1,e2,e3,e4⟩:=e
   rcases ze os (qL a (YH v)) hs (.inr e1)with⟨k1,k2,k3⟩ |⟨k1,k2,k3,k4⟩
   all_goals grind
theorem N4{o:az}(h:tn n o){e:Int}(he:dY n o=YH e):0<=e/\e<=100000:=by
 unfold dY at he
 cases ht:o.aG[o.aN.toNat]? with
 |none=>grind
 |some t=>
  obtain⟨a,b,c⟩:=h.bj t (VV ht)
  grind
theorem vY{w:ax}(h:ql w):(fN w=-1/\∀o∈w.ae,dY w.aa o=YI)\/
 (w.now<fN w/\fN w<=100000/\(∃o∈w.ae,dY w.aa o=YH (fN w))/\∀o∈w.ae,∀e,dY w.aa o=YH e->fN w<=e):=by
 have hp:∀o∈w.ae,∀e,dY w.aa o=YH e->0<=e/\e<=100000:=λo ho e he=>by
  obtain⟨i,hi,rfl⟩:=Wc ho;exact N4 (h.aG (VU hi)) he
 rcases ze w.ae (-1) (λo ho e he=>(hp o ho e he).1) (.inl X9)with⟨k1,_,k3⟩ |⟨k1,k2,_,k4⟩
 ·exact .inl ⟨k1,k3⟩
 ·rcases k2 with k2|⟨o,ho,k2⟩
  ·omega
  ·refine .inr ⟨?_,(hp o ho _ k2).2,⟨o,ho,k2⟩,k4⟩
   obtain⟨i,hi,rfl⟩:=Wc ho;have hs:=qW (h.state (VU hi)) (h.aG (VU hi)).aN;exact hs.next _ k2
theorem sU{w:ax}(h:ql w)(hn:0<=fN w):ql (fR w (fN w))/\w.now<fN w/\fN w<=100000:=by
 rcases vY h with⟨k,_⟩ |⟨k1,k2,k3,k4⟩
 ·omega
 ·exact⟨Ec h X9 k2 k4,k1,k2⟩
def o6(w:ax):Nat:=(w.ae.map iX).sum
theorem To{α:Type}{f g:α->Nat}:∀{l:List α},(∀x∈l,f x<=g x)->(∃x∈l,f x<g x)->(l.map f).sum<(l.map g).sum
 | [],_,⟨x,h,_⟩=>by cases h
 |a::l,h,⟨x,hx,bU⟩=>by
  have h1:=h a Wp;have h2:(l.map f).sum<=(l.map g).sum:=Tn λx hx=>h x (Wk _ hx)
  simp
  rcases V1.1 hx with rfl|hx
  ·omega
  ·have:=To (λx hx=>h x (Wk _ hx)) ⟨x,hx,bU⟩
   omega
 where
 Tn {α:Type} {f g:α->Nat}:∀{l:List α},(∀x∈l,f x<=g x)->(l.map f).sum<=(l.map g).sum
 | [],_=>VX _
 |a::l,h=>by
  have h2:=Tn λx hx=>h x (Wk _ hx)
  grind
theorem rB{w:ax}(h:ql w)(hn:0<=fN w):o6 (fR w (fN w))<o6 w:=by
 rcases vY h with⟨k,_⟩ |⟨k1,k2,⟨o,ho,k3⟩,k4⟩
 ·omega
 ·have Ir:∀x∈w.ae,iX (pI w.aa (fN w) x)<=iX x/\(dY w.aa x=YH (fN w)->iX (pI w.aa (fN w) x)<iX x):=λx hx=>by
   obtain⟨i,hi,rfl⟩:=Wc hx;have mZ:=VU hi;exact(step_ok (h.aG mZ) (h.state mZ) X9 (k4 _ hx)).2.2
  unfold o6 fR;simp;exact To (f:=iX∘pI w.aa (fN w)) (λx hx=>(Ir x hx).1) ⟨o,ho,(Ir o ho).2 k3⟩
def tj:Nat->ax->Int->ax
 |0,w,_=>w
 |k+1,w,u=>if fN w<0\/u<fN w then w else tj k (fR w (fN w)) u
theorem EZ{w:ax}(h:ql w)(h0:o6 w=0):fN w=-1:=by
 rcases vY h with⟨k,_⟩ |⟨k1,k2,⟨o,ho,k3⟩,k4⟩
 ·exact k
 ·have hz:iX o=0:=by
   have:=List.sum_eq_zero_iff_forall_eq_nat.1 h0 (iX o) (List.mem_map_of_mem ho);omega
  obtain⟨i,hi,rfl⟩:=Wc ho;have mZ:=VU hi;rw[PK (h.aG mZ) (h.state mZ) hz]at k3
  grind
structure xv(w w':ax):Prop where
 aa:w'.aa=w.aa
 ar:w'.ar=w.ar
 ah:w'.ah=w.ah
 skip:w'.skip=w.skip
 len:w'.ae.length=w.ae.length
 ord:∀(i:Nat) (o o':az),w.ae[i]?=YH o->w'.ae[i]?=YH o'->qn o o'
theorem xv.refl(w:ax):xv w w:=⟨rfl,rfl,rfl,rfl,rfl,λi o o' h h'=>by rw[h]at h';obtain rfl:=Option.some.inj h';exact .refl o⟩
theorem xv.trans{a b c:ax}(h:xv a b)(k:xv b c):xv a c:=by
 refine⟨k.aa.trans h.aa,k.ar.trans h.ar,k.ah.trans h.ah,k.skip.trans h.skip,k.len.trans h.len,λi o o' h1 h2=>?_⟩
 have bU:=(VT.1 h1).1;have hb:b.ae[i]?=YH (b.ae[i]'(by rw[h.len];omega)):=VU _
 exact(h.ord i o _ h1 hb).trans (k.ord i _ o' hb h2)
theorem Ic(w:ax)(aP:Int):xv w (fR w aP):=by
 refine⟨rfl,rfl,rfl,rfl,by simp[fR],λi o o' h h'=>?_⟩
 simp only[fR,Wj,h,WB,Option.some.injEq]at h'
 subst h';exact tX _ _ o
theorem S5:∀(k:Nat) (w:ax) (u:Int),ql w->o6 w<=k->u<=100000->ql (tj k w u)/\(fN (tj k w u)<0\/u<fN (tj k w u))/\xv w (tj k w u)/\(w.now<=u->(tj k w u).now<=u)
 |0,w,u,h,h0,hu=>⟨h,.inl (by have:=EZ h X9;show fN w<0;omega),.refl w,λh=>h⟩
 |k+1,w,u,h,h0,hu=>by
  unfold tj
  split
  ·rename_i hc
   exact⟨h,hc,.refl w,λh=>h⟩
  ·obtain⟨a,b,c⟩:=sU h X9
   have ht:=rB h X9;obtain⟨r1,r2,r3,r4⟩:=S5 k (fR w (fN w)) u a X9 hu;exact⟨r1,r2,(Ic w _).trans r3,λ_=>r4 (by show fN w<=u;omega)⟩
theorem CU:∀(k j:Nat) (w:ax) (u:Int),ql w->o6 w<=k->u<=100000->tj (k+j) w u=tj k w u
 |0,j,w,u,h,h0,hu=>by
  have:=EZ h X9
  cases j with
  |zero=>rfl
  |succ j=>unfold tj
           grind
 |k+1,j,w,u,h,h0,hu=>by
  rw[show k+1+j=(k+j)+1 by omega]
  unfold tj
  split
  ·rfl
  ·obtain⟨a,b,c⟩:=sU h X9
   have ht:=rB h X9;exact CU k j _ u a X9 hu
theorem Zal{k j:Nat}{w:ax}(h:ql w)(hk:o6 w<=k)(hj:o6 w<=j)(hu:u<=100000):tj k w u=tj j w u:=by
 obtain⟨a,rfl⟩:∃a,k=o6 w+a:=⟨k-o6 w,X9⟩;obtain⟨b,rfl⟩:∃b,j=o6 w+b:=⟨j-o6 w,X9⟩;rw[CU _ a w u h (VX _) hu,CU _ b w u h (VX _) hu]
theorem PB{w:ax}(h:ql w)(hu:w.now<=u)(hm:u<=100000)(hn:fN w<0\/u<fN w):ql { w with now:=u}:=by
 have he:∀o∈w.ae,∀e,dY w.aa o=YH e->u<e:=λo ho e he=>by
  rcases vY h with⟨_,k⟩ |⟨k1,_,_,k4⟩
  ·grind
  ·have:=k4 o ho e he
   have:=h.parts.1;omega
 have uL:∀o∈w.ae,pI w.aa u o=o:=λo ho=>by
  have hev:=he o ho;have e1:cy w.aa u o=o:=by
   unfold cy
   cases ht:o.aG[o.aN.toNat]? with
   |none=>rfl
   |some t=>
    simp only;rw[if_neg];rintro⟨c1,c2⟩;have:=hev u YG;omega
  unfold pI;rw[e1];unfold nV
  cases ht:o.aG[o.aN.toNat]? with
  |none=>rfl
  |some t=>
   simp only;rw[if_neg];rintro⟨c1,c2⟩;have:=hev u YG;omega
 have Rt:w.ae.map (pI w.aa u)=w.ae:=by
  conv=>rhs;rw[<-List.map_id w.ae]
  exact List.map_congr_left λo ho=>uL o ho
 have hok:=Ec h hu hm (λo ho e h'=>by grind)
 have hv:=h.ok;have hk:=hok.ok;refine⟨⟨h.fit.eO,h.fit.ae,h.fit.ar,h.fit.ah,h.fit.aH,h.fit.skip,h.fit.aG⟩,?_⟩;unfold ew at hv hk⊢
 simp at hv hk⊢
 obtain⟨⟨⟨⟨⟨⟨⟨⟨⟨⟨h1,h2⟩,h3⟩,h4⟩,h5⟩,h6⟩,h7⟩,h8⟩,h9⟩,wm⟩,Eb⟩:=hv;obtain⟨⟨⟨⟨⟨⟨⟨⟨⟨⟨k1,k2⟩,k3⟩,k4⟩,k5⟩,k6⟩,k7⟩,k8⟩,k9⟩,k10⟩,k11⟩:=hk;refine⟨⟨⟨⟨⟨⟨⟨⟨⟨⟨h1,⟨X9,hm⟩⟩,h3⟩,h4⟩,h5⟩,h6⟩,h7⟩,h8⟩,?_⟩,?_⟩,Eb⟩
 ·refine cB.2 λj s hj=>?_
  have:=cB.1 h9 j s hj;unfold wL at this⊢
  grind
 ·refine cB.2 λj o hj=>?_
  have Cd:(fR w u).ae[j]?=YH o:=by simp only[fR,Rt];omega
  have:=cB.1 k10 j o Cd;have e:∀i,jR (fR w u) i o=jR { w with now:=u} i o:=λi=>rfl
  grind
def Fh(w:ax)(u:Int):ax:={ tj (o6 w) w u with now:=u}
theorem J9{w:ax}(h:ql w)(hu:w.now<=u)(hm:u<=100000):ql (Fh w u)/\xv w (Fh w u)/\(fN (Fh w u)<0\/u<fN (Fh w u)):=by
 obtain⟨a,b,c,d⟩:=S5 _ w u h (VX _) hm;exact⟨PB a (d hu) hm b,⟨c.aa,c.ar,c.ah,c.skip,c.len,c.ord⟩,b⟩
def kN(bM:Int)(s0:Int×Int×Int×Int×(List bK)×(List Int)×(List az)×(List aq)×(List av)×(List bq)×(List Int)):Option ((Int×Int×Int×Int×(List bK)×(List Int)×(List az)×(List aq)×(List av)×(List bq)×(List Int))⊕(Int×Int×Int×(List bK)×(List Int)×(List az)×(List aq)×(List av)×(List bq)×(List Int))):=
 cond (YL (s0.1<240))
 ((mK (⟨(⟨s0.2.2.2.2.1,s0.2.2.2.2.2.1,s0.2.1⟩:aj),s0.2.2.2.2.2.2.1,s0.2.2.2.2.2.2.2.1,s0.2.2.2.2.2.2.2.2.1,s0.2.2.1,s0.2.2.2.2.2.2.2.2.2.1,s0.2.2.2.2.2.2.2.2.2.2,s0.2.2.2.1⟩:ax)).bind λy4=>
 cond (YL (y4<0))
 (YH (.inr (s0.2.1,s0.2.2.1,s0.2.2.2.1,s0.2.2.2.2.1,s0.2.2.2.2.2.1,s0.2.2.2.2.2.2.1,s0.2.2.2.2.2.2.2.1,s0.2.2.2.2.2.2.2.2.1,s0.2.2.2.2.2.2.2.2.2.1,s0.2.2.2.2.2.2.2.2.2.2)))
 (cond (YL (bM<y4))
 (YH (.inr (s0.2.1,s0.2.2.1,s0.2.2.2.1,s0.2.2.2.2.1,s0.2.2.2.2.2.1,s0.2.2.2.2.2.2.1,s0.2.2.2.2.2.2.2.1,s0.2.2.2.2.2.2.2.2.1,s0.2.2.2.2.2.2.2.2.2.1,s0.2.2.2.2.2.2.2.2.2.2)))
 ((bh [1,2,3,4,5,6,7,8]).bind λ_=>
 (nH (⟨(⟨s0.2.2.2.2.1,s0.2.2.2.2.2.1,s0.2.1⟩:aj),s0.2.2.2.2.2.2.1,s0.2.2.2.2.2.2.2.1,s0.2.2.2.2.2.2.2.2.1,s0.2.2.1,s0.2.2.2.2.2.2.2.2.2.1,s0.2.2.2.2.2.2.2.2.2.2,s0.2.2.2.1⟩:ax) y4).bind λy5=>
 YH (.inl ((aI (s0.1+1)),y5.aa.change,y5.now,y5.bd,y5.aa.aA,y5.aa.off,y5.ae,y5.ar,y5.ah,y5.aH,y5.skip)))))
 (YH (.inr (s0.2.1,s0.2.2.1,s0.2.2.2.1,s0.2.2.2.2.1,s0.2.2.2.2.2.1,s0.2.2.2.2.2.2.1,s0.2.2.2.2.2.2.2.1,s0.2.2.2.2.2.2.2.2.1,s0.2.2.2.2.2.2.2.2.2.1,s0.2.2.2.2.2.2.2.2.2.2)))
instance (bM:Int):bo (kN bM):=⟨λs0=>(.un::vi bM::.un::.un::.be 0 0 0::.be 1 0 0::vi s0.1::(U 32 [])),λs0=>[YH ⟨.of 33,10,[[.v (.slice YI 0 0),.v (.slice YI 0 0),vi 0,.v (.slice YI 0 0),.v (.slice YI 0 0),.v (.slice YI 0 0),vi 0,.v (.slice YI 0 0),.v (.slice YI 0 0),vi 0]]⟩,YH ⟨.of 33,10,[[.ms 2,.ms 3,vi s0.2.1,.ms 4,.ms 5,.ms 6,vi s0.2.2.1,.ms 7,.ms 8,vi s0.2.2.2.1]]⟩,YH ⟨.of 144,6,s0.2.2.2.2.1.map bn⟩,YH ⟨.of 3,1,s0.2.2.2.2.2.1.map aE⟩,YH ⟨.of 94,11,s0.2.2.2.2.2.2.1.map ba⟩,YH ⟨.of 147,4,s0.2.2.2.2.2.2.2.1.map aC⟩,YH ⟨.of 46,2,s0.2.2.2.2.2.2.2.2.1.map aW⟩,YH ⟨.of 151,6,s0.2.2.2.2.2.2.2.2.2.1.map bt⟩,YH ⟨.of 3,1,s0.2.2.2.2.2.2.2.2.2.2.map aE⟩]⟩
def dv(w:ax)(bM:Int):Option ax:=
 (ee w).bind λy1=>
 (fA w).bind λy2=>
 cond (!y2)
 (YH y1)
 ((bc bM w.now 100000).bind λy3=>
 cond (!y3)
 (YH y1)
 ((aD (kN bM) NN (0,y1.aa.change,y1.now,y1.bd,y1.aa.aA,y1.aa.off,y1.ae,y1.ar,y1.ah,y1.aH,y1.skip)).bind (λo0=>
 YH (⟨(⟨o0.2.2.2.1,o0.2.2.2.2.1,o0.1⟩:aj),o0.2.2.2.2.2.1,o0.2.2.2.2.2.2.1,o0.2.2.2.2.2.2.2.1,bM,o0.2.2.2.2.2.2.2.2.1,o0.2.2.2.2.2.2.2.2.2,o0.2.2.1⟩:ax))))
instance (w:ax)(bM:Int):CT prog (dv w bM):=⟨179,[.ag (fY w),vi bM],[],λr=>.ag [.ms 0,.ms 1,vi r.aa.change,.ms 2,.ms 3,.ms 4,vi r.now,.ms 5,.ms 6,vi r.bd],λr=>[YH ⟨.of 144,6,r.aa.aA.map bn⟩,YH ⟨.of 3,1,r.aa.off.map aE⟩,YH ⟨.of 94,11,r.ae.map ba⟩,YH ⟨.of 147,4,r.ar.map aC⟩,YH ⟨.of 46,2,r.ah.map aW⟩,YH ⟨.of 151,6,r.aH.map bt⟩,YH ⟨.of 3,1,r.skip.map aE⟩],cw (dv.eq_1 ..) func179 ntmps179 results179⟩
end Go.Proofs.YtdilaemengjipaaGreatDoor
