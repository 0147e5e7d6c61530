/- A part of the proof of the statement in the last file of this claim: texts on the language of the program and on its functions. No condition. -/
import Derived.Test.YtdilaemengjipaaGreatDoorCA16
import Derived.Test.YtdilaemengjipaaGreatDoorCA10
import Derived.Test.YtdilaemengjipaaGreatDoorCA9
import Derived.Test.YtdilaemengjipaaGreatDoorCA8
import Derived.Test.YtdilaemengjipaaGreatDoorCA7
import Derived.Test.YtdilaemengjipaaGreatDoorCA5
import Derived.Test.YtdilaemengjipaaGreatDoorCA12
import Derived.Test.YtdilaemengjipaaGreatDoorCA13
import Derived.Test.YtdilaemengjipaaGreatDoorCA4
import Derived.Test.YtdilaemengjipaaGreatDoorCA14
import Derived.Test.YtdilaemengjipaaGreatDoorCA1
set_option linter.unusedVariables false
set_option linter.unusedSimpArgs false
set_option linter.unusedSectionVars false
open Option renaming some->YH,none->YI
open Bool renaming true->YJ,false->YK
open Decidable renaming decide->YL
open Go.Proofs.Tryz
set_option maxHeartbeats 40000000
namespace Go.Proofs.YtdilaemengjipaaGreatDoor
open Option renaming bind_some->VS
open BitVec renaming ofInt->V9
open Bool renaming and_true->XE,not_true->V5
open Nat renaming lt_or_ge->Wv,pos_of_ne_zero->Xj
open List renaming range->Wg,getElem?_eq_getElem->VU,getElem?_eq_some_iff->VT,getElem_of_mem->Wc,mem_of_getElem?->VV
set_option maxRecDepth 10000
open Go.RowKit
variable {aX:List bL}{aY:Int}{i:Nat}{l:List aq}{n:aj}{o:az}{p:aT}{s:ByteArray}{t:av}{y:bK}
theorem ye{l:List Int}(h:l.length<=1048576)(x:Int):jQ l x=YH (l.any λy=>YL (y=x)):=by
 unfold jQ;rw[tH (xs:=l) (p:=λy=>YL (y=x)) (r:=.inr YJ) (e:=.inl ()) (λi hi=>?_) (by simp[pR]) Yc]
 ·grind
 ·have hw:=bE hi X9
  have hg:aB l (i:Int)=YH l[i]:=by rw[aS];simp
  simp only[pR,X1 (show(i:Int)<l.length by omega),X5,hg,VS,hw]
  grind
theorem jk{l:List av}(h:l.length<=1048576)(x:av):eR l x=YH (l.any λy=>YL (y=x)):=by
 unfold eR;rw[tH (xs:=l) (p:=λy=>YL (y=x)) (r:=.inr YJ) (e:=.inl ()) (λi hi=>?_) (by simp[nX]) Yc]
 ·grind
 ·have hw:=bE hi X9
  have hg:aB l (i:Int)=YH l[i]:=by rw[aS];simp
  simp only[nX,X1 (show(i:Int)<l.length by omega),X5,hg,VS,hw]
  grind
theorem jX:@dp=@eR:=rfl
theorem KI(h:n.off.length<=1048576)(x:Int):(aD (ot n x) NN 0).bind (bk (λ_=>YH YJ) (λr=>YH r))=YH (!(n.off.any λy=>YL (y=x))):=by
 rw[tH (xs:=n.off) (p:=λy=>YL (y=x)) (r:=.inr YK) (e:=.inl ()) (λi hi=>?_) (by simp[ot]) Yc]
 ·grind
 ·have hw:=bE hi X9
  have hg:aB n.off (i:Int)=YH n.off[i]:=by rw[aS];simp
  simp only[ot,X1 (show(i:Int)<n.off.length by omega),X5,hg,VS,hw]
  grind
def FU(x:Int):Int:=IntKind.i64.wrap (V9 IntKind.i64.bits x &&& V9 IntKind.i64.bits 1).toNat
theorem OJ(x:Int):FU x=0\/FU x=1:=by
 unfold FU;have h:(V9 IntKind.i64.bits x &&& V9 IntKind.i64.bits 1).toNat<=1:=by
  rw[BitVec.toNat_and];refine Nat.le_trans Nat.and_le_right ?_
  decide
 rw[show IntKind.i64.wrap ((V9 IntKind.i64.bits x &&& V9 IntKind.i64.bits 1).toNat:Int)=((V9 IntKind.i64.bits x &&& V9 IntKind.i64.bits 1).toNat:Int)from aR X9];omega
theorem rm(h:cO n)(bD day:Int):oq n bD day=cA n bD day/\∃b,cA n bD day=YH b:=by
 have hl:=h.aA;have hw:aI ((n.aA.length:Int)-1)=n.aA.length-1:=aR X9;unfold oq cA;rw[gE,hw,cE,cE];simp only[VS]
 by_cases h1:bD<0
 ·grind
 by_cases h2:(n.aA.length:Int)<=bD
 ·grind
 simp only[X2 h1,X2 h2,X1 (show 0<=bD by omega),X1 (show bD<=(n.aA.length:Int)-1 by omega),X5,XE,X6]
 by_cases h3:0<=day/\day<=60
 ·simp only[X1 h3.1,X1 h3.2,XE,V5,X6,X5]
  have hg:aB n.aA bD=YH (n.aA[bD.toNat]' X9):=by
   unfold aB;grind
  rw[hg];simp only[VS];have hm:0<=Int.tmod day 7:=Int.tmod_nonneg 7 h3.1;rw[od (X1 hm)];simp only[VS];rw[KI h.off,ye h.off];generalize Int.fdiv _ _=q;have hb:=OJ q;unfold FU at hb
  grind
 grind
theorem Px(h:cO n)(bD day:Int):pw n bD day=jZ n bD day/\∃b,jZ n bD day=YH b:=by
 obtain⟨e,b,s⟩:=jM h;obtain⟨e2,b2,s2⟩:=rm h bD day;unfold pw jZ
 grind
theorem qS(h:cO n)(t:av):dQ n t=dC n t/\∃b,dC n t=YH b:=by
 obtain⟨e,b,s⟩:=Px h t.bD t.day;unfold dQ dC
 simp_all
theorem zp:@jY=@dD:=by
 funext l t
 unfold jY dD;have:oQ l t=dK l t:=by
  funext s
  unfold oQ dK
  cases hg:aB l s.2 with
  |none=>rfl
  |some y=>rfl
 grind
def tr(a b:Int):Int:=if a<b then -1 else if b<a then 1 else 0
theorem QB(a b:Int):dR a b=YH (tr a b):=by
 unfold dR tr
 grind
theorem Q1(x y z:Int):oS [x,y,z]=YH (if x≠0 then x else if y≠0 then y else z):=by
 obtain⟨k,hk⟩:∃k,NN=k+1+1+1+1:=⟨1152921504606846972,by rfl⟩
 unfold oS;rw[hk];have w0:aI 1=1:=aR X9;have w1:aI 2=2:=aR X9;have w2:aI 3=3:=aR X9
 by_cases hx:x=0
 ·by_cases hy:y=0
  ·by_cases hz:z=0
   ·simp[aD,bk,kZ,aB,hx,hy,hz,w0,w1,w2]
   ·simp[aD,bk,kZ,aB,hx,hy,hz,w0,w1]
  ·simp[aD,bk,kZ,aB,hx,hy,w0]
 ·simp[aD,kZ,aB,hx]
def pj(a b:aq):Bool:=if a.bj.day≠b.bj.day then YL (a.bj.day<b.bj.day)else if a.bj.bD≠b.bj.bD then YL (a.bj.bD<b.bj.bD)else YL (a.bw<b.bw)
theorem Bt(a b:aq):lr a b=YH (pj a b):=by
 unfold lr pj
 grind
theorem DV(a b:aq):∃v,fF a b=YH v/\YL (0<=v)=!pj a b:=by
 unfold fF;simp only[QB,VS,Q1];unfold pj tr
 grind
theorem sX(h:l.length<=1048576)(t:av):∃v,dD l t=YH v:=by
 have hh:∃o,aD (dK l t) NN (0,0)=YH o:=by
  refine vf (λk s=>∃i:Nat,i+k=l.length/\s.2=(i:Int)) ?_ NN l.length (0,0) ⟨0,X9,rfl⟩ Yc
  rintro k ⟨a,s⟩ ⟨i,hi,hs⟩;subst hs
  rcases Wv i l.length with bU|yM
  ·have hw:=bE bU X9
   have hg:aB l (i:Int)=YH l[i]:=by rw[aS];simp
   cases hc:YL (l[i].bj=t)with
   |true=>
    refine⟨_,by simp only[dK,X1 (show(i:Int)<l.length by omega),X5,hg,VS,hc,hw];rfl,?_⟩
    rintro s' e;cases e;exact⟨k-1,X9,i+1,X9,rfl⟩
   |false=>
    refine⟨_,by simp only[dK,X1 (show(i:Int)<l.length by omega),X5,X6,hg,VS,hc,hw];rfl,?_⟩
    rintro s' e;cases e;exact⟨k-1,X9,i+1,X9,rfl⟩
  ·have:i=l.length:=X9
   subst this;refine⟨_,by simp only[dK,X2 (show ¬((l.length:Int)<l.length)by omega),X6];rfl,?_⟩
   simp
 obtain⟨o,ho⟩:=hh;exact⟨o,by unfold dD;grind⟩
theorem vv(h:cO n){bD day:Int}(hr:cA n bD day=YH YJ):∃y,aB n.aA bD=YH y:=by
 have hl:=h.aA;have hw:aI ((n.aA.length:Int)-1)=n.aA.length-1:=aR X9;unfold cA at hr
 rw[cE]at hr
 simp at hr
 by_cases h1:0<=bD/\bD<=(n.aA.length:Int)-1
 ·exact⟨n.aA[bD.toNat]' X9,by unfold aB;grind⟩
 grind
def Mg(n:aj)(l:List aq)(i:Nat):Bool:=match l[i]? with
 |none=>YJ
 |some y=>(cA n y.bj.bD y.bj.day).getD YK&&(YL (1<=y.bw)&&YL (y.bw<=9999))&&(YL (1<=y.ab)&&YL (y.ab<=1000000))&&(YL (i=0) ||match l[i-1]? with
  |none=>YJ
  |some x=>pj x y)
def T4(n:aj)(l:List aq)(i:Nat):Bool:=match l[i]? with
 |none=>YJ
 |some y=>match aB n.aA y.bj.bD,dD l y.bj with
  |some g,YH v=>!decide (g.iU<v)
  |_,_=>YK
def cn(n:aj)(l:List aq):Bool:=(aV n).getD YK&&YL ((l.length:Int)<=120)&&(Wg l.length).all λi=>Mg n l i&&T4 n l i
theorem il(h:cO n)(hl:l.length<=1048576):eI n l=YH (cn n l):=by
 obtain⟨_,b,hb⟩:=jM h;unfold eI cn;rw[hb]
 cases b with
 |false=>rfl
 |true=>
  by_cases ZfM:120<(l.length:Int)
  ·grind
  have e0:aD (iA n l) NN 0=YH (if(Wg l.length).all (Mg n l)=YJ then .inl ()else .inr YK):=by
   refine og (λi hi _=>?_) (λ_=>by simp[iA]) Yc
   have hw:=bE hi X9;have hg:aB l (i:Int)=YH l[i]:=by rw[aS];simp
   obtain⟨_,rb,hrb⟩:=rm h l[i].bj.bD l[i].bj.day;simp only[iA,X1 (show(i:Int)<l.length by omega),hg,VS,hrb,cE,Mg,VU hi]
   cases rb with
   |false=>simp
   |true=>
    cases YL (1<=l[i].bw)&&YL (l[i].bw<=9999)with
    |false=>simp
    |true=>
     cases YL (1<=l[i].ab)&&YL (l[i].ab<=1000000)with
     |false=>simp
     |true=>
      by_cases hi0:i=0
      ·grind
      ·have Az:aI ((i:Int)-1)=((i-1:Nat):Int):=by rw[aR X9];omega
       have UJ:aB l ((i-1:Nat):Int)=YH l[i-1]:=by rw[aS];simp
       simp only[Bt]
       grind
  rw[e0]
  by_cases wU:(Wg l.length).all (Mg n l)=YJ
  ·rw[if_pos wU]
   have e1:aD (iB n l) NN 0=YH (if(Wg l.length).all (T4 n l)=YJ then .inl ()else .inr YK):=by
    refine og (λi hi _=>?_) (λ_=>by simp[iB]) Yc
    have hw:=bE hi X9;have hg:aB l (i:Int)=YH l[i]:=by rw[aS];simp
    obtain⟨v,hv⟩:=sX hl l[i].bj;have pk:=List.all_eq_true.1 wU i (List.mem_range.2 hi);obtain⟨_,rb,hrb⟩:=rm h l[i].bj.bD l[i].bj.day;have hrt:rb=true:=by
     simp only[Mg]at pk
     grind
    subst hrt;obtain⟨g,uQ⟩:=vv h hrb;simp only[iB,T4]
    grind
   grind
  grind
theorem x9(h:cO n)(hn:aV n=YH YJ)(t:av):dQ n t=cA n t.bD t.day:=by
 rw[(qS h t).1];unfold dC jZ
 grind
theorem vc(h:cO n)(hl:l.length<=1048576):iF n l=YH (cn n l):=by
 obtain⟨en,b,hb⟩:=jM h;unfold iF cn;rw[en,hb]
 cases b with
 |false=>rfl
 |true=>
  by_cases ZfM:120<(l.length:Int)
  ·grind
  have e0:aD (fX n l) NN 0=YH (if(Wg l.length).all (λi=>Mg n l i&&T4 n l i)=YJ then .inl ()else .inr YK):=by
   refine og (λi hi _=>?_) (λ_=>by simp[fX]) Yc
   have hw:=bE hi X9;have hg:aB l (i:Int)=YH l[i]:=by rw[aS];simp
   obtain⟨_,rb,hrb⟩:=rm h l[i].bj.bD l[i].bj.day;have ht:=x9 h hb l[i].bj;rw[hrb]at ht
   obtain⟨v,hv⟩:=sX hl l[i].bj;have xW:∀{X:Option (Int⊕(Unit⊕Bool))} {pre:Bool},pre=(YL (i=0) ||match l[i-1]? with
    |none=>YJ
    |some x=>pj x l[i])->
    X=(cond (!pre) (YH (.inr (.inr YK))) ((YH rb).bind λdL=>cond (!dL) (YH (.inr (.inr YK))) ((bc l[i].bw 1 9999).bind λji=>cond (!ji) (YH (.inr (.inr YK))) ((bc l[i].ab 1 1000000).bind λoX=>cond (!oX) (YH (.inr (.inr YK))) ((YH v).bind λmf=>(aB n.aA l[i].bj.bD).bind λkX=>cond (YL (kX.iU<mf)) (YH (.inr (.inr YK))) (YH (.inl ((i+1:Nat):Int))))))))->
    X=YH (if(Mg n l i&&T4 n l i)=YJ then .inl ((i+1:Nat):Int)else .inr (.inr YK)):=by
    rintro X pre hpre rfl;simp only[Mg,T4,VU hi,hrb,cE,<-hpre]
    cases pre with
    |false=>simp
    |true=>
     cases rb with
     |false=>simp
     |true=>
      obtain⟨g,uQ⟩:=vv h hrb
      grind
   by_cases hi0:i=0
   ·refine xW (pre:=YJ) Yd ?_
    simp only[fX,X1 (show(i:Int)<l.length by omega),X2 (show ¬0<(i:Int)by omega),X5,X6,hg,VS,ht,gE,zp,hv,hw,V5]
   ·have Az:aI ((i:Int)-1)=((i-1:Nat):Int):=by rw[aR X9];omega
    have UJ:aB l ((i-1:Nat):Int)=YH l[i-1]:=by rw[aS];simp
    obtain⟨cv,zj,Kz⟩:=DV l[i-1] l[i];refine xW (pre:=pj l[i-1] l[i]) Yd ?_;simp only[fX,X1 (show(i:Int)<l.length by omega),X1 (show 0<(i:Int)by omega),X5,hg,Az,UJ,zj,Kz,VS,ht,gE,zp,hv,hw]
  grind
theorem qU:@bS=@ca:=rfl
theorem Mz(w:ax)(o:az):mT w o=eU w.aa o:=rfl
theorem N3(h:aB n.aA t.bD=YI):bl n t=none:=by
 unfold bl bp;rw[h];rfl
theorem oL(h:aB n.aA t.bD=YH y):∃v,bl n t=YH v:=by
 unfold bl bp;rw[h];exact⟨_,rfl⟩
theorem Ti(w:ax)(o:az):om w o=cb w.aa o w.now:=by
 unfold om cb;rw[rU,qf]
 cases YL (0<o.aN)with
 |false=>
  simp only[X6]
  cases YL (o.state=1)<;>cases YL (o.state=2)<;>cases YL (o.state=3)<;>try rfl
  all_goals cases YL (o.aN=(o.aG.length:Int))<;>cases YL (o.place=o.a8)<;>cases YL (o.au=o.a8)<;>rfl
 |true=>
  simp only[X5]
  cases hg:aB o.aG (aI (o.aN-1))with
  |none=>rfl
  |some y1=>
   simp only[VS,hg]
   cases hl:aB w.aa.aA y1.bD with
   |none=>rw[N3 hl];rfl
   |some y2=>
    obtain⟨v,hv⟩:=oL hl;simp only[hv,VS]
    cases YL (w.now<v)<;>try rfl
    simp only[X6]
    cases YL (o.state=1)<;>cases YL (o.state=2)<;>cases YL (o.state=3)<;>try rfl
    all_goals cases YL (o.aN=(o.aG.length:Int))<;>cases YL (o.place=o.a8)<;>cases YL (y2.a8=o.a8)<;>rfl
theorem Oy{α ο:Type}{xs:List α}{p:α->Bool}{body:Int->Option (Int⊕ο)}{f:Nat->ο}{e:ο}(h1:∀i (hi:i<xs.length),body (i:Int)=YH (if p xs[i]=YJ then .inr (f i)else .inl ((i+1:Nat):Int)))(h2:body (xs.length:Int)=YH (.inr e))(hN:xs.length<NN):
 aD body NN 0=YH ((xs.findIdx? p).elim e f):=by
 have key:∀(ys:List α) (i N:Nat),xs.drop i=ys->i<=xs.length->ys.length<N->aD body N (i:Int)=YH ((ys.findIdx? p).elim e λk=>f (i+k)):=by
  intro ys
  induction ys with
  |nil=>
   intro i N hd hi hN
   cases N with
   |zero=>omega
   |succ N=>
    have:i=xs.length:=by grind
    subst this;simp only[aD,h2];rfl
  |cons y ys ih=>
   intro i N hd hi hN
   cases N with
   |zero=>omega
   |succ N=>
    have hy:xs[i]?=YH y:=by
     have:=congrArg (λl=>l[0]?) hd
     grind
    have bU:i<xs.length:=(VT.1 hy).1;have hyv:xs[i]=y:=(VT.1 hy).2;have wV:xs.drop (i+1)=ys:=by
     have:=congrArg (List.drop 1) hd
     simpa using this
    simp only[aD,h1 i bU,hyv];rw[List.findIdx?_cons]
    cases hp:p y with
    |true=>simp
    |false=>
     have:=ih (i+1) N wV bU Yd;refine this.trans ?_
     cases ys.findIdx? p with
     |none=>rfl
     |some k=>grind
 have:=key xs 0 NN rfl (Nat.zero_le _) hN
 grind
def bf(l:List ByteArray)(p:ByteArray):Int:=(l.findIdx? λy=>YL (y=p)).elim (-1) λk=>(k:Int)
theorem oN{l:List ByteArray}(h:l.length<=4194304)(p:ByteArray):ca l p=YH (bf l p):=by
 unfold ca;rw[Oy (xs:=l) (p:=λy=>YL (y=p)) (f:=λi=>.inr (i:Int)) (e:=.inl ()) (λi hi=>?_) (by simp[n7]) Yc]
 ·unfold bf
  cases l.findIdx? λy=>YL (y=p)<;>rfl
 ·have hw:=bE hi X9
  have hg:aB l (i:Int)=YH l[i]:=by rw[aS];simp
  simp only[n7]
  grind
/-! P2: one for a bw and a bj. -/
def ZaU(l:List aq):Prop:=∀x∈l,∀y∈l,x.bw=y.bw->x.bj=y.bj->x=y
theorem T0{a b c:aq}(h:pj a b=YJ)(h':pj b c=YJ):pj a c=true:=by
 unfold pj at *
 grind
theorem dH(h:cn n l=YJ):aV n=YH YJ/\l.length<=120:=by
 unfold cn at h
 cases hn:aV n with
 |none=>grind
 |some b=>grind
theorem xF(h:cn n l=YJ)(hi:i<l.length):Mg n l i=YJ/\T4 n l i=true:=by
 unfold cn at h
 grind
theorem sk(h:cn n l=YJ):∀(j i:Nat) (hj:j<l.length) (yN:i<j),pj (l[i]' X9) l[j]=true:=by
 intro j
 induction j with
 |zero=>omega
 |succ j ih=>
  intro i hj yN;have h1:=(xF h hj).1;unfold Mg at h1
  have h2:pj l[j] l[j+1]=true:=by
   grind
  rcases Wv i j with h3|h3
  ·exact T0 (ih i X9 h3) h2
  grind
theorem Bs{a b:aq}(h1:a.bw=b.bw)(h2:a.bj=b.bj):pj a b=false:=by
 unfold pj
 grind
theorem Bz(h:cn n l=YJ):ZaU l:=by
 intro x hx y hy ht ME;obtain⟨i,hi,rfl⟩:=Wc hx;obtain⟨j,hj,rfl⟩:=Wc hy
 rcases Nat.lt_trichotomy i j with h1|h1|h1
 ·have:=sk h j i hj h1
  rw[Bs ht ME]at this;grind
 ·grind
 ·have:=sk h i j hi h1
  rw[Bs ht.symm ME.symm]at this;grind
def jJ(l:List aq)(bw:Int)(t:av)(wt:Int):Bool:=l.any λy=>YL (y=(⟨bw,t,wt⟩:aq))
theorem Qv(h:l.length<=1048576)(bw:Int)(t:av)(wt:Int):mO l bw t wt=YH (jJ l bw t wt):=by
 unfold mO;rw[tH (xs:=l) (p:=λy=>YL (y=(⟨bw,t,wt⟩:aq))) (r:=.inr YJ) (e:=.inl ()) (λi hi=>?_) (by simp[mr]) Yc]
 ·unfold jJ
  grind
 ·have hw:=bE hi X9
  have hg:aB l (i:Int)=YH l[i]:=by rw[aS];simp
  simp only[mr]
  grind
theorem FE{w:ax}(h:w.ar.length<=1048576)(hu:ZaU w.ar){id:Int}(ho:aB w.ae (aI (id-1))=YH o)(t:av):lF w id t=YH (jJ w.ar id t o.ab):=by
 unfold lF;have e:aD (jd w id t) NN 0=tV (λ_ (_:Unit) (x:aq)=>YH (if x.bw=id/\x.bj=t then .inr (.inr (YL (x.ab=o.ab)))else .inl ())) (λ_=>YH (.inl ())) 0 w.ar ():=by
  refine qT (A:=Unit) (λ_ i=>i) _ _ (λ_ i x hx=>?_) (λ_=>?_) Yc ()
  ·have hi:=(VT.1 hx).1
   have hw:=bE hi X9;have hg:aB w.ar (i:Int)=YH x:=by rw[aS];omega
   simp only[jd]
   grind
  ·simp[jd]
 have key:∀(l:List aq) (i:Nat),(∀x∈l,x∈w.ar)->tV (λ_ (_:Unit) (x:aq)=>YH (if x.bw=id/\x.bj=t then(.inr (.inr (YL (x.ab=o.ab))):Unit⊕(Unit⊕Bool))else .inl ())) (λ_=>YH (Sum.inl ():Unit⊕Bool)) i l ()=YH (if l.any (λy=>YL (y.bw=id/\y.bj=t))=YJ then Sum.inr (jJ l id t o.ab)else Sum.inl ()):=by
  intro l
  induction l with
  |nil=>intro i _;rfl
  |cons x l ih=>
   intro i hm;simp only[tV]
   by_cases hc:x.bw=id/\x.bj=t
   ·rw[if_pos hc]
    simp only[List.any_cons,X1 hc];show YH (Sum.inr (YL (x.ab=o.ab)):Unit⊕Bool)=_
    congr 2
    unfold jJ;rw[List.any_cons]
    by_cases hw:x.ab=o.ab
    ·have:x=(⟨id,t,o.ab⟩:aq):=by obtain⟨a,b,c⟩:=x;grind
     grind
    ·rw[X2 hw]
     symm
     rw[Bool.or_eq_false_iff];refine⟨X2 (λe=>hw (by rw[e])),?_⟩
     rw[Bool.eq_false_iff];intro h3;obtain⟨y,hy,he⟩:=List.any_eq_true.1 h3;have:=hu x (hm x (List.mem_cons_self ..)) y (hm y (List.mem_cons_of_mem _ hy)) Yd Yd
     grind
   ·simp only[VS]
    simp;have:jJ (x::l) id t o.ab=jJ l id t o.ab:=by
     unfold jJ
     grind
    grind
 rw[e,key w.ar 0 (λx h=>h)]
 cases ha:w.ar.any (λy=>YL (y.bw=id/\y.bj=t))with
 |true=>rfl
 |false=>
  symm
  unfold jJ
  grind
theorem IB{σ τ ο:Type}{f:σ->Option (σ⊕ο)}{g:τ->Option (τ⊕ο)}(φ:σ->τ)(h:∀s,g (φ s)=(f s).bind (bk (λs'=>YH (.inl (φ s'))) (λr=>YH (.inr r)))):∀(N:Nat) (s:σ),aD g N (φ s)=aD f N s
 |0,s=>rfl
 |N+1,s=>by
  simp only[aD,h]
  cases f s with
  |none=>rfl
  |some o=>
   cases o with
   |inl s'=>exact IB φ h N s'
   |inr r=>rfl
theorem JQ(h:cO n)(ht:dC n t=YH YJ):∃y,aB n.aA t.bD=YH y:=by
 unfold dC jZ at ht
 obtain⟨_,b,hb⟩:=jM h;obtain⟨_,b2,uI⟩:=rm h t.bD t.day;rw[hb]at ht
 simp only[VS,uI]at ht
 cases b with
 |false=>grind
 |true=>
  simp at ht
  subst ht;exact vv h uI
theorem qg(h:aB n.aA t.bD=YH y):∃v,bp n t=YH v:=by
 unfold bp;simp_all
theorem Ox(h:cO n)(s:bq):pv n s=cz n s:=by
 unfold pv cz;rw[(jM h).1,gE,(dh h).1,(qS h s.bj).1,qf,rU,qU]
theorem Ac(h:cO n)(s:bq):∃b,cz n s=YH b:=by
 obtain⟨_,b,hb⟩:=jM h;have hp:=(dh h).2;have wq:=ff n;have hl:=h.aA;obtain⟨_,b2,uI⟩:=qS h s.bj;unfold cz;rw[hb,hp,uI];simp only[VS,cE,oN (show(ak n).length<=4194304 by omega)]
 cases b with
 |false=>simp
 |true=>
  cases YL (1<=s.bw)&&YL (s.bw<=9999)<;>try exact⟨_,rfl⟩
  cases YL (0<=s.aP)&&YL (s.aP<=100000)<;>try exact⟨_,rfl⟩
  cases YL (0<=bf (ak n) s.place)
  all_goals
   cases b2 with
   |false=>cases YL (s.kind=1)<;>cases YL (s.kind=3)<;>cases YL (s.kind=2)<;>cases YL (s.kind=4)<;>cases YL (s.place=⟨#[]⟩)<;>exact⟨_,rfl⟩
   |true=>
    obtain⟨y,hy⟩:=JQ h uI;obtain⟨v1,hv1⟩:=qg hy;obtain⟨v2,hv2⟩:=oL hy;rw[hv1,hv2]
    cases YL (s.kind=1)<;>cases YL (s.kind=3)<;>cases YL (s.kind=2)<;>cases YL (s.kind=4)<;>cases YL (s.place=⟨#[]⟩)<;>exact⟨_,rfl⟩
theorem RR(h:cO n)(aG:List av)(a b:ByteArray)(t:Int):qz n aG a b t=eK n aG a b t:=by
 have e:aD (pM n aG b) NN (t,a,0)=aD (dn n aG b) NN (a,t,0):=by
  refine IB (f:=dn n aG b) (λs:ByteArray×Int×Int=>(s.2.1,s.1,s.2.2)) (λs=>?_) NN (a,t,0)
  unfold pM dn;simp only
  cases YL (s.2.2<(aG.length:Int))with
  |false=>rfl
  |true=>
   simp only[X5]
   cases hg:aB aG s.2.2 with
   |none=>rfl
   |some y=>
    simp only[VS,(qS h y).1,qf,rU]
    cases dC n y with
    |none=>rfl
    |some c=>
     cases c with
     |false=>rfl
     |true=>
      simp only[VS,V5,X6]
      cases aB n.aA y.bD with
      |none=>rfl
      |some g=>
       simp only[VS]
       grind
 unfold qz eK;rw[(jM h).1,(dh h).1,qU,e]
theorem w7(h:cO n){aG:List av}(hw:aG.length<=1048576)(a b:ByteArray)(t:Int):∃r,eK n aG a b t=YH r:=by
 obtain⟨_,b1,hb⟩:=jM h;have hp:=(dh h).2;have wq:=ff n;have hl:=h.aA;have e:∃o,aD (dn n aG b) NN (a,t,0)=YH o:=by
  refine vf (λk s=>∃i:Nat,i+k=aG.length/\s.2.2=(i:Int)) ?_ NN aG.length _ ⟨0,X9,rfl⟩ Yc
  rintro k ⟨p,r,s⟩ ⟨i,hi,hs⟩;simp only at hs
  subst hs;unfold dn
  rcases Wv i aG.length with bU|yM
  ·have hw:=bE bU X9
   have hg:aB aG (i:Int)=YH aG[i]:=by rw[aS];simp
   obtain⟨_,c,hc⟩:=qS h aG[i];simp only[X1 (show(i:Int)<aG.length by omega),X5,hg,VS,hc,hw]
   cases c with
   |false=>simp
   |true=>
    obtain⟨y,hy⟩:=JQ h hc;obtain⟨v1,hv1⟩:=qg hy;obtain⟨v2,hv2⟩:=oL hy;simp only[hy,hv1,hv2,VS,V5,X6]
    cases YL (y.au=p)with
    |false=>simp
    |true=>
     simp only[V5,X6]
     cases YL (v1<r)with
     |true=>simp
     |false=>exact⟨_,rfl,λs' e=>by cases e;exact⟨k-1,X9,i+1,X9,rfl⟩⟩
  ·simp only[X2 (show ¬(i:Int)<aG.length by omega),X6]
   simp
 obtain⟨o,ho⟩:=e;unfold eK;rw[hp,hb];simp only[VS,oN (show(ak n).length<=4194304 by omega),ho]
 grind
def lT(w:ax)(s0:Int):Option (Int⊕(Unit⊕Bool)):=
 cond (YL (s0<(w.ah.length:Int)))
 ((aB w.ah s0).bind λy4=>
 (aB w.ah s0).bind λy5=>
 (cA w.aa y4.bD y5.day).bind λy6=>
 cond (!y6)
 (YH (.inr (.inr YK)))
 ((bW (gg 0 s0 w.ah.length)).bind λ_=>
 (aB w.ah s0).bind λy7=>
 (dp (cH w.ah 0 s0) y7).bind λy8=>
 cond y8
 (YH (.inr (.inr YK)))
 (YH (.inl (aI (s0+1))))))
 (YH (.inr (.inl ())))
instance (w:ax):bo (lT w):=⟨λs0=>(.un::.be 0 0 0::.un::vi s0::(U 135 [])),λs0=>[YH ⟨.of 33,10,[[.sl (w.aa.aA.map bn),.sl (w.aa.off.map aE),vi w.aa.change,.sl (w.ae.map ba),.sl (w.ar.map aC),.sl (w.ah.map aW),vi w.now,.sl (w.aH.map bt),.sl (w.skip.map aE),vi w.bd]]⟩]⟩
def lU(w:ax)(s1:Int):Option (Int⊕(Unit⊕Bool)):=
 cond (YL (s1<(w.aH.length:Int)))
 ((aB w.aH s1).bind λy9=>
 (cz w.aa y9).bind λdL=>
 cond (!dL)
 (YH (.inr (.inr YK)))
 ((aB w.aH s1).bind λji=>
 cond (YL (w.now<ji.aP))
 (YH (.inr (.inr YK)))
 (YH (.inl (aI (s1+1))))))
 (YH (.inr (.inl ())))
instance (w:ax):bo (lU w):=⟨λs1=>(.un::.be 0 0 0::.un::.un::vi s1::(U 134 [])),λs1=>[YH ⟨.of 33,10,[[.sl (w.aa.aA.map bn),.sl (w.aa.off.map aE),vi w.aa.change,.sl (w.ae.map ba),.sl (w.ar.map aC),.sl (w.ah.map aW),vi w.now,.sl (w.aH.map bt),.sl (w.skip.map aE),vi w.bd]]⟩]⟩
def lV(w:ax)(s2:Int×Int):Option ((Int×Int)⊕(Int⊕Bool)):=
 cond (YL (s2.2<(w.ae.length:Int)))
 ((nK w s2.2).bind λoX=>
 cond (!oX)
 (YH (.inr (.inr YK)))
 ((aB w.ae s2.2).bind λmf=>
 YH (.inl ((aI (s2.1+(mf.aG.length:Int))),(aI (s2.2+1))))))
 (YH (.inr (.inl s2.1)))
instance (w:ax):bo (lV w):=⟨λs2=>(.un::.be 0 0 0::(U 3 (vi s2.1::vi s2.2::(U 132 [])))),λs2=>[YH ⟨.of 33,10,[[.sl (w.aa.aA.map bn),.sl (w.aa.off.map aE),vi w.aa.change,.sl (w.ae.map ba),.sl (w.ar.map aC),.sl (w.ah.map aW),vi w.now,.sl (w.aH.map bt),.sl (w.skip.map aE),vi w.bd]]⟩]⟩
def fA(w:ax):Option Bool:=
 (eI w.aa w.ar).bind λy1=>
 cond (!y1)
 (YH YK)
 ((bc w.now 0 100000).bind λy2=>
 cond (!y2)
 (YH YK)
 (cond (YL (30<(w.ae.length:Int)))
 (YH YK)
 (cond (YL (20<(w.ah.length:Int)))
 (YH YK)
 (cond (YL (200<(w.aH.length:Int)))
 (YH YK)
 (cond (YL (50<(w.skip.length:Int)))
 (YH YK)
 ((bc w.bd (w.aH.length:Int) 1000000000).bind λy3=>
 cond (!y3)
 (YH YK)
 ((aD (lT w) NN 0).bind (bk (λo0=>
 (aD (lU w) NN 0).bind (bk (λo1=>
 (aD (lV w) NN (0,0)).bind (bk (λo2=>
 YH (YL (o2=(w.ar.length:Int)))) (λr=>YH r))) (λr=>YH r))) (λr=>YH r)))))))))
instance (w:ax):CT prog (fA w):=⟨169,[.ag (fY w)],[],λr=>vb r,λr=>[],cw (fA.eq_1 ..) func169 ntmps169 results169⟩
def allI{α:Type}(c:Nat->α->Bool):Nat->List α->Bool
 |_,[]=>YJ
 |i,x::xs=>c i x&&allI c (i+1) xs
theorem cB{α:Type}{c:Nat->α->Bool}:∀{xs:List α} {i:Nat},allI c i xs=YJ↔∀(j:Nat) (x:α),xs[j]?=YH x->c (i+j) x=YJ
 | [],i=>by simp[allI]
 |x::xs,i=>by
  simp only[allI,Bool.and_eq_true,cB];constructor
  ·grind
  ·intro h
   exact⟨h 0 x rfl,λj y hj=>by have:=h (j+1) y Yd;grind⟩
theorem GY{α:Type}(c d:Nat->α->Bool):∀(xs:List α) (i:Nat),allI (λi x=>c i x&&d i x) i xs=(allI c i xs&&allI d i xs)
 | [],i=>rfl
 |x::xs,i=>by
  simp only[allI,GY c d xs (i+1)]
  grind
theorem Ka{α:Type}{c d:Nat->α->Bool}{xs:List α}(h:∀(j:Nat) (x:α),xs[j]?=YH x->c (i+j) x=d (i+j) x):allI c i xs=allI d i xs:=by
 rw[Bool.eq_iff_iff,cB,cB]
 grind
theorem fD{A α σ γ:Type}{xs:List α}{body:σ->Option (σ⊕(γ⊕Bool))}(mk:A->Int->σ)(c:Nat->α->Bool)(f:A->α->A)(g:A->γ)
 (h1:∀a (i:Nat) x,xs[i]?=YH x->body (mk a i)=YH (if c i x=YJ then .inl (mk (f a x) ((i+1:Nat):Int))else .inr (.inr YK)))
 (h2:∀a,body (mk a (xs.length:Int))=YH (.inr (.inl (g a)))) (hN:xs.length<NN) (a:A):aD body NN (mk a 0)=YH (if allI c 0 xs=YJ then .inl (g (xs.foldl f a))else .inr YK):=by
 rw[qT mk (λi a x=>YH (if c i x=YJ then .inl (f a x)else .inr (.inr YK))) (λa=>YH (.inl (g a))) (λa i x hx=>by grind) (λa=>by grind) hN a]
 have key:∀(xs:List α) (i:Nat) (a:A),tV (λi a x=>YH (if c i x=YJ then(.inl (f a x):A⊕(γ⊕Bool))else .inr (.inr YK))) (λa=>YH (.inl (g a))) i xs a=YH (if allI c i xs=YJ then .inl (g (xs.foldl f a))else .inr YK):=by
  intro xs
  induction xs with
  |nil=>intro i a;rfl
  |cons x xs ih=>
   simp only[tV,allI]
   grind
 grind
/-! The parts of an Zfc test. -/
def fV(n:aj)(t:av):Bool:=(cA n t.bD t.day).getD YK
def cg(n:aj)(t:av):ByteArray:=((aB n.aA t.bD).map (·.a8)).getD ⟨#[]⟩
def dx(l:List av)(t:av):Bool:=l.any λy=>YL (y=t)
theorem uB(h:cO n)(t:av):cA n t.bD t.day=YH (fV n t):=by
 obtain⟨_,b,hb⟩:=rm h t.bD t.day;unfold fV;grind
theorem fa(h:cO n)(ht:fV n t=YJ):∃y,aB n.aA t.bD=YH y/\y∈n.aA:=by
 have:=uB h t;rw[ht]at this
 obtain⟨y,hy⟩:=vv h this;exact⟨y,hy,su hy⟩
def tY(w:ax)(id:Int)(o:az)(i:Nat)(t:av):Bool:=fV w.aa t&&jJ w.ar id t o.ab&&!(YL (cg w.aa t=o.a8)&&YL (i+1<o.aG.length))
def Av(n:aj)(o:az):ByteArray:=o.aG.foldl (λ_ t=>cg n t) o.au
def bb(o:az):Int:=if o.state=2 then o.aN+1 else o.aN
def jR(w:ax)(i:Nat)(o:az):Bool:=
 !decide (bf (ak w.aa) o.au<0)&&!decide (bf (ak w.aa) o.a8<0)&&!decide (o.au=o.a8)&&(YL (1<=o.ay)&&YL (o.ay<=3))&&(YL (1<=o.ab)&&YL (o.ab<=30000))&&(YL (0<=o.aP)&&YL (o.aP<=w.now))&&(YL (0<=o.dW)&&YL (o.dW<=200000))&&(YL (0<=o.aN)&&YL (o.aN<=(o.aG.length:Int))) &&
  allI (tY w ((i+1:Nat):Int) o) 0 o.aG&&(eK w.aa o.aG o.au (Av w.aa o) (aI (o.aP+1))).getD YK&&(cb w.aa o w.now).getD YK&&!((o.aG.drop (bb o).toNat).any (dx w.ah))
structure qp(w:ax):Prop where
 eO:cO w.aa
 ae:w.ae.length<=1048576
 ar:w.ar.length<=1048576
 ah:w.ah.length<=1048576
 aH:w.aH.length<=1048576
 skip:w.skip.length<=1048576
 aG:∀o∈w.ae,o.aG.length<=1048576
theorem C6(hg:0<=o.aN/\o.aN<=o.aG.length)(hl:o.aG.length<=1048576)(hw:∀t∈o.aG,∃y,aB n.aA t.bD=YH y)(now:Int):∃b,cb n o now=YH b:=by
 have Dt:∀(i:Int),0<=i->i<o.aG.length->∃t y,aB o.aG i=YH t/\aB n.aA t.bD=YH y:=by
  intro i h0 h1;have bU:i.toNat<o.aG.length:=X9;obtain⟨y,hy⟩:=hw o.aG[i.toNat] (List.getElem_mem bU);exact⟨o.aG[i.toNat],y,by unfold aB;simp_all,hy⟩
 have wY:aI (o.aN-1)=o.aN-1:=aR X9;have Ih:o.aN<o.aG.length->∃t s e,aB o.aG o.aN=YH t/\bp n t=YH s/\bl n t=YH e:=by
  intro h1;obtain⟨t,y,ht,hy⟩:=Dt o.aN hg.1 h1;obtain⟨s,hs⟩:=qg hy;obtain⟨e,he⟩:=oL hy
  simp_all
 unfold cb;rw[wY]
 by_cases h0:0<o.aN
 ·rw[X1 h0,X5]
  obtain⟨t,y,ht,hy⟩:=Dt (o.aN-1) X9 X9;obtain⟨e,he⟩:=oL hy;simp only[ht,hy,he,VS]
  cases YL (now<e)with
  |true=>simp
  |false=>
   simp only[X6]
   by_cases h1:o.aN<o.aG.length
   ·obtain⟨t2,s2,e2,ht2,Ay,he2⟩:=Ih h1
    simp only[ht2,Ay,he2,VS]
    cases YL (o.state=1)<;>cases YL (o.state=2)<;>cases YL (o.state=3)<;>cases YL (o.place=y.a8)<;>cases YL (y.a8=o.a8)<;>cases YL (o.bB=0)<;>cases YL (o.aN=(o.aG.length:Int))<;>cases YL (o.place=⟨#[]⟩)<;>cases YL (o.aN<(o.aG.length:Int))<;>cases YL (s2<=now)<;>cases YL (o.place=o.a8)<;>exact⟨_,rfl⟩
   ·rw[X1 (show o.aN=(o.aG.length:Int)by omega),X2 h1]
    cases YL (o.state=1)<;>cases YL (o.state=2)<;>cases YL (o.state=3)<;>cases YL (o.place=y.a8)<;>cases YL (y.a8=o.a8)<;>cases YL (o.bB=0)<;>cases YL (o.place=⟨#[]⟩)<;>cases YL (o.place=o.a8)<;>exact⟨_,rfl⟩
 ·rw[X2 h0,X6]
  by_cases h1:o.aN<o.aG.length
  ·obtain⟨t2,s2,e2,ht2,Ay,he2⟩:=Ih h1
   simp only[ht2,Ay,he2,VS]
   cases YL (o.state=1)<;>cases YL (o.state=2)<;>cases YL (o.state=3)<;>cases YL (o.place=o.au)<;>cases YL (o.au=o.a8)<;>cases YL (o.bB=0)<;>cases YL (o.aN=(o.aG.length:Int))<;>cases YL (o.place=⟨#[]⟩)<;>cases YL (o.aN<(o.aG.length:Int))<;>cases YL (s2<=now)<;>cases YL (o.place=o.a8)<;>exact⟨_,rfl⟩
  ·rw[X1 (show o.aN=(o.aG.length:Int)by omega),X2 h1]
   cases YL (o.state=1)<;>cases YL (o.state=2)<;>cases YL (o.state=3)<;>cases YL (o.place=o.au)<;>cases YL (o.au=o.a8)<;>cases YL (o.bB=0)<;>cases YL (o.place=⟨#[]⟩)<;>cases YL (o.place=o.a8)<;>exact⟨_,rfl⟩
theorem Hl{w:ax}(hc:w.ah.length<=1048576)(hl:o.aG.length<=1048576){k:Int}(h0:0<=k):aD (iR w o) NN k=YH (if(o.aG.drop k.toNat).any (dx w.ah)=YJ then .inr YK else .inl ()):=by
 have key:∀(ts:List av) (i N:Nat),o.aG.drop i=ts->ts.length<N->aD (iR w o) N (i:Int)=YH (if ts.any (dx w.ah)=YJ then .inr YK else .inl ()):=by
  intro ts
  induction ts with
  |nil=>
   intro i N hd hN
   cases N with
   |zero=>omega
   |succ N=>
    simp only[aD,iR]
    grind
  |cons t ts ih=>
   intro i N hd hN
   cases N with
   |zero=>omega
   |succ N=>
    have ht:o.aG[i]?=YH t:=by
     have:=congrArg (λl:List av=>l[0]?) hd
     grind
    have bU:=(VT.1 ht).1;have wV:o.aG.drop (i+1)=ts:=by
     have:=congrArg (List.drop 1) hd
     simpa using this
    have hg:aB o.aG (i:Int)=YH t:=by rw[aS];omega
    simp only[aD,iR];rw[X1 (show(i:Int)<o.aG.length by omega),hg]
    simp;rw[jX,jk hc,bE bU X9];have Od:(w.ah.any λy=>YL (y=t))=dx w.ah t:=rfl
    grind
 have:=key (o.aG.drop k.toNat) k.toNat NN rfl (by simp;unfold NN;omega)
 grind
theorem zO(cl:av->Bool)(k:Int):∀(ts:List av) (i:Nat),allI (λi t=>!(YL (k<=(i:Int))&&cl t)) i ts=!((ts.drop (k-i).toNat).any cl)
 | [],i=>by simp[allI]
 |t::ts,i=>by
  simp only[allI,zO cl k ts (i+1)]
  by_cases h:k<=(i:Int)
  ·rw[X1 h,show(k-(i:Int)).toNat=0 by omega,show(k-((i+1:Nat):Int)).toNat=0 by omega]
   simp
  ·obtain⟨m,hm⟩:∃m,(k-(i:Int)).toNat=m+1:=⟨(k-(i:Int)).toNat-1,X9⟩
   grind
theorem sR(h:0<=o.aN/\o.aN<=o.aG.length)(hl:o.aG.length<=1048576):e9 o=YH (bb o)/\0<=bb o/\gI o=YH (if(o.aG.length:Int)<bb o then(o.aG.length:Int)else bb o):=by
 unfold e9 gI bb;have hw:aI (o.aN+1)=o.aN+1:=aR X9
 grind
section
variable {w:ax} (hf:qp w) (hb:cn w.aa w.ar=YJ)
include hf hb
theorem Tv(hl:o.aG.length<=1048576)(i:Nat)(hi:i<1048576):aD (kF w (i:Int) o) NN (o.au,0)=YH (if allI (tY w ((i+1:Nat):Int) o) 0 o.aG=YJ then .inl (Av w.aa o)else .inr YK):=by
 refine fD (A:=ByteArray) (λa i=>(a,i)) _ (λ_ t=>cg w.aa t) id (λa j t ht=>?_) (λa=>?_) Yc o.au
 ·have bU:=(VT.1 ht).1
  have hg:aB o.aG (j:Int)=YH t:=by rw[aS];omega
  have hj:aI ((j:Int)+1)=((j+1:Nat):Int):=bE bU X9;have hi1:aI ((i:Int)+1)=((i+1:Nat):Int):=by rw[aR X9];omega
  unfold kF;simp only[X1 (show(j:Int)<o.aG.length by omega),hg,VS,uB hf.eO,Qv hf.ar]
  unfold tY
  cases Ei:fV w.aa t with
  |false=>simp
  |true=>
   obtain⟨y,hy,_⟩:=fa hf.eO Ei;have Zb4:cg w.aa t=y.a8:=by unfold cg;grind
   grind
 ·unfold kF
  simp
theorem Tu(hl:o.aG.length<=1048576)(i:Nat)(hi:i<1048576)(ho:aB w.ae (i:Int)=YH o)(hg0:0<=o.aN/\o.aN<=o.aG.length):
 aD (lG w ((i+1:Nat):Int) o) NN (o.au,0)=YH (if(allI (tY w ((i+1:Nat):Int) o) 0 o.aG&&!((o.aG.drop (bb o).toNat).any (dx w.ah)))=YJ then .inl (Av w.aa o)else .inr YK):=by
 obtain⟨c1,c2,c3⟩:=sR hg0 hl;have tD:(!((o.aG.drop (bb o).toNat).any (dx w.ah)))=allI (λj t=>!(YL ((if(o.aG.length:Int)<bb o then(o.aG.length:Int)else bb o)<=(j:Int))&&dx w.ah t)) 0 o.aG:=by
  rw[zO]
  split
  ·rw[List.drop_eq_nil_of_le X9,List.drop_eq_nil_of_le X9]
  simp
 rw[tD,<-GY];have qj:=(dH hb).1;refine fD (A:=ByteArray) (λa i=>(a,i)) _ (λ_ t=>cg w.aa t) id (λa j t ht=>?_) (λa=>?_) Yc o.au
 ·have bU:=(VT.1 ht).1
  have hg:aB o.aG (j:Int)=YH t:=by rw[aS];omega
  have hj:aI ((j:Int)+1)=((j+1:Nat):Int):=bE bU X9;have wY:aI ((o.aG.length:Int)-1)=(o.aG.length:Int)-1:=aR X9;have yO:aB w.ae (aI (((i+1:Nat):Int)-1))=YH o:=by rw[aR X9,show((i+1:Nat):Int)-1=(i:Int)by omega];omega
  unfold lG;simp only[X1 (show(j:Int)<o.aG.length by omega),hg,VS,x9 hf.eO qj,uB hf.eO,FE hf.ar (Bz hb) yO,c3,jk hf.ah]
  unfold tY
  cases Ei:fV w.aa t with
  |false=>simp
  |true=>
   obtain⟨y,hy,_⟩:=fa hf.eO Ei;have Zb4:cg w.aa t=y.a8:=by unfold cg;grind
   cases jJ w.ar ((i+1:Nat):Int) t o.ab with
   |false=>simp
   |true=>
    generalize (if(o.aG.length:Int)<bb o then(o.aG.length:Int)else bb o)=k
    have AS:dx w.ah t=w.ah.any λy=>YL (y=t):=rfl
    grind
 ·unfold lG
  simp
theorem E7(hl:o.aG.length<=1048576)(hg0:0<=o.aN/\o.aN<=o.aG.length)(h:allI (tY w ((i+1:Nat):Int) o) 0 o.aG=YJ):cb w.aa o w.now=YH ((cb w.aa o w.now).getD YK):=by
 obtain⟨b,FF⟩:=C6 (n:=w.aa) hg0 hl (λt ht=>by
  obtain⟨j,hj,rfl⟩:=Wc ht;have:=cB.1 h j _ (VU hj);unfold tY at this
  simp at this
  obtain⟨y,hy,_⟩:=fa hf.eO this.1.1
  grind) w.now
 grind
theorem LU(ho:aB w.ae (i:Int)=YH o):nK w (i:Int)=YH (jR w i o):=by
 have hl:=hf.aG o (su ho);have hi:i<1048576:=by have:=(VT.1 (by rw[<-aS];exact ho)).1;have:=hf.ae;omega
 have hp:=(dh hf.eO).2;have wq:=ff w.aa;have Il:=hf.eO.aA;unfold nK jR;rw[ho,hp];simp only[VS,cE,oN (show(ak w.aa).length<=4194304 by omega)]
 cases YL (bf (ak w.aa) o.au<0)with
 |true=>rfl
 |false=>
 cases YL (bf (ak w.aa) o.a8<0)with
 |true=>rfl
 |false=>
 cases YL (o.au=o.a8)with
 |true=>rfl
 |false=>
 cases YL (1<=o.ay)&&YL (o.ay<=3)with
 |false=>rfl
 |true=>
 cases YL (1<=o.ab)&&YL (o.ab<=30000)with
 |false=>rfl
 |true=>
 cases YL (0<=o.aP)&&YL (o.aP<=w.now)with
 |false=>rfl
 |true=>
 cases YL (0<=o.dW)&&YL (o.dW<=200000)with
 |false=>rfl
 |true=>
 cases hg:YL (0<=o.aN)&&YL (o.aN<=(o.aG.length:Int))with
 |false=>rfl
 |true=>
 simp at hg
 obtain⟨c1,c2,c3⟩:=sR hg hl;simp only[V5];rw[Tv hf hb hl i hi]
 cases hal:allI (tY w ((i+1:Nat):Int) o) 0 o.aG with
 |false=>rfl
 |true=>
 have uL:=E7 hf hb hl hg hal;obtain⟨r,hr⟩:=w7 hf.eO hl o.au (Av w.aa o) (aI (o.aP+1));simp only[if_true,VS,bk,hr]
 cases r with
 |false=>rfl
 |true=>
 rw[uL];simp
 cases(cb w.aa o w.now).getD YK with
 |false=>rfl
 |true=>
 simp only[VS,c1,Hl hf.ah hl c2]
 grind
theorem KJ(ho:aB w.ae (i:Int)=YH o):oj w ((i+1:Nat):Int) (ak w.aa)=YH (jR w i o):=by
 have hl:=hf.aG o (su ho);have hi:i<1048576:=by have:=(VT.1 (by rw[<-aS];exact ho)).1;have:=hf.ae;omega
 have wq:=ff w.aa;have Il:=hf.eO.aA;have yO:aB w.ae (aI (((i+1:Nat):Int)-1))=YH o:=by rw[aR X9,show((i+1:Nat):Int)-1=(i:Int)by omega];omega
 unfold oj jR;rw[yO,gE,qU];simp only[VS,cE,oN (show(ak w.aa).length<=4194304 by omega)]
 cases YL (o.au=o.a8)with
 |true=>simp
 |false=>
 cases YL (bf (ak w.aa) o.au<0)with
 |true=>rfl
 |false=>
 cases YL (bf (ak w.aa) o.a8<0)with
 |true=>rfl
 |false=>
 cases YL (1<=o.ay)&&YL (o.ay<=3)with
 |false=>rfl
 |true=>
 cases YL (1<=o.ab)&&YL (o.ab<=30000)with
 |false=>rfl
 |true=>
 cases YL (0<=o.aP)&&YL (o.aP<=w.now)with
 |false=>rfl
 |true=>
 cases YL (0<=o.dW)&&YL (o.dW<=200000)with
 |false=>rfl
 |true=>
 cases hg:YL (0<=o.aN)&&YL (o.aN<=(o.aG.length:Int))with
 |false=>rfl
 |true=>
 simp at hg
 simp only[V5];rw[Tu hf hb hl i hi ho hg]
 cases hal:allI (tY w ((i+1:Nat):Int) o) 0 o.aG with
 |false=>rfl
 |true=>
 have uL:=E7 hf hb hl hg hal;obtain⟨r,hr⟩:=w7 hf.eO hl o.au (Av w.aa o) (aI (o.aP+1));simp only[Bool.true_and];rw[hr]
 cases(o.aG.drop (bb o).toNat).any (dx w.ah)with
 |true=>simp
 |false=>
 simp only[RR hf.eO,Ti]
 grind
end
def plB(s:ByteArray):Bool:=(bT s).getD YK
theorem M0(h:s.size<=rq):bT s=YH (plB s):=by
 obtain⟨_,b,hb⟩:=l7 h;unfold plB;grind
theorem Su(h:s.size<=rq):dM s=YH (plB s):=(l7 h).1.trans (M0 h)
theorem Zam(a b:ByteArray):LO a b=!qM b a:=by
 have h1:LO a b=(qM a b ||(a.toList==b.toList)):=rfl;rw[h1,baB]
 by_cases e:a=b
 ·have:=Gr a
  grind
 ·cases h:qM a b with
  |true=>
   have:=S6 a b h
   grind
  |false=>
   have:=M9 (a:=a) (b:=b) Yd e
   grind
def Zbj(o:Option bI)(z:bI):Bool:=match o with
 |some y=>qM y.last z.first
 |none=>YK
theorem Nw(y z:bI):Zbj (YH y) z=qM y.last z.first:=rfl
def JW(l:List bI)(i:Nat)(z:bI):Bool:=
 plB z.first&&(plB z.last&&(LO z.first z.last&&(YL (i=0) ||Zbj l[i-1]? z)))
def rM(l:List bI):Bool:=allI (JW l) 0 l&&YL ((l.length:Int)<=8)
def rF(l:List bI):Prop:=l.length<=1048576/\∀z∈l,z.first.size<=rq/\z.last.size<=rq
theorem yK{i n:Nat}(h0:0<i)(hi:i<n)(hn:n<=1048576):aI ((i:Int)-1)=((i-1:Nat):Int):=by
 rw[aR X9];omega
theorem GK{l:List bI}(hf:rF l):jx l=YH (rM l):=by
 have e:aD (kB l) NN 0=YH (if allI (JW l) 0 l=YJ then .inl ()else .inr YK):=by
  refine fD (A:=Unit) (λ_ i=>i) _ (λa _=>a) (λ_=>()) (λa i z hz=>?_) (λa=>?_) (by have:=hf.1;unfold NN;omega) ()
  ·have bU:=(VT.1 hz).1
   have hl:=hf.1;obtain⟨p1,p2⟩:=hf.2 z (VV hz);have hg:aB l (i:Int)=YH z:=by rw[aS];omega
   have hi:aI ((i:Int)+1)=((i+1:Nat):Int):=bE bU X9;unfold kB;simp only[o4,hg,VS,M0 p1,M0 p2];unfold JW
   by_cases h0:i=0
   ·grind
   ·have hp:=yK (Xj h0) bU hl
    obtain⟨y,hy⟩:∃y,l[i-1]?=YH y:=⟨_,VU X9⟩;have hgy:aB l ((i-1:Nat):Int)=YH y:=by rw[aS];omega
    rw[hp,hy,Nw]
    grind
  ·unfold kB
   simp
 unfold jx rM
 grind
theorem GJ{l:List bI}(hf:rF l):ju l=YH (rM l):=by
 have e:aD (km l) NN 0=YH (if allI (JW l) 0 l=YJ then .inl ()else .inr YK):=by
  refine fD (A:=Unit) (λ_ i=>i) _ (λa _=>a) (λ_=>()) (λa i z hz=>?_) (λa=>?_) (by have:=hf.1;unfold NN;omega) ()
  ·have bU:=(VT.1 hz).1
   have hl:=hf.1;obtain⟨p1,p2⟩:=hf.2 z (VV hz);have hg:aB l (i:Int)=YH z:=by rw[aS];omega
   have hi:aI ((i:Int)+1)=((i+1:Nat):Int):=bE bU X9;unfold km;simp only[o4,hg,VS,Su p1,Su p2];unfold JW
   by_cases h0:i=0
   ·grind
   ·have hp:=yK (Xj h0) bU hl
    obtain⟨y,hy⟩:∃y,l[i-1]?=YH y:=⟨_,VU X9⟩;have hgy:aB l ((i-1:Nat):Int)=YH y:=by rw[aS];omega
    rw[hp,hgy,hy,Nw];simp only[VS,Zam z.first y.last]
    grind
  ·unfold km
   simp
 unfold ju rM
 grind
def ub(a b:bL):Bool:=YL (a.nt<b.nt) ||(YL (b.nt=a.nt)&&(YL (a.ay<b.ay) ||(YL (b.ay=a.ay)&&(YL (a.nU<b.nU)&&YL (a.kQ<=b.kQ)))))
theorem TT(a b:bL):oE a b=YH (ub a b):=by
 unfold oE ub
 grind
def S3(o:Option bL)(r:bL):Bool:=match o with
 |some y=>ub y r
 |none=>YK
theorem Gq(y r:bL):S3 (YH y) r=ub y r:=rfl
def EJ(l:List bL)(aY:Int)(i:Nat)(r:bL):Bool:=
 !decide (r.nt<0)&&(!decide (aY<=r.nt)&&((YL (1<=r.ay)&&YL (r.ay<=3))&&((YL (1<=r.nU)&&YL (r.nU<=1000000000))&&((YL (0<=r.kQ)&&YL (r.kQ<=100000))&&(YL (i=0) ||S3 l[i-1]? r)))))
def rJ(l:List bL)(aY:Int):Bool:=allI (EJ l aY) 0 l&&YL ((l.length:Int)<=24)
theorem M4{l:List bL}(hl:l.length<=1048576):lj l aY=YH (rJ l aY):=by
 have e:aD (kA l aY) NN 0=YH (if allI (EJ l aY) 0 l=YJ then .inl ()else .inr YK):=by
  refine fD (A:=Unit) (λ_ i=>i) _ (λa _=>a) (λ_=>()) (λa i z hz=>?_) (λa=>?_) Yc ()
  ·have bU:=(VT.1 hz).1
   have hg:aB l (i:Int)=YH z:=by rw[aS];omega
   have hi:aI ((i:Int)+1)=((i+1:Nat):Int):=bE bU X9;unfold kA;simp only[o4,hg,VS,cE];unfold EJ;generalize (YL (0<=z.kQ)&&YL (z.kQ<=100000))=c3
   by_cases h0:i=0
   ·grind
   ·have hp:=yK (Xj h0) bU hl
    obtain⟨y,hy⟩:∃y,l[i-1]?=YH y:=⟨_,VU X9⟩;have hgy:aB l ((i-1:Nat):Int)=YH y:=by rw[aS];omega
    rw[hp,hy,Gq];simp only[TT]
    grind
  ·unfold kA
   simp
 unfold lj rJ
 grind
theorem TR(a b:bL)(h:¬(0<=(if tr a.nt b.nt≠0 then tr a.nt b.nt else if tr a.ay b.ay≠0 then tr a.ay b.ay else tr a.nU b.nU))):ub a b=!(YL (a.nt=b.nt)&&(YL (a.ay=b.ay)&&YL (b.kQ<a.kQ))):=by
 unfold tr at h
 unfold ub
 grind
theorem TS(a b:bL)(h:0<=(if tr a.nt b.nt≠0 then tr a.nt b.nt else if tr a.ay b.ay≠0 then tr a.ay b.ay else tr a.nU b.nU)):ub a b=false:=by
 unfold tr at h
 unfold ub
 grind
theorem M3{l:List bL}(hl:l.length<=1048576):kY l aY=YH (rJ l aY):=by
 have e:aD (kl l aY) NN 0=YH (if allI (EJ l aY) 0 l=YJ then .inl ()else .inr YK):=by
  refine fD (A:=Unit) (λ_ i=>i) _ (λa _=>a) (λ_=>()) (λa i z hz=>?_) (λa=>?_) Yc ()
  ·have bU:=(VT.1 hz).1
   have hg:aB l (i:Int)=YH z:=by rw[aS];omega
   have hi:aI ((i:Int)+1)=((i+1:Nat):Int):=bE bU X9;unfold kl;simp only[o4,X1 (show(i:Int)<l.length by omega),hg,VS,tZ]
   unfold EJ;generalize (YL (0<=z.kQ)&&YL (z.kQ<=100000))=c3
   by_cases h0:i=0
   ·grind
   ·have hp:=yK (Xj h0) bU hl
    obtain⟨y,hy⟩:∃y,l[i-1]?=YH y:=⟨_,VU X9⟩;have hgy:aB l ((i-1:Nat):Int)=YH y:=by rw[aS];omega
    rw[X2 (show ¬((i:Int)=0)by omega),X2 h0,hp,hgy,hy,Gq]
    simp only[VS,QB,Q1]
    by_cases hc:0<=(if tr y.nt z.nt≠0 then tr y.nt z.nt else if tr y.ay z.ay≠0 then tr y.ay z.ay else tr y.nU z.nU)
    ·rw[X1 hc,TS y z hc]
     simp
    ·rw[TR y z hc]
     grind
  ·unfold kl
   simp
 unfold kY rJ
 grind
theorem L5:@oR=@iQ:=by
 funext l q i
 unfold oR iQ;simp only[o4]
 cases aB l i<;>rfl
theorem GI{l:List bI}(hl:l.length<=1048576)(q:ByteArray):∃o,aD (iQ l q) NN 0=YH o:=by
 refine yd (n:=l.length) Yc (λi hi=>?_) ?_
 ·have hg:aB l (i:Int)=YH l[i]:=by rw[aS];simp
  have hw:aI ((i:Int)+1)=((i+1:Nat):Int):=bE hi X9;unfold iQ;simp only[o4,X1 (show(i:Int)<l.length by omega),hg,VS,hw]
  cases LO l[i].first q<;>cases LO q l[i].last
  all_goals simp
 ·unfold iQ
  simp
theorem PQ{l:List bI}(hf:rF l){q:ByteArray}(hq:q.size<=rq):px l q=nQ l q/\∃v,nQ l q=YH v:=by
 unfold px nQ;rw[GJ hf,GK hf,L5,Su hq,M0 hq];refine⟨rfl,?_⟩;obtain⟨o,ho⟩:=GI hf.1 q;rw[ho]
 cases rM l<;>cases plB q<;>(try exact⟨_,rfl⟩)
 cases o<;>exact⟨_,rfl⟩
theorem PL{l:List Int}(h:l.length<NN):nD l=lp l/\∃v,lp l=YH v:=by
 unfold nD lp;rw[Dc,yJ h];refine⟨rfl,?_⟩
 cases ht:rL l with
 |false=>simp
 |true=>
  match l,wj ht with
  | [x,y,z],_=>exact⟨_,rfl⟩
theorem NJ(h1:p.label.a8.size<=rq)(h2:p.au.size<=rq)(h3:p.bH.length<NN):gX p=fQ p/\∃v,fQ p=YH v:=by
 obtain⟨e1,b,hb⟩:=tR h1 h2 h3;obtain⟨e2,v,hv⟩:=PL h3;unfold gX fQ
 grind
theorem Pc{z:Int}(hc:gX p=fQ p):nW aX p z=gS aX p z:=by
 funext i
 unfold nW gS;simp only[o4,hc]
 cases hg:aB aX i with
 |none=>simp
 |some y=>rfl
theorem yu{aY:List bI}(hz:rF aY)(hr:aX.length<=1048576)(h1:p.label.a8.size<=rq)(h2:p.au.size<=rq)(h3:p.bH.length<NN):
 kr aY aX p=gR aY aX p/\∃v,gR aY aX p=YH v:=by
 obtain⟨e1,b,hb⟩:=tR h1 h2 h3;obtain⟨e2,z,hv⟩:=PQ hz h1;obtain⟨e3,cw,hcw⟩:=NJ h1 h2 h3;have hL:∃o,aD (gS aX p z) NN 0=YH o:=by
  refine yd (n:=aX.length) Yc (λi hi=>?_) ?_
  ·have hg:aB aX (i:Int)=YH aX[i]:=by rw[aS];simp
   have hw:aI ((i:Int)+1)=((i+1:Nat):Int):=bE hi X9;unfold gS;simp only[o4,X1 (show(i:Int)<aX.length by omega),hg,VS,hw,hcw]
   cases YL (aX[i].nt=z)<;>cases YL (aX[i].ay=p.label.ay)<;>cases YL (cw<=aX[i].nU)<;>(first|exact Nj rfl|simp)
  ·unfold gS
   simp
 obtain⟨o,ho⟩:=hL;unfold kr gR;rw[GJ hz,GK hz,M3 hr,M4 hr,e1,e2,hb,hv];simp only[VS,Pc e3,ho];refine⟨trivial,?_⟩
 cases rM aY
 ·simp
 cases rJ aX (aY.length:Int)
 ·simp
 cases b
 ·simp
 cases o<;>exact⟨_,rfl⟩
def ib(w:ax)(s0:Int×Int):Option ((Int×Int)⊕Int):=
 cond (YL (s0.1<(w.ae.length:Int)))
 ((aB w.ae s0.1).bind λy2=>
 cond (YL (y2.aN=(y2.aG.length:Int)))
 (YH (.inl ((aI (s0.1+1)),s0.2)))
 ((aB y2.aG y2.aN).bind λy3=>
 (bp w.aa y3).bind λy4=>
 cond (YL (y2.state=2))
 ((aB y2.aG y2.aN).bind λy5=>
 (bl w.aa y5).bind λy6=>
 cond (YL (s0.2<0))
 (YH (.inl ((aI (s0.1+1)),y6)))
 (cond (YL (y6<s0.2))
 (YH (.inl ((aI (s0.1+1)),y6)))
 (YH (.inl ((aI (s0.1+1)),s0.2)))))
 (cond (YL (s0.2<0))
 (YH (.inl ((aI (s0.1+1)),y4)))
 (cond (YL (y4<s0.2))
 (YH (.inl ((aI (s0.1+1)),y4)))
 (YH (.inl ((aI (s0.1+1)),s0.2)))))))
 (YH (.inr s0.2))
instance (w:ax):bo (ib w):=⟨λs0=>(.un::.be 0 0 0::.un::vi s0.2::vi s0.1::(U 54 [])),λs0=>[YH ⟨.of 33,10,[[.sl (w.aa.aA.map bn),.sl (w.aa.off.map aE),vi w.aa.change,.sl (w.ae.map ba),.sl (w.ar.map aC),.sl (w.ah.map aW),vi w.now,.sl (w.aH.map bt),.sl (w.skip.map aE),vi w.bd]]⟩]⟩
def mK(w:ax):Option Int:=
 (fA w).bind λy1=>
 cond (!y1)
 (YH (-1))
 ((aD (ib w) NN (0,(-1))).bind (λo0=>
 YH o0))
instance (w:ax):CT prog (mK w):=⟨227,[.ag (fY w)],[],λr=>vi r,λr=>[],cw (mK.eq_1 ..) func227 ntmps227 results227⟩
def jN(bM:Int)(s0:Int×Int×Int×Int×(List bK)×(List Int)×(List az)×(List aq)×(List av)×(List bq)×(List Int)):Option ((Int×Int×Int×Int×(List bK)×(List Int)×(List az)×(List aq)×(List av)×(List bq)×(List Int))⊕(Int×Int×Int×(List bK)×(List Int)×(List az)×(List aq)×(List av)×(List bq)×(List Int))):=
 cond (YL (0<=s0.1))
 (cond (YL (s0.1<=bM))
 ((bh [1,2,3,4,5,6,7,8]).bind λ_=>
 (lI (⟨(⟨s0.2.2.2.2.1,s0.2.2.2.2.2.1,s0.2.1⟩:aj),s0.2.2.2.2.2.2.1,s0.2.2.2.2.2.2.2.1,s0.2.2.2.2.2.2.2.2.1,s0.2.2.1,s0.2.2.2.2.2.2.2.2.2.1,s0.2.2.2.2.2.2.2.2.2.2,s0.2.2.2.1⟩:ax) s0.1).bind λy5=>
 (gw y5).bind λy6=>
 YH (.inl (y6,y5.aa.change,y5.now,y5.bd,y5.aa.aA,y5.aa.off,y5.ae,y5.ar,y5.ah,y5.aH,y5.skip)))
 (YH (.inr (s0.2.1,s0.2.2.1,s0.2.2.2.1,s0.2.2.2.2.1,s0.2.2.2.2.2.1,s0.2.2.2.2.2.2.1,s0.2.2.2.2.2.2.2.1,s0.2.2.2.2.2.2.2.2.1,s0.2.2.2.2.2.2.2.2.2.1,s0.2.2.2.2.2.2.2.2.2.2))))
 (YH (.inr (s0.2.1,s0.2.2.1,s0.2.2.2.1,s0.2.2.2.2.1,s0.2.2.2.2.2.1,s0.2.2.2.2.2.2.1,s0.2.2.2.2.2.2.2.1,s0.2.2.2.2.2.2.2.2.1,s0.2.2.2.2.2.2.2.2.2.1,s0.2.2.2.2.2.2.2.2.2.2)))
instance (bM:Int):bo (jN bM):=⟨λs0=>(.un::vi bM::.un::.un::.be 0 0 0::.be 1 0 0::vi s0.1::(U 29 [])),λs0=>[YH ⟨.of 33,10,[[.v (.slice YI 0 0),.v (.slice YI 0 0),vi 0,.v (.slice YI 0 0),.v (.slice YI 0 0),.v (.slice YI 0 0),vi 0,.v (.slice YI 0 0),.v (.slice YI 0 0),vi 0]]⟩,YH ⟨.of 33,10,[[.ms 2,.ms 3,vi s0.2.1,.ms 4,.ms 5,.ms 6,vi s0.2.2.1,.ms 7,.ms 8,vi s0.2.2.2.1]]⟩,YH ⟨.of 144,6,s0.2.2.2.2.1.map bn⟩,YH ⟨.of 3,1,s0.2.2.2.2.2.1.map aE⟩,YH ⟨⟨94,YH 46⟩,11,s0.2.2.2.2.2.2.1.map ba⟩,YH ⟨.of 147,4,s0.2.2.2.2.2.2.2.1.map aC⟩,YH ⟨.of 46,2,s0.2.2.2.2.2.2.2.2.1.map aW⟩,YH ⟨.of 151,6,s0.2.2.2.2.2.2.2.2.2.1.map bt⟩,YH ⟨.of 3,1,s0.2.2.2.2.2.2.2.2.2.2.map aE⟩]⟩
def jB(w:ax)(bM:Int):Option ax:=
 (dA w).bind λy1=>
 (gK w).bind λy2=>
 cond (!y2)
 (YH y1)
 ((aZ bM w.now 100000).bind λy3=>
 cond (!y3)
 (YH y1)
 ((gw y1).bind λy4=>
 (aD (jN bM) NN (y4,y1.aa.change,y1.now,y1.bd,y1.aa.aA,y1.aa.off,y1.ae,y1.ar,y1.ah,y1.aH,y1.skip)).bind (λo0=>
 YH (⟨(⟨o0.2.2.2.1,o0.2.2.2.2.1,o0.1⟩:aj),o0.2.2.2.2.2.1,o0.2.2.2.2.2.2.1,o0.2.2.2.2.2.2.2.1,bM,o0.2.2.2.2.2.2.2.2.1,o0.2.2.2.2.2.2.2.2.2,o0.2.2.1⟩:ax))))
instance (w:ax)(bM:Int):CT prog (jB w bM):=⟨77,[.ag (fY w),vi bM],[],λr=>.ag [.ms 0,.ms 1,vi r.aa.change,.ms 2,.ms 3,.ms 4,vi r.now,.ms 5,.ms 6,vi r.bd],λr=>[YH ⟨.of 144,6,r.aa.aA.map bn⟩,YH ⟨.of 3,1,r.aa.off.map aE⟩,YH ⟨⟨94,YH 46⟩,11,r.ae.map ba⟩,YH ⟨.of 147,4,r.ar.map aC⟩,YH ⟨.of 46,2,r.ah.map aW⟩,YH ⟨.of 151,6,r.aH.map bt⟩,YH ⟨.of 3,1,r.skip.map aE⟩],ck (jB.eq_1 ..) func77 ntmps77 results77⟩
end Go.Proofs.YtdilaemengjipaaGreatDoor
