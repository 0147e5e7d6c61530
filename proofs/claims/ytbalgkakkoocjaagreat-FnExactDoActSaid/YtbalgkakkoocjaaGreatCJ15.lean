/- A part of the proof of the statement in the last file of this claim: texts on the language of the program and on its functions. No condition. -/
import Derived.Test.YtbalgkakkoocjaaGreatCJ13
import Derived.Test.YtbalgkakkoocjaaGreatCJ12
import Derived.Test.YtbalgkakkoocjaaGreatCJ8
import Derived.Test.YtbalgkakkoocjaaGreatCJ10
import Derived.Test.YtbalgkakkoocjaaGreatCJ11
import Derived.Deep.RegionHeld3
import Derived.Test.YtbalgkakkoocjaaGreatCJ6
import Derived.Deep.CutRange
import Derived.Deep.MidRow
import Derived.Test.YtbalgkakkoocjaaGreatCJ5
import Derived.Test.YtbalgkakkoocjaaGreatCJ1
set_option linter.unusedVariables false
set_option linter.unusedSimpArgs false
set_option linter.unusedSectionVars false
open Go.Value renaming int->ZF
open Go.IntKind renaming i64->ZG
open Go renaming undef->ZH
open Option renaming some->ZA,none->ZB
open Bool renaming true->ZC,false->ZD
open Decidable renaming decide->ZE
open Go.Proofs.Tryz
set_option maxHeartbeats 40000000
open Option renaming bind_some->VE,getD_some->Ww,map_some->Wo,map_eq_some_iff->VT
open Nat renaming lt_or_ge->Wg,zero_add->VY,lt_of_lt_of_le->V4,le_trans->Wb,le_refl->VJ,lt_succ_self->Yf,lt_irrefl->XW,pos_of_ne_zero->Xy
open List renaming range->Wq,getElem?_eq_getElem->VF,all_eq_true->VS,mem_range->WQ,getElem?_eq_some_iff->VH,getElem_of_mem->V2,any_cons->XU,any_eq_true->WL,mem_cons_self->Wc,mem_cons_of_mem->V5,getElem_mem->Wd,drop_eq_nil_of_le->XG,getElem?_map->VZ,mem_cons->VM,not_mem_nil->VP,mem_map->V6,mem_of_getElem?->VI,length_map->VX,getElem?_eq_none->Wz,mem_append->WD,mem_singleton->V8,map_cons->Wh,sum_cons->WB
open Bool renaming not_true->VK,true_and->WN,false_or->Yy,and_eq_true->VN,not_false->Wl,not_eq_true'->V7
open Option.some renaming inj->VG,injEq->VR
open Classical renaming axiomOfChoice->WR
open _root_.Array renaming getElem?_eq_getElem->VU,ext->X9,getElem?_eq_some_iff->VQ
open _root_.Int renaming reduceEq->Yg,le_refl->Wp
namespace Go.Proofs.YtbalgkakkoocjaaGreat
set_option maxRecDepth 10000
open Go.RowKit
variable {B:cL}{E:Env}{T:TypeId}{es:List (List PV)}{i j k q:Nat}{l:List aj}{m:Mem}{n:ak}{p:PV}{t:aw}{u v:Value}{y:bM}{α:Type}
def xw(a b:Int):Int:=if a<b then -1 else if b<a then 1 else 0
theorem ZdH(a b:Int):dL a b=ZA (xw a b):=by
 unfold dL xw
 grind
theorem Zem(x y z:Int):qA [x,y,z]=ZA (if x≠0 then x else if y≠0 then y else z):=by
 obtain⟨k,hk⟩:∃k,NN=k+1+1+1+1:=⟨1152921504606846972,by rfl⟩
 unfold qA;rw[hk];have w0:aH 1=1:=aL YG;have w1:aH 2=2:=aL YG;have w2:aH 3=3:=aL YG
 by_cases hx:x=0
 ·by_cases hy:y=0
  ·by_cases hz:z=0
   ·simp[aD,bm,lI,aA,hx,hy,hz,w0,w1,w2]
   ·simp[aD,bm,lI,aA,hx,hy,hz,w0,w1,w2]
  ·simp[aD,bm,lI,aA,hx,hy,w0]
 ·simp[aD,bm,lI,aA,hx]
def qt(a b:aj):Bool:=if a.aV.day≠b.aV.day then ZE (a.aV.day<b.aV.day)else if a.aV.bG≠b.aV.bG then ZE (a.aV.bG<b.aV.bG)else ZE (a.bo<b.bo)
theorem HY(a b:aj):lR a b=ZA (qt a b):=by
 unfold lR qt
 grind
theorem KN(a b:aj):∃v,fz a b=ZA v/\ZE (0<=v)=!qt a b:=by
 unfold fz;simp only[ZdH,VE,Zem];refine⟨_,rfl,?_⟩;unfold qt xw
 grind
theorem wX(h:l.length<=1048576)(t:aw):∃v,df l t=ZA v:=by
 have hh:∃o,aD (dh l t) NN (0,0)=ZA o:=by
  refine Dq (λk s=>∃i:Nat,i+k=l.length/\s.2=(i:Int)) ?_ NN l.length (0,0) ⟨0,YG,rfl⟩ YI
  rintro k ⟨a,s⟩ ⟨i,hi,hs⟩;simp only at hs
  subst hs
  rcases Wg i l.length with bO|Ev
  ·have hw:=bI bO YG
   have hg:aA l (i:Int)=ZA l[i]:=by rw[aQ];simp
   cases hc:ZE (l[i].aV=t)with
   |true=>
    refine⟨_,by simp only[dh,Yp (show(i:Int)<l.length by omega),YC,hg,VE,hc,hw];rfl,?_⟩
    rintro s' e;cases e;exact⟨k-1,YG,i+1,YG,rfl⟩
   |false=>
    refine⟨_,by simp only[dh,Yp (show(i:Int)<l.length by omega),YC,YD,hg,VE,hc,hw];rfl,?_⟩
    rintro s' e;cases e;exact⟨k-1,YG,i+1,YG,rfl⟩
  ·have:i=l.length:=YG
   subst this;refine⟨_,by simp only[dh,Yz (show ¬((l.length:Int)<l.length)by omega),YD];rfl,?_⟩
   simp
 obtain⟨o,ho⟩:=hh;exact⟨o,by unfold df;simp_all⟩
theorem zT(h:cR n){bG day:Int}(hr:cy n bG day=ZA ZC):∃y,aA n.aB bG=ZA y:=by
 have hl:=h.aB;have hw:aH ((n.aB.length:Int)-1)=n.aB.length-1:=aL YG;unfold cy at hr
 rw[hw,dG]at hr
 simp only[VE]at hr
 by_cases h1:0<=bG/\bG<=(n.aB.length:Int)-1
 ·exact⟨n.aB[bG.toNat]' YG,by unfold aA;simp_all⟩
 grind
def UX(n:ak)(l:List aj)(i:Nat):Bool:=match l[i]? with
 |none=>ZC
 |some y=>(cy n y.aV.bG y.aV.day).getD ZD&&(ZE (1<=y.bo)&&ZE (y.bo<=9999))&&(ZE (1<=y.ab)&&ZE (y.ab<=1000000))&&(ZE (i=0) ||match l[i-1]? with
  |none=>ZC
  |some x=>qt x y)
def bk2(n:ak)(l:List aj)(i:Nat):Bool:=match l[i]? with
 |none=>ZC
 |some y=>match aA n.aB y.aV.bG,df l y.aV with
  |some g,ZA v=>!decide (g.jl<v)
  |_,_=>ZD
def cb(n:ak)(l:List aj):Bool:=(ba n).getD ZD&&ZE ((l.length:Int)<=120)&&(Wq l.length).all λi=>UX n l i&&bk2 n l i
theorem iB(h:cR n)(hl:l.length<=1048576):eA n l=ZA (cb n l):=by
 obtain⟨_,b,hb⟩:=j3 h;unfold eA cb;rw[hb];simp only[VE,Ww]
 cases b with
 |false=>rfl
 |true=>
  by_cases Zkr:120<(l.length:Int)
  ·grind
  simp only[VK,YD,Yz Zkr,Yp (show(l.length:Int)<=120 by omega),WN]
  have e0:aD (iJ n l) NN 0=ZA (if(Wq l.length).all (UX n l)=ZC then .inl ()else .inr ZD):=by
   refine pJ (λi hi _=>?_) (λ_=>by simp[iJ]) YI
   have hw:=bI hi YG;have hg:aA l (i:Int)=ZA l[i]:=by rw[aQ];simp
   obtain⟨_,rb,hrb⟩:=ur h l[i].aV.bG l[i].aV.day;simp only[iJ,Yp (show(i:Int)<l.length by omega),YC,hg,VE,hrb,dG,UX,VF hi,Ww]
   cases rb with
   |false=>simp
   |true=>
    cases ZE (1<=l[i].bo)&&ZE (l[i].bo<=9999)with
    |false=>simp
    |true=>
     cases ZE (1<=l[i].ab)&&ZE (l[i].ab<=1000000)with
     |false=>simp
     |true=>
      by_cases hi0:i=0
      ·simp_all
      ·have Fv:aH ((i:Int)-1)=((i-1:Nat):Int):=by rw[aL YG];omega
       have hg2:aA l ((i-1:Nat):Int)=ZA l[i-1]:=by rw[aQ];simp
       simp only[Yp (show 0<(i:Int)by omega),Fv,hg2,VE,HY,hw,VF (show i-1<l.length by omega),Yz hi0,VK,YD,YC,WN,Yy]
       grind
  rw[e0]
  by_cases CW:(Wq l.length).all (UX n l)=ZC
  ·rw[if_pos CW]
   have e1:aD (iK n l) NN 0=ZA (if(Wq l.length).all (bk2 n l)=ZC then .inl ()else .inr ZD):=by
    refine pJ (λi hi _=>?_) (λ_=>by simp[iK]) YI
    have hw:=bI hi YG;have hg:aA l (i:Int)=ZA l[i]:=by rw[aQ];simp
    obtain⟨v,hv⟩:=wX hl l[i].aV;have uQ:=VS.1 CW i (WQ.2 hi);obtain⟨_,rb,hrb⟩:=ur h l[i].aV.bG l[i].aV.day;have hrt:rb=true:=by
     simp only[UX,VF hi,hrb,Ww,VN]at uQ
     simp_all
    subst hrt;obtain⟨g,xH⟩:=zT h hrb;simp only[iK,Yp (show(i:Int)<l.length by omega),YC,hg,VE,hv,xH,bk2,VF hi,hw]
    grind
   grind
  grind
theorem Dm(h:cR n)(hn:ba n=ZA ZC)(t:aw):dK n t=cy n t.bG t.day:=by
 rw[(tI h t).1];unfold dE kh
 simp_all
theorem zt(h:cR n)(hl:l.length<=1048576):iN n l=ZA (cb n l):=by
 obtain⟨en,b,hb⟩:=j3 h;unfold iN cb;rw[en,hb];simp only[VE,Ww]
 cases b with
 |false=>rfl
 |true=>
  by_cases Zkr:120<(l.length:Int)
  ·grind
  simp only[VK,YD,Yz Zkr,Yp (show(l.length:Int)<=120 by omega),WN]
  have e0:aD (fO n l) NN 0=ZA (if(Wq l.length).all (λi=>UX n l i&&bk2 n l i)=ZC then .inl ()else .inr ZD):=by
   refine pJ (λi hi _=>?_) (λ_=>by simp[fO]) YI
   have hw:=bI hi YG;have hg:aA l (i:Int)=ZA l[i]:=by rw[aQ];simp
   obtain⟨_,rb,hrb⟩:=ur h l[i].aV.bG l[i].aV.day;have ht:=Dm h hb l[i].aV;rw[hrb]at ht
   obtain⟨v,hv⟩:=wX hl l[i].aV;have yM:∀{X:Option (Int⊕(Unit⊕Bool))} {pre:Bool},pre=(ZE (i=0) ||match l[i-1]? with
    |none=>ZC
    |some x=>qt x l[i])->
    X=(cond (!pre) (ZA (.inr (.inr ZD))) ((ZA rb).bind λeE=>cond (!eE) (ZA (.inr (.inr ZD))) ((bf l[i].bo 1 9999).bind λoq=>cond (!oq) (ZA (.inr (.inr ZD))) ((bf l[i].ab 1 1000000).bind λsj=>cond (!sj) (ZA (.inr (.inr ZD))) ((ZA v).bind λre=>(aA n.aB l[i].aV.bG).bind λpx=>cond (ZE (px.jl<re)) (ZA (.inr (.inr ZD))) (ZA (.inl ((i+1:Nat):Int))))))))->
    X=ZA (if(UX n l i&&bk2 n l i)=ZC then .inl ((i+1:Nat):Int)else .inr (.inr ZD)):=by
    rintro X pre Zpv rfl;simp only[UX,bk2,VF hi,hrb,hv,Ww,dG,VE,<-Zpv]
    cases pre with
    |false=>simp
    |true=>
     cases rb with
     |false=>simp
     |true=>
      obtain⟨g,xH⟩:=zT h hrb
      grind
   by_cases hi0:i=0
   ·refine yM (pre:=ZC) YN ?_
    simp only[fO,Yp (show(i:Int)<l.length by omega),Yz (show ¬0<(i:Int)by omega),YC,YD,hg,VE,ht,iu,AB,hv,hw,VK]
   ·have Fv:aH ((i:Int)-1)=((i-1:Nat):Int):=by rw[aL YG];omega
    have hg2:aA l ((i-1:Nat):Int)=ZA l[i-1]:=by rw[aQ];simp
    obtain⟨cv,CZ,SO⟩:=KN l[i-1] l[i];refine yM (pre:=qt l[i-1] l[i]) YN ?_;simp only[fO,Yp (show(i:Int)<l.length by omega),Yp (show 0<(i:Int)by omega),YC,YD,hg,Fv,hg2,CZ,SO,VE,ht,iu,AB,hv,hw]
  grind
theorem oc:@bU=@bY:=rfl
theorem Vj(w:az)(o:ay):nI w o=eH w.aa o:=rfl
theorem Zbx(h:aA n.aB t.bG=ZB):bp n t=none:=by
 unfold bp bw;rw[h];rfl
theorem qv(h:aA n.aB t.bG=ZA y):∃v,bp n t=ZA v:=by
 unfold bp bw;rw[h];exact⟨_,rfl⟩
theorem Zgs(w:az)(o:ay):pN w o=bV w.aa o w.now:=by
 unfold pN bV;rw[vh,su]
 cases ZE (0<o.aN)with
 |false=>
  simp only[YD]
  cases ZE (o.state=1)<;>cases ZE (o.state=2)<;>cases ZE (o.state=3)<;>try rfl
  all_goals cases ZE (o.aN=(o.aK.length:Int))<;>cases ZE (o.place=o.aX)<;>cases ZE (o.ar=o.aX)<;>rfl
 |true=>
  simp only[YC]
  cases hg:aA o.aK (aH (o.aN-1))with
  |none=>rfl
  |some y1=>
   simp only[VE,hg]
   cases hl:aA w.aa.aB y1.bG with
   |none=>rw[Zbx hl];rfl
   |some y2=>
    obtain⟨v,hv⟩:=qv hl;simp only[hv,VE]
    cases ZE (w.now<v)<;>try rfl
    simp only[YD]
    cases ZE (o.state=1)<;>cases ZE (o.state=2)<;>cases ZE (o.state=3)<;>try rfl
    all_goals cases ZE (o.aN=(o.aK.length:Int))<;>cases ZE (o.place=o.aX)<;>cases ZE (y2.aX=o.aX)<;>rfl
theorem ZbW{α ο:Type}{xs:List α}{p:α->Bool}{body:Int->Option (Int⊕ο)}{f:Nat->ο}{e:ο}(h1:∀i (hi:i<xs.length),body (i:Int)=ZA (if p xs[i]=ZC then .inr (f i)else .inl ((i+1:Nat):Int)))(h2:body (xs.length:Int)=ZA (.inr e))(hN:xs.length<NN):
 aD body NN 0=ZA ((xs.findIdx? p).elim e f):=by
 have key:∀(ys:List α) (i N:Nat),xs.drop i=ys->i<=xs.length->ys.length<N->aD body N (i:Int)=ZA ((ys.findIdx? p).elim e λk=>f (i+k)):=by
  intro ys
  induction ys with
  |nil=>
   intro i N hd hi hN
   cases N with
   |zero=>omega
   |succ N=>
    have:i=xs.length:=by have:=congrArg List.length hd;simp at this;omega
    subst this;simp only[aD,h2];rfl
  |cons y ys ih=>
   intro i N hd hi hN
   cases N with
   |zero=>simp at hN
   |succ N=>
    have hy:xs[i]?=ZA y:=by
     have:=congrArg (λl=>l[0]?) hd
     simpa using this
    have bO:i<xs.length:=(VH.1 hy).1;have hyv:xs[i]=y:=(VH.1 hy).2;have yL:xs.drop (i+1)=ys:=by
     have:=congrArg (List.drop 1) hd
     simpa[List.drop_drop]using this
    simp only[aD,h1 i bO,hyv];rw[List.findIdx?_cons]
    cases hp:p y with
    |true=>simp
    |false=>
     simp only[Bool.false_eq_true,if_false];have:=ih (i+1) N yL bO (by simp at hN;omega)
     refine this.trans ?_
     cases ys.findIdx? p with
     |none=>rfl
     |some k=>simp only[Wo,Option.elim_some];congr 2;omega
 have:=key xs 0 NN rfl (Nat.zero_le _) hN
 simpa using this
def bd(l:List ByteArray)(p:ByteArray):Int:=(l.findIdx? λy=>ZE (y=p)).elim (-1) λk=>(k:Int)
theorem qw{l:List ByteArray}(h:l.length<=4194304)(p:ByteArray):bY l p=ZA (bd l p):=by
 unfold bY;rw[ZbW (xs:=l) (p:=λy=>ZE (y=p)) (f:=λi=>.inr (i:Int)) (e:=.inl ()) (λi hi=>?_) (by simp[pt]) YI]
 ·unfold bd
  cases l.findIdx? λy=>ZE (y=p)<;>rfl
 ·have hw:=bI hi YG
  have hg:aA l (i:Int)=ZA l[i]:=by rw[aQ];exact VF hi
  simp only[pt,Yp (show(i:Int)<l.length by omega),YC,hg,VE,hw]
  cases ZE (l[i]=p)<;>rfl
/-! Zdb: one for a bo and a aV. -/
def Zjl(l:List aj):Prop:=∀x∈l,∀y∈l,x.bo=y.bo->x.aV=y.aV->x=y
theorem Zg1{a b c:aj}(h:qt a b=ZC)(h':qt b c=ZC):qt a c=true:=by
 unfold qt at *
 split at h
 ·have h1:=YA h
  split at h'
  ·have h2:=YA h'
   rw[if_pos YG];exact Yp YG
  ·rename_i h2
   rw[if_pos YG];exact Yp YG
 ·rename_i h0
  split at h
  ·have h1:=YA h
   split at h'
   ·have h2:=YA h'
    rw[if_pos YG];exact Yp YG
   ·rename_i h2
    rw[if_neg YG]
    split at h'
    ·have h3:=YA h'
     rw[if_pos YG];exact Yp YG
    ·rename_i h3
     rw[if_pos YG];exact Yp YG
  ·rename_i h00
   have h1:=YA h
   split at h'
   ·have h2:=YA h'
    rw[if_pos YG];exact Yp YG
   ·rename_i h2
    rw[if_neg YG]
    split at h'
    ·have h3:=YA h'
     rw[if_pos YG];exact Yp YG
    ·rename_i h3
     have h4:=YA h';rw[if_neg YG];exact Yp YG
theorem dy(h:cb n l=ZC):ba n=ZA ZC/\l.length<=120:=by
 unfold cb at h
 simp only[VN,YE]at h
 refine⟨?_,YG⟩
 cases hn:ba n with
 |none=>rw[hn]at h;cases h.1.1
 |some b=>rw[hn]at h;have:=h.1.1;simp at this;rw[this]
theorem CA(h:cb n l=ZC)(hi:i<l.length):UX n l i=ZC/\bk2 n l i=true:=by
 unfold cb at h
 simp only[VN]at h
 have:=VS.1 h.2 i (WQ.2 hi)
 simpa only[VN]using this
theorem vJ(h:cb n l=ZC):∀(j i:Nat) (hj:j<l.length) (C9:i<j),qt (l[i]' YG) l[j]=true:=by
 intro j
 induction j with
 |zero=>intro i hj C9;omega
 |succ j ih=>
  intro i hj C9;have h1:=(CA h hj).1;unfold UX at h1
  rw[VF hj]at h1
  simp only[Nat.add_sub_cancel,VF (show j<l.length by omega),VN,Bool.or_eq_true,YE]at h1
  have h2:qt l[j] l[j+1]=true:=by
   rcases h1.2 with h3|h3
   ·omega
   ·exact h3
  rcases Wg i j with h3|h3
  ·exact Zg1 (ih i YG h3) h2
  ·have:i=j:=YG
   subst this;exact h2
theorem HK{a b:aj}(h1:a.bo=b.bo)(h2:a.aV=b.aV):qt a b=false:=by
 unfold qt;rw[h2,h1];simp
theorem H6(h:cb n l=ZC):Zjl l:=by
 intro x hx y hy ht Vo;obtain⟨i,hi,rfl⟩:=V2 hx;obtain⟨j,hj,rfl⟩:=V2 hy
 rcases Nat.lt_trichotomy i j with h1|h1|h1
 ·have:=vJ h j i hj h1
  rw[HK ht Vo]at this;cases this
 ·subst h1;rfl
 ·have:=vJ h i j hi h1
  rw[HK ht.symm Vo.symm]at this;cases this
def iD(l:List aj)(bo:Int)(t:aw)(wt:Int):Bool:=l.any λy=>ZE (y=(⟨bo,t,wt⟩:aj))
theorem ZdA(h:l.length<=1048576)(bo:Int)(t:aw)(wt:Int):nC l bo t wt=ZA (iD l bo t wt):=by
 unfold nC;rw[xJ (xs:=l) (p:=λy=>ZE (y=(⟨bo,t,wt⟩:aj))) (r:=.inr ZC) (e:=.inl ()) (λi hi=>?_) (by simp[mK]) YI]
 ·unfold iD
  cases l.any λy=>ZE (y=(⟨bo,t,wt⟩:aj))<;>rfl
 ·have hw:=bI hi YG
  have hg:aA l (i:Int)=ZA l[i]:=by rw[aQ];exact VF hi
  simp only[mK,Yp (show(i:Int)<l.length by omega),YC,hg,VE,hw]
  cases ZE (l[i]=(⟨bo,t,wt⟩:aj))<;>rfl
theorem MA{w:az}(h:w.aq.length<=1048576)(hu:Zjl w.aq){id:Int}{o:ay}(ho:aA w.ae (aH (id-1))=ZA o)(t:aw):lZ w id t=ZA (iD w.aq id t o.ab):=by
 unfold lZ;have e:aD (jr w id t) NN 0=wa (λ_ (_:Unit) (x:aj)=>ZA (if x.bo=id/\x.aV=t then .inr (.inr (ZE (x.ab=o.ab)))else .inl ())) (λ_=>ZA (.inl ())) 0 w.aq ():=by
  refine so (A:=Unit) (λ_ i=>i) _ _ (λ_ i x hx=>?_) (λ_=>?_) YI ()
  ·have hi:=(VH.1 hx).1
   have hw:=bI hi YG;have hg:aA w.aq (i:Int)=ZA x:=by rw[aQ];exact hx
   simp only[jr,Yp (show(i:Int)<w.aq.length by omega),YC,hg,VE,hw,ho]
   by_cases h1:x.bo=id
   ·by_cases h2:x.aV=t
    ·simp[h1,h2]
    ·simp[h1,h2]
   ·simp[h1]
  ·simp[jr]
 have key:∀(l:List aj) (i:Nat),(∀x∈l,x∈w.aq)->wa (λ_ (_:Unit) (x:aj)=>ZA (if x.bo=id/\x.aV=t then(.inr (.inr (ZE (x.ab=o.ab))):Unit⊕(Unit⊕Bool))else .inl ())) (λ_=>ZA (Sum.inl ():Unit⊕Bool)) i l ()=ZA (if l.any (λy=>ZE (y.bo=id/\y.aV=t))=ZC then Sum.inr (iD l id t o.ab)else Sum.inl ()):=by
  intro l
  induction l with
  |nil=>intro i _;rfl
  |cons x l ih=>
   intro i hm;simp only[wa]
   by_cases hc:x.bo=id/\x.aV=t
   ·rw[if_pos hc]
    simp only[VE,XU,Yp hc,Bool.true_or,if_true];show ZA (Sum.inr (ZE (x.ab=o.ab)):Unit⊕Bool)=_
    congr 2
    unfold iD;rw[XU]
    by_cases hw:x.ab=o.ab
    ·rw[Yp hw]
     have:x=(⟨id,t,o.ab⟩:aj):=by obtain⟨a,b,c⟩:=x;simp at hc hw⊢;exact⟨hc.1,hc.2,hw⟩
     rw[Yp this];rfl
    ·rw[Yz hw]
     symm
     rw[Bool.or_eq_false_iff];refine⟨Yz (λe=>hw (by rw[e])),?_⟩
     rw[Bool.eq_false_iff];intro h3;obtain⟨y,hy,he⟩:=WL.1 h3;have he:=YA he;have:=hu x (hm x (Wc ..)) y (hm y (V5 _ hy)) (by rw[he];exact hc.1) (by rw[he];exact hc.2)
     exact hw (by rw[this,he])
   ·rw[if_neg hc]
    simp only[VE,bm];rw[ih (i+1) (λy hy=>hm y (V5 _ hy))]
    simp only[XU,Yz hc,Yy];have:iD (x::l) id t o.ab=iD l id t o.ab:=by
     unfold iD;rw[XU,Yz (λe=>hc (by rw[e];exact⟨rfl,rfl⟩)),Yy]
    rw[this]
 rw[e,key w.aq 0 (λx h=>h)]
 cases ha:w.aq.any (λy=>ZE (y.bo=id/\y.aV=t))with
 |true=>rfl
 |false=>
  show ZA ZD=_
  congr 1
  symm
  unfold iD;rw[Bool.eq_false_iff];intro h3;obtain⟨y,hy,he⟩:=WL.1 h3;have he:=YA he;have:=List.any_eq_false.1 ha y hy;apply this;rw[he];simp
theorem P2{σ τ ο:Type}{f:σ->Option (σ⊕ο)}{g:τ->Option (τ⊕ο)}(φ:σ->τ)(h:∀s,g (φ s)=(f s).bind (bm (λs'=>ZA (.inl (φ s'))) (λr=>ZA (.inr r)))):∀(N:Nat) (s:σ),aD g N (φ s)=aD f N s
 |0,s=>rfl
 |N+1,s=>by
  simp only[aD,h]
  cases f s with
  |none=>rfl
  |some o=>
   cases o with
   |inl s'=>exact P2 φ h N s'
   |inr r=>rfl
theorem RF(h:cR n)(ht:dE n t=ZA ZC):∃y,aA n.aB t.bG=ZA y:=by
 unfold dE kh at ht
 obtain⟨_,b,hb⟩:=j3 h;obtain⟨_,b2,xj⟩:=ur h t.bG t.day;rw[hb]at ht
 simp only[VE,xj]at ht
 cases b with
 |false=>simp at ht
 |true=>
  simp at ht
  subst ht;exact zT h xj
theorem uN(h:aA n.aB t.bG=ZA y):∃v,bw n t=ZA v:=by
 unfold bw;rw[h];exact⟨_,rfl⟩
theorem ZbV(h:cR n)(s:bc):rk n s=cn n s:=by
 unfold rk cn;rw[(j3 h).1,iu,(dF h).1,(tI h s.aV).1,su,vh,oc]
theorem Fz(h:cR n)(s:bc):∃b,cn n s=ZA b:=by
 obtain⟨_,b,hb⟩:=j3 h;have hp:=(dF h).2;have IV:=e9 n;have hl:=h.aB;obtain⟨_,b2,xj⟩:=tI h s.aV;unfold cn;rw[hb,hp,xj];simp only[VE,dG,qw (show(ao n).length<=4194304 by omega)]
 cases b with
 |false=>exact⟨_,rfl⟩
 |true=>
  cases ZE (1<=s.bo)&&ZE (s.bo<=9999)<;>try exact⟨_,rfl⟩
  cases ZE (0<=s.aO)&&ZE (s.aO<=100000)<;>try exact⟨_,rfl⟩
  cases ZE (0<=bd (ao n) s.place)
  all_goals
   cases b2 with
   |false=>cases ZE (s.kind=1)<;>cases ZE (s.kind=3)<;>cases ZE (s.kind=2)<;>cases ZE (s.kind=4)<;>cases ZE (s.place=⟨#[]⟩)<;>exact⟨_,rfl⟩
   |true=>
    obtain⟨y,hy⟩:=RF h xj;obtain⟨v1,hv1⟩:=uN hy;obtain⟨v2,hv2⟩:=qv hy;rw[hv1,hv2]
    cases ZE (s.kind=1)<;>cases ZE (s.kind=3)<;>cases ZE (s.kind=2)<;>cases ZE (s.kind=4)<;>cases ZE (s.place=⟨#[]⟩)<;>exact⟨_,rfl⟩
theorem Ze1(h:cR n)(aK:List aw)(a b:ByteArray)(t:Int):sK n aK a b t=eC n aK a b t:=by
 have e:aD (rJ n aK b) NN (t,a,0)=aD (dt n aK b) NN (a,t,0):=by
  refine P2 (f:=dt n aK b) (λs:ByteArray×Int×Int=>(s.2.1,s.1,s.2.2)) (λs=>?_) NN (a,t,0)
  unfold rJ dt;simp only
  cases ZE (s.2.2<(aK.length:Int))with
  |false=>rfl
  |true=>
   simp only[YC]
   cases hg:aA aK s.2.2 with
   |none=>rfl
   |some y=>
    simp only[VE,(tI h y).1,su,vh]
    cases dE n y with
    |none=>rfl
    |some c=>
     cases c with
     |false=>rfl
     |true=>
      simp only[VE,VK,YD]
      cases aA n.aB y.bG with
      |none=>rfl
      |some g=>
       simp only[VE]
       cases ZE (g.ar=s.1)with
       |false=>rfl
       |true=>
        simp only[VK,YD]
        cases bw n y with
        |none=>rfl
        |some v=>
         simp only[VE]
         cases ZE (v<s.2.1)with
         |true=>rfl
         |false=>
          simp only[YD]
          cases bp n y<;>rfl
 unfold sK eC;rw[(j3 h).1,(dF h).1,oc,e]
theorem BY(h:cR n){aK:List aw}(hw:aK.length<=1048576)(a b:ByteArray)(t:Int):∃r,eC n aK a b t=ZA r:=by
 obtain⟨_,b1,hb⟩:=j3 h;have hp:=(dF h).2;have IV:=e9 n;have hl:=h.aB;have e:∃o,aD (dt n aK b) NN (a,t,0)=ZA o:=by
  refine Dq (λk s=>∃i:Nat,i+k=aK.length/\s.2.2=(i:Int)) ?_ NN aK.length _ ⟨0,YG,rfl⟩ YI
  rintro k ⟨p,r,s⟩ ⟨i,hi,hs⟩;simp only at hs
  subst hs;unfold dt
  rcases Wg i aK.length with bO|Ev
  ·have hw:=bI bO YG
   have hg:aA aK (i:Int)=ZA aK[i]:=by rw[aQ];exact VF bO
   obtain⟨_,c,hc⟩:=tI h aK[i];simp only[Yp (show(i:Int)<aK.length by omega),YC,hg,VE,hc,hw]
   cases c with
   |false=>exact⟨_,rfl,λs' e=>by cases e⟩
   |true=>
    obtain⟨y,hy⟩:=RF h hc;obtain⟨v1,hv1⟩:=uN hy;obtain⟨v2,hv2⟩:=qv hy;simp only[hy,hv1,hv2,VE,VK,YD]
    cases ZE (y.ar=p)with
    |false=>exact⟨_,rfl,λs' e=>by cases e⟩
    |true=>
     simp only[VK,YD]
     cases ZE (v1<r)with
     |true=>exact⟨_,rfl,λs' e=>by cases e⟩
     |false=>exact⟨_,rfl,λs' e=>by cases e;exact⟨k-1,YG,i+1,YG,rfl⟩⟩
  ·simp only[Yz (show ¬(i:Int)<aK.length by omega),YD]
   exact⟨_,rfl,λs' e=>by cases e⟩
 obtain⟨o,ho⟩:=e;unfold eC;rw[hp,hb];simp only[VE,qw (show(ao n).length<=4194304 by omega),ho]
 cases b1 with
 |false=>exact⟨_,rfl⟩
 |true=>cases ZE (bd (ao n) a<0)<;>cases ZE (bd (ao n) b<0)<;>cases o<;>exact⟨_,rfl⟩
def allI{α:Type}(c:Nat->α->Bool):Nat->List α->Bool
 |_,[]=>ZC
 |i,x::xs=>c i x&&allI c (i+1) xs
theorem cJ{α:Type}{c:Nat->α->Bool}:∀{xs:List α} {i:Nat},allI c i xs=ZC↔∀(j:Nat) (x:α),xs[j]?=ZA x->c (i+j) x=ZC
 | [],i=>by simp[allI]
 |x::xs,i=>by
  simp only[allI,VN,cJ];constructor
  ·grind
  ·intro h
   exact⟨h 0 x rfl,λj y hj=>by have:=h (j+1) y YN;grind⟩
theorem Ow{α:Type}(c d:Nat->α->Bool):∀(xs:List α) (i:Nat),allI (λi x=>c i x&&d i x) i xs=(allI c i xs&&allI d i xs)
 | [],i=>rfl
 |x::xs,i=>by
  simp only[allI,Ow c d xs (i+1)]
  grind
theorem Sp{c d:Nat->α->Bool}{xs:List α}(h:∀(j:Nat) (x:α),xs[j]?=ZA x->c (i+j) x=d (i+j) x):allI c i xs=allI d i xs:=by
 rw[Bool.eq_iff_iff,cJ,cJ]
 grind
theorem fy{A α σ γ:Type}{xs:List α}{body:σ->Option (σ⊕(γ⊕Bool))}(mk:A->Int->σ)(c:Nat->α->Bool)(f:A->α->A)(g:A->γ)
 (h1:∀a (i:Nat) x,xs[i]?=ZA x->body (mk a i)=ZA (if c i x=ZC then .inl (mk (f a x) ((i+1:Nat):Int))else .inr (.inr ZD)))
 (h2:∀a,body (mk a (xs.length:Int))=ZA (.inr (.inl (g a)))) (hN:xs.length<NN) (a:A):aD body NN (mk a 0)=ZA (if allI c 0 xs=ZC then .inl (g (xs.foldl f a))else .inr ZD):=by
 rw[so mk (λi a x=>ZA (if c i x=ZC then .inl (f a x)else .inr (.inr ZD))) (λa=>ZA (.inl (g a))) (λa i x hx=>by grind) (λa=>by grind) hN a]
 have key:∀(xs:List α) (i:Nat) (a:A),wa (λi a x=>ZA (if c i x=ZC then(.inl (f a x):A⊕(γ⊕Bool))else .inr (.inr ZD))) (λa=>ZA (.inl (g a))) i xs a=ZA (if allI c i xs=ZC then .inl (g (xs.foldl f a))else .inr ZD):=by
  intro xs
  induction xs with
  |nil=>intro i a;rfl
  |cons x xs ih=>
   simp only[wa,allI]
   grind
 grind
/-! The parts of an Zoh test. -/
def fw(n:ak)(t:aw):Bool:=(cy n t.bG t.day).getD ZD
def cd(n:ak)(t:aw):ByteArray:=((aA n.aB t.bG).map (·.aX)).getD ⟨#[]⟩
def cD(l:List aw)(t:aw):Bool:=l.any λy=>ZE (y=t)
theorem yH(h:cR n)(t:aw):cy n t.bG t.day=ZA (fw n t):=by
 obtain⟨_,b,hb⟩:=ur h t.bG t.day;unfold fw;grind
theorem fh(h:cR n)(ht:fw n t=ZC):∃y,aA n.aB t.bG=ZA y/\y∈n.aB:=by
 have:=yH h t;rw[ht]at this
 obtain⟨y,hy⟩:=zT h this;exact⟨y,hy,vN hy⟩
def ya(w:az)(id:Int)(o:ay)(i:Nat)(t:aw):Bool:=fw w.aa t&&iD w.aq id t o.ab&&!(ZE (cd w.aa t=o.aX)&&ZE (i+1<o.aK.length))
def Gd(n:ak)(o:ay):ByteArray:=o.aK.foldl (λ_ t=>cd n t) o.ar
def bl(o:ay):Int:=if o.state=2 then o.aN+1 else o.aN
def jd(w:az)(i:Nat)(o:ay):Bool:=
 !decide (bd (ao w.aa) o.ar<0)&&!decide (bd (ao w.aa) o.aX<0)&&!decide (o.ar=o.aX)&&(ZE (1<=o.ax)&&ZE (o.ax<=3))&&(ZE (1<=o.ab)&&ZE (o.ab<=30000))&&(ZE (0<=o.aO)&&ZE (o.aO<=w.now))&&(ZE (0<=o.ec)&&ZE (o.ec<=200000))&&(ZE (0<=o.aN)&&ZE (o.aN<=(o.aK.length:Int))) &&
  allI (ya w ((i+1:Nat):Int) o) 0 o.aK&&(eC w.aa o.aK o.ar (Gd w.aa o) (aH (o.aO+1))).getD ZD&&(bV w.aa o w.now).getD ZD&&!((o.aK.drop (bl o).toNat).any (cD w.ah))
structure wH(w:az):Prop where
 fv:cR w.aa
 ae:w.ae.length<=1048576
 aq:w.aq.length<=1048576
 ah:w.ah.length<=1048576
 aJ:w.aJ.length<=1048576
 skip:w.skip.length<=1048576
 aK:∀o∈w.ae,o.aK.length<=1048576
theorem JQ{o:ay}(hg:0<=o.aN/\o.aN<=o.aK.length)(hl:o.aK.length<=1048576)(hw:∀t∈o.aK,∃y,aA n.aB t.bG=ZA y)(now:Int):∃b,bV n o now=ZA b:=by
 have Fq:∀(i:Int),0<=i->i<o.aK.length->∃t y,aA o.aK i=ZA t/\aA n.aB t.bG=ZA y:=by
  intro i h0 h1;have bO:i.toNat<o.aK.length:=YG;obtain⟨y,hy⟩:=hw o.aK[i.toNat] (Wd bO);exact⟨o.aK[i.toNat],y,by unfold aA;simp_all,hy⟩
 have Df:aH (o.aN-1)=o.aN-1:=aL YG;have PG:o.aN<o.aK.length->∃t s e,aA o.aK o.aN=ZA t/\bw n t=ZA s/\bp n t=ZA e:=by
  intro h1;obtain⟨t,y,ht,hy⟩:=Fq o.aN hg.1 h1;obtain⟨s,hs⟩:=uN hy;obtain⟨e,he⟩:=qv hy
  simp_all
 unfold bV;rw[Df]
 by_cases h0:0<o.aN
 ·rw[Yp h0,YC]
  obtain⟨t,y,ht,hy⟩:=Fq (o.aN-1) YG YG;obtain⟨e,he⟩:=qv hy;simp only[ht,hy,he,VE]
  cases ZE (now<e)with
  |true=>simp
  |false=>
   simp only[YD]
   by_cases h1:o.aN<o.aK.length
   ·obtain⟨t2,s2,e2,ht2,GX,he2⟩:=PG h1
    simp only[ht2,GX,he2,VE]
    cases ZE (o.state=1)<;>cases ZE (o.state=2)<;>cases ZE (o.state=3)<;>cases ZE (o.place=y.aX)<;>cases ZE (y.aX=o.aX)<;>cases ZE (o.bK=0)<;>cases ZE (o.aN=(o.aK.length:Int))<;>cases ZE (o.place=⟨#[]⟩)<;>cases ZE (o.aN<(o.aK.length:Int))<;>cases ZE (s2<=now)<;>cases ZE (o.place=o.aX)<;>exact⟨_,rfl⟩
   ·rw[Yp (show o.aN=(o.aK.length:Int)by omega),Yz h1]
    cases ZE (o.state=1)<;>cases ZE (o.state=2)<;>cases ZE (o.state=3)<;>cases ZE (o.place=y.aX)<;>cases ZE (y.aX=o.aX)<;>cases ZE (o.bK=0)<;>cases ZE (o.place=⟨#[]⟩)<;>cases ZE (o.place=o.aX)<;>exact⟨_,rfl⟩
 ·rw[Yz h0,YD]
  by_cases h1:o.aN<o.aK.length
  ·obtain⟨t2,s2,e2,ht2,GX,he2⟩:=PG h1
   simp only[ht2,GX,he2,VE]
   cases ZE (o.state=1)<;>cases ZE (o.state=2)<;>cases ZE (o.state=3)<;>cases ZE (o.place=o.ar)<;>cases ZE (o.ar=o.aX)<;>cases ZE (o.bK=0)<;>cases ZE (o.aN=(o.aK.length:Int))<;>cases ZE (o.place=⟨#[]⟩)<;>cases ZE (o.aN<(o.aK.length:Int))<;>cases ZE (s2<=now)<;>cases ZE (o.place=o.aX)<;>exact⟨_,rfl⟩
  ·rw[Yp (show o.aN=(o.aK.length:Int)by omega),Yz h1]
   cases ZE (o.state=1)<;>cases ZE (o.state=2)<;>cases ZE (o.state=3)<;>cases ZE (o.place=o.ar)<;>cases ZE (o.ar=o.aX)<;>cases ZE (o.bK=0)<;>cases ZE (o.place=⟨#[]⟩)<;>cases ZE (o.place=o.aX)<;>exact⟨_,rfl⟩
theorem OU{w:az}(hc:w.ah.length<=1048576){o:ay}(hl:o.aK.length<=1048576){k:Int}(h0:0<=k):aD (ja w o) NN k=ZA (if(o.aK.drop k.toNat).any (cD w.ah)=ZC then .inr ZD else .inl ()):=by
 have key:∀(ts:List aw) (i N:Nat),o.aK.drop i=ts->ts.length<N->aD (ja w o) N (i:Int)=ZA (if ts.any (cD w.ah)=ZC then .inr ZD else .inl ()):=by
  intro ts
  induction ts with
  |nil=>
   intro i N hd hN
   cases N with
   |zero=>omega
   |succ N=>
    simp only[aD,ja]
    grind
  |cons t ts ih=>
   intro i N hd hN
   cases N with
   |zero=>omega
   |succ N=>
    have ht:o.aK[i]?=ZA t:=by
     have:=congrArg (λl:List aw=>l[0]?) hd
     grind
    have bO:=(VH.1 ht).1;have yL:o.aK.drop (i+1)=ts:=by
     have:=congrArg (List.drop 1) hd
     simpa using this
    have hg:aA o.aK (i:Int)=ZA t:=by rw[aQ];omega
    simp only[aD,ja];rw[Yp (show(i:Int)<o.aK.length by omega),hg]
    simp;rw[iv,gh hc,bI bO YG];have Og:(w.ah.any λy=>ZE (y=t))=cD w.ah t:=rfl
    grind
 have:=key (o.aK.drop k.toNat) k.toNat NN rfl (by simp;unfold NN;omega)
 grind
theorem Fj(cl:aw->Bool)(k:Int):∀(ts:List aw) (i:Nat),allI (λi t=>!(ZE (k<=(i:Int))&&cl t)) i ts=!((ts.drop (k-i).toNat).any cl)
 | [],i=>by simp[allI]
 |t::ts,i=>by
  simp only[allI,Fj cl k ts (i+1)]
  by_cases h:k<=(i:Int)
  ·rw[Yp h,show(k-(i:Int)).toNat=0 by omega,show(k-((i+1:Nat):Int)).toNat=0 by omega]
   simp
  ·obtain⟨m,hm⟩:∃m,(k-(i:Int)).toNat=m+1:=⟨(k-(i:Int)).toNat-1,YG⟩
   grind
theorem wQ{o:ay}(h:0<=o.aN/\o.aN<=o.aK.length)(hl:o.aK.length<=1048576):eW o=ZA (bl o)/\0<=bl o/\gG o=ZA (if(o.aK.length:Int)<bl o then(o.aK.length:Int)else bl o):=by
 unfold eW gG bl;have hw:aH (o.aN+1)=o.aN+1:=aL YG
 grind
section
variable {w:az} (hf:wH w) (hb:cb w.aa w.aq=ZC)
include hf hb
theorem ZgH{o:ay}(hl:o.aK.length<=1048576)(i:Nat)(hi:i<1048576):aD (lk w (i:Int) o) NN (o.ar,0)=ZA (if allI (ya w ((i+1:Nat):Int) o) 0 o.aK=ZC then .inl (Gd w.aa o)else .inr ZD):=by
 refine fy (A:=ByteArray) (λa i=>(a,i)) _ (λ_ t=>cd w.aa t) id (λa j t ht=>?_) (λa=>?_) YI o.ar
 ·have bO:=(VH.1 ht).1
  have hg:aA o.aK (j:Int)=ZA t:=by rw[aQ];omega
  have hj:aH ((j:Int)+1)=((j+1:Nat):Int):=bI bO YG;have hi1:aH ((i:Int)+1)=((i+1:Nat):Int):=by rw[aL YG];omega
  unfold lk;simp only[Yp (show(j:Int)<o.aK.length by omega),hg,VE,yH hf.fv,ZdA hf.aq]
  unfold ya
  cases Lb:fw w.aa t with
  |false=>simp
  |true=>
   obtain⟨y,hy,_⟩:=fh hf.fv Lb;have SS:cd w.aa t=y.aX:=by unfold cd;grind
   grind
 ·unfold lk
  simp
theorem ZgG{o:ay}(hl:o.aK.length<=1048576)(i:Nat)(hi:i<1048576)(ho:aA w.ae (i:Int)=ZA o)(hg0:0<=o.aN/\o.aN<=o.aK.length):
 aD (l0 w ((i+1:Nat):Int) o) NN (o.ar,0)=ZA (if(allI (ya w ((i+1:Nat):Int) o) 0 o.aK&&!((o.aK.drop (bl o).toNat).any (cD w.ah)))=ZC then .inl (Gd w.aa o)else .inr ZD):=by
 obtain⟨c1,c2,c3⟩:=wQ hg0 hl;have xk:(!((o.aK.drop (bl o).toNat).any (cD w.ah)))=allI (λj t=>!(ZE ((if(o.aK.length:Int)<bl o then(o.aK.length:Int)else bl o)<=(j:Int))&&cD w.ah t)) 0 o.aK:=by
  rw[Fj]
  split
  ·rw[XG YG,XG YG]
  simp
 rw[xk,<-Ow];have yt:=(dy hb).1;refine fy (A:=ByteArray) (λa i=>(a,i)) _ (λ_ t=>cd w.aa t) id (λa j t ht=>?_) (λa=>?_) YI o.ar
 ·have bO:=(VH.1 ht).1
  have hg:aA o.aK (j:Int)=ZA t:=by rw[aQ];omega
  have hj:aH ((j:Int)+1)=((j+1:Nat):Int):=bI bO YG;have Df:aH ((o.aK.length:Int)-1)=(o.aK.length:Int)-1:=aL YG;have Ol:aA w.ae (aH (((i+1:Nat):Int)-1))=ZA o:=by rw[aL YG,show((i+1:Nat):Int)-1=(i:Int)by omega];omega
  unfold l0;simp only[Yp (show(j:Int)<o.aK.length by omega),hg,VE,Dm hf.fv yt,yH hf.fv,MA hf.aq (H6 hb) Ol,c3,gh hf.ah]
  unfold ya
  cases Lb:fw w.aa t with
  |false=>simp
  |true=>
   obtain⟨y,hy,_⟩:=fh hf.fv Lb;have SS:cd w.aa t=y.aX:=by unfold cd;grind
   cases iD w.aq ((i+1:Nat):Int) t o.ab with
   |false=>simp
   |true=>
    generalize (if(o.aK.length:Int)<bl o then(o.aK.length:Int)else bl o)=k
    have Gf:cD w.ah t=w.ah.any λy=>ZE (y=t):=rfl
    grind
 ·unfold l0
  simp
theorem L5{o:ay}(hl:o.aK.length<=1048576)(hg0:0<=o.aN/\o.aN<=o.aK.length)(h:allI (ya w ((i+1:Nat):Int) o) 0 o.aK=ZC):bV w.aa o w.now=ZA ((bV w.aa o w.now).getD ZD):=by
 obtain⟨b,GQ⟩:=JQ (n:=w.aa) hg0 hl (λt ht=>by
  obtain⟨j,hj,rfl⟩:=V2 ht;have:=cJ.1 h j _ (VF hj);unfold ya at this
  simp at this
  obtain⟨y,hy,_⟩:=fh hf.fv this.1.1
  grind) w.now
 grind
theorem Uw{o:ay}(ho:aA w.ae (i:Int)=ZA o):oO w (i:Int)=ZA (jd w i o):=by
 have hl:=hf.aK o (vN ho);have hi:i<1048576:=by have:=(VH.1 (by rw[<-aQ];exact ho)).1;have:=hf.ae;omega
 have hp:=(dF hf.fv).2;have IV:=e9 w.aa;have AY:=hf.fv.aB;unfold oO jd;rw[ho,hp];simp only[VE,dG,qw (show(ao w.aa).length<=4194304 by omega)]
 cases ZE (bd (ao w.aa) o.ar<0)with
 |true=>rfl
 |false=>
 cases ZE (bd (ao w.aa) o.aX<0)with
 |true=>rfl
 |false=>
 cases ZE (o.ar=o.aX)with
 |true=>rfl
 |false=>
 cases ZE (1<=o.ax)&&ZE (o.ax<=3)with
 |false=>rfl
 |true=>
 cases ZE (1<=o.ab)&&ZE (o.ab<=30000)with
 |false=>rfl
 |true=>
 cases ZE (0<=o.aO)&&ZE (o.aO<=w.now)with
 |false=>rfl
 |true=>
 cases ZE (0<=o.ec)&&ZE (o.ec<=200000)with
 |false=>rfl
 |true=>
 cases hg:ZE (0<=o.aN)&&ZE (o.aN<=(o.aK.length:Int))with
 |false=>rfl
 |true=>
 simp at hg
 obtain⟨c1,c2,c3⟩:=wQ hg hl;simp only[VK];rw[ZgH hf hb hl i hi]
 cases hal:allI (ya w ((i+1:Nat):Int) o) 0 o.aK with
 |false=>rfl
 |true=>
 have xu:=L5 hf hb hl hg hal;obtain⟨r,hr⟩:=BY hf.fv hl o.ar (Gd w.aa o) (aH (o.aO+1));simp only[if_true,VE,bm,hr]
 cases r with
 |false=>rfl
 |true=>
 rw[xu];simp
 cases(bV w.aa o w.now).getD ZD with
 |false=>rfl
 |true=>
 simp only[VE,c1,OU hf.ah hl c2]
 grind
theorem Td{o:ay}(ho:aA w.ae (i:Int)=ZA o):pM w ((i+1:Nat):Int) (ao w.aa)=ZA (jd w i o):=by
 have hl:=hf.aK o (vN ho);have hi:i<1048576:=by have:=(VH.1 (by rw[<-aQ];exact ho)).1;have:=hf.ae;omega
 have IV:=e9 w.aa;have AY:=hf.fv.aB;have Ol:aA w.ae (aH (((i+1:Nat):Int)-1))=ZA o:=by rw[aL YG,show((i+1:Nat):Int)-1=(i:Int)by omega];omega
 unfold pM jd;rw[Ol,iu,oc];simp only[VE,dG,qw (show(ao w.aa).length<=4194304 by omega)]
 cases ZE (o.ar=o.aX)with
 |true=>simp
 |false=>
 cases ZE (bd (ao w.aa) o.ar<0)with
 |true=>rfl
 |false=>
 cases ZE (bd (ao w.aa) o.aX<0)with
 |true=>rfl
 |false=>
 cases ZE (1<=o.ax)&&ZE (o.ax<=3)with
 |false=>rfl
 |true=>
 cases ZE (1<=o.ab)&&ZE (o.ab<=30000)with
 |false=>rfl
 |true=>
 cases ZE (0<=o.aO)&&ZE (o.aO<=w.now)with
 |false=>rfl
 |true=>
 cases ZE (0<=o.ec)&&ZE (o.ec<=200000)with
 |false=>rfl
 |true=>
 cases hg:ZE (0<=o.aN)&&ZE (o.aN<=(o.aK.length:Int))with
 |false=>rfl
 |true=>
 simp at hg
 simp only[VK];rw[ZgG hf hb hl i hi ho hg]
 cases hal:allI (ya w ((i+1:Nat):Int) o) 0 o.aK with
 |false=>rfl
 |true=>
 have xu:=L5 hf hb hl hg hal;obtain⟨r,hr⟩:=BY hf.fv hl o.ar (Gd w.aa o) (aH (o.aO+1));simp only[WN];rw[hr]
 cases(o.aK.drop (bl o).toNat).any (cD w.ah)with
 |true=>simp
 |false=>
 simp only[Ze1 hf.fv,Zgs]
 grind
end
def vf(w:az)(i:Nat)(t:aw):Bool:=fw w.aa t&&!cD (w.ah.take i) t
def By(w:az)(i:Nat)(s:bc):Bool:=(cn w.aa s).getD ZD&&!decide (w.now<s.aO)
def E6(w:az):Int:=w.ae.foldl (λa o=>aH (a+(o.aK.length:Int))) 0
def gf(w:az):Bool:=
 cb w.aa w.aq&&(ZE (0<=w.now)&&ZE (w.now<=100000))&&!decide (30<(w.ae.length:Int))&&!decide (20<(w.ah.length:Int))&&!decide (200<(w.aJ.length:Int))&&!decide (50<(w.skip.length:Int))&&(ZE ((w.aJ.length:Int)<=w.aT)&&ZE (w.aT<=1000000000)) &&
  allI (vf w) 0 w.ah&&allI (By w) 0 w.aJ&&allI (jd w) 0 w.ae&&ZE (E6 w=(w.aq.length:Int))
theorem AL(xs:List α)(i:Nat):cZ xs 0 (i:Int)=xs.take i:=by simp[cZ]
section
variable {w:az} (hf:wH w) (hb:cb w.aa w.aq=ZC)
include hf
theorem Zgm(s:bc):cn w.aa s=ZA ((cn w.aa s).getD ZD):=by
 obtain⟨b,h⟩:=Fz hf.fv s;rw[h];rfl
theorem OV:aD (l9 w) NN 0=ZA (if allI (vf w) 0 w.ah=ZC then .inl ()else .inr ZD):=by
 refine fy (A:=Unit) (λ_ i=>i) _ (λa _=>a) id (λa i t ht=>?_) (λa=>?_) (by have:=hf.ah;unfold NN;omega) ()
 ·have bO:=(VH.1 ht).1
  have xk:=hf.ah;have hg:aA w.ah (i:Int)=ZA t:=by rw[aQ];exact ht
  have hi:aH ((i:Int)+1)=((i+1:Nat):Int):=bI bO YG;have hs:dg (iC 0 (i:Int) w.ah.length)=ZA ():=pD (by unfold iC;rw[YE];omega)
  unfold l9;simp only[Yp (show(i:Int)<w.ah.length by omega),YC,hg,VE,hi,hs,yH hf.fv,AL,iv,gh (show(w.ah.take i).length<=1048576 by simp;omega)]
  unfold vf;have Og:((w.ah.take i).any λy=>ZE (y=t))=cD (w.ah.take i) t:=rfl
  rw[Og]
  cases fw w.aa t<;>cases cD (w.ah.take i) t<;>rfl
 ·unfold l9
  simp
theorem OT(hb:cb w.aa w.aq=ZC):aD (lU w) NN 0=ZA (if allI (vf w) 0 w.ah=ZC then .inl ()else .inr ZD):=by
 have yt:=(dy hb).1;refine fy (A:=Unit) (λ_ i=>i) _ (λa _=>a) id (λa i t ht=>?_) (λa=>?_) (by have:=hf.ah;unfold NN;omega) ()
 ·have bO:=(VH.1 ht).1
  have xk:=hf.ah;have hg:aA w.ah (i:Int)=ZA t:=by rw[aQ];exact ht
  have hi:aH ((i:Int)+1)=((i+1:Nat):Int):=bI bO YG;have hs:dg (iC 0 (i:Int) w.ah.length)=ZA ():=pD (by unfold iC;rw[YE];omega)
  unfold lU;simp only[Yp (show(i:Int)<w.ah.length by omega),YC,hg,VE,hi,hs,Dm hf.fv yt,yH hf.fv,AL,gh (show(w.ah.take i).length<=1048576 by simp;omega)]
  unfold vf;have Og:((w.ah.take i).any λy=>ZE (y=t))=cD (w.ah.take i) t:=rfl
  rw[Og]
  cases fw w.aa t<;>cases cD (w.ah.take i) t<;>rfl
 ·unfold lU
  simp
theorem Uv:aD (ma w) NN 0=ZA (if allI (By w) 0 w.aJ=ZC then .inl ()else .inr ZD):=by
 refine fy (A:=Unit) (λ_ i=>i) _ (λa _=>a) id (λa i s hs=>?_) (λa=>?_) (by have:=hf.aJ;unfold NN;omega) ()
 ·have bO:=(VH.1 hs).1
  have xk:=hf.aJ;have hg:aA w.aJ (i:Int)=ZA s:=by rw[aQ];exact hs
  have hi:aH ((i:Int)+1)=((i+1:Nat):Int):=bI bO YG;unfold ma;rw[Yp (show(i:Int)<w.aJ.length by omega),YC,hg]
  simp only[VE];rw[Zgm hf s];simp only[VE,hi];unfold By
  cases(cn w.aa s).getD ZD<;>cases ZE (w.now<s.aO)<;>rfl
 ·unfold ma
  simp
theorem Uu:aD (lV w) NN 0=ZA (if allI (By w) 0 w.aJ=ZC then .inl ()else .inr ZD):=by
 refine fy (A:=Unit) (λ_ i=>i) _ (λa _=>a) id (λa i s hs=>?_) (λa=>?_) (by have:=hf.aJ;unfold NN;omega) ()
 ·have bO:=(VH.1 hs).1
  have xk:=hf.aJ;have hg:aA w.aJ (i:Int)=ZA s:=by rw[aQ];exact hs
  have hi:aH ((i:Int)+1)=((i+1:Nat):Int):=bI bO YG;unfold lV;rw[Yp (show(i:Int)<w.aJ.length by omega),YC,hg]
  simp only[VE];rw[ZbV hf.fv,Zgm hf s];simp only[VE,hi];unfold By
  cases(cn w.aa s).getD ZD<;>cases ZE (w.now<s.aO)<;>rfl
 ·unfold lV
  simp
include hb
theorem QA:aD (mc w) NN (0,0)=ZA (if allI (jd w) 0 w.ae=ZC then .inl (E6 w)else .inr ZD):=by
 refine fy (A:=Int) (λa i=>(a,i)) _ (λa (o:ay)=>aH (a+(o.aK.length:Int))) id (λa i o ho=>?_) (λa=>?_) (by have:=hf.ae;unfold NN;omega) 0
 ·have bO:=(VH.1 ho).1
  have xk:=hf.ae;have hg:aA w.ae (i:Int)=ZA o:=by rw[aQ];exact ho
  have hi:aH ((i:Int)+1)=((i+1:Nat):Int):=bI bO YG;unfold mc;simp only[Yp (show(i:Int)<w.ae.length by omega),YC,hg,VE,hi,Uw hf hb hg]
  cases jd w i o<;>rfl
 ·unfold mc
  simp
theorem Qz:aD (lW w (ao w.aa)) NN (0,0)=ZA (if allI (jd w) 0 w.ae=ZC then .inl (E6 w)else .inr ZD):=by
 refine fy (A:=Int) (λa i=>(a,i)) _ (λa (o:ay)=>aH (a+(o.aK.length:Int))) id (λa i o ho=>?_) (λa=>?_) (by have:=hf.ae;unfold NN;omega) 0
 ·have bO:=(VH.1 ho).1
  have xk:=hf.ae;have hg:aA w.ae (i:Int)=ZA o:=by rw[aQ];exact ho
  have hi:aH ((i:Int)+1)=((i+1:Nat):Int):=bI bO YG;unfold lW;simp only[Yp (show(i:Int)<w.ae.length by omega),YC,hg,VE,hi,Td hf hb hg]
  cases jd w i o<;>rfl
 ·unfold lW
  simp
end
theorem Aw{γ:Type}{b:Bool}{x:γ}{K:γ->Option Bool}{r:Bool}(h:b=ZC->K x=ZA r)(h':b=ZD->r=ZD):(ZA (if b=ZC then(Sum.inl x:γ⊕Bool)else .inr ZD)).bind (bm K (λr=>ZA r))=ZA r:=by
 cases b with
 |true=>exact h rfl
 |false=>rw[h' rfl];rfl
theorem tY{w:az}(hf:wH w):fQ w=ZA (gf w):=by
 unfold fQ gf;rw[iB hf.fv hf.aq];simp only[VE,dG]
 cases hb:cb w.aa w.aq with
 |false=>rfl
 |true=>
 cases ZE (0<=w.now)&&ZE (w.now<=100000)with
 |false=>rfl
 |true=>
 cases ZE (30<(w.ae.length:Int))with
 |true=>rfl
 |false=>
 cases ZE (20<(w.ah.length:Int))with
 |true=>rfl
 |false=>
 cases ZE (200<(w.aJ.length:Int))with
 |true=>rfl
 |false=>
 cases ZE (50<(w.skip.length:Int))with
 |true=>rfl
 |false=>
 cases ZE ((w.aJ.length:Int)<=w.aT)&&ZE (w.aT<=1000000000)with
 |false=>rfl
 |true=>
 simp only[VK,Wl,YD,WN];rw[OV hf,Uv hf,QA hf hb];refine Aw (λh1=>?_) (λh1=>by rw[h1];rfl)
 refine Aw (λh2=>?_) (λh2=>by rw[h1,h2];rfl)
 refine Aw (λh3=>?_) (λh3=>by rw[h1,h2,h3];rfl)
 rw[h1,h2,h3];rfl
theorem vR{w:az}(hf:wH w):gN w=ZA (gf w):=by
 unfold gN gf;rw[zt hf.fv hf.aq,iu];simp only[VE,dG]
 cases hb:cb w.aa w.aq with
 |false=>rfl
 |true=>
 cases ZE (0<=w.now)&&ZE (w.now<=100000)with
 |false=>rfl
 |true=>
 cases ZE (30<(w.ae.length:Int))with
 |true=>rfl
 |false=>
 cases ZE (20<(w.ah.length:Int))with
 |true=>rfl
 |false=>
 cases ZE (200<(w.aJ.length:Int))with
 |true=>rfl
 |false=>
 cases ZE (50<(w.skip.length:Int))with
 |true=>rfl
 |false=>
 cases ZE ((w.aJ.length:Int)<=w.aT)&&ZE (w.aT<=1000000000)with
 |false=>rfl
 |true=>
 simp only[VK,Wl,YD,WN];rw[OT hf hb,Uu hf,Fx hf.fv];simp only[VE];rw[Qz hf hb];refine Aw (λh1=>?_) (λh1=>by rw[h1];rfl)
 refine Aw (λh2=>?_) (λh2=>by rw[h1,h2];rfl)
 refine Aw (λh3=>?_) (λh3=>by rw[h1,h2,h3];rfl)
 rw[h1,h2,h3];rfl
theorem sw{w:az}(h:gf w=ZC){o:ay}(ho:w.ae[i]?=ZA o):jd w i o=true:=by
 unfold gf at h
 simp only[VN]at h
 have:=cJ.1 h.1.2 i o ho
 rwa[VY]at this
theorem FZ{w:az}(h:gf w=ZC):cb w.aa w.aq=true:=by
 unfold gf at h
 simp only[VN]at h
 exact h.1.1.1.1.1.1.1.1.1.1
theorem Zcf(h:mw n<=1048576):cR n:=by
 unfold mw at h
 refine⟨by have:=gB ub n.aB;omega,YG,λl hl=>?_⟩
 have h2:ub l=l.ar.size+l.aX.size:=rfl;have:=ml ub hl;unfold I6 AN;omega
theorem Zjf{w:az}(h:jz w<=1048576):wH w:=by
 unfold jz at h
 have h1:=gB gA w.ae;have h2:=gB tk w.aJ;refine⟨Zcf YG,YG,YG,YG,YG,YG,λo ho=>?_⟩
 have h3:gA o=o.ar.size+o.aX.size+o.aK.length+o.place.size:=rfl;have:=ml gA ho;omega
structure yZ(w:World)(S:Nat->Prop)(x:az)(v0 v1 v3 v4 v5 v7 v8:Value):Prop where
 r0:cf w S (.sl (x.aa.aB.map br)) v0
 r1:cf w S (.sl (x.aa.off.map aI)) v1
 r3:cf w S (.sl (x.ae.map aY)) v3
 r4:cf w S (.sl (x.aq.map aC)) v4
 r5:cf w S (.sl (x.ah.map aS)) v5
 r7:cf w S (.sl (x.aJ.map bt)) v7
 r8:cf w S (.sl (x.skip.map aI)) v8
theorem yZ.ext{w w':World}{S S':Nat->Prop}{x:az}{v0 v1 v3 v4 v5 v7 v8:Value}(h:yZ w S x v0 v1 v3 v4 v5 v7 v8)(hS:∀b,S b->S' b)(hc:∀b,S b->w'.heap[b]?=w.heap[b]?):yZ w' S' x v0 v1 v3 v4 v5 v7 v8:=by
 have K6:∀b o,S b->w'.cell? ⟨b,o,ZB⟩=w.cell? ⟨b,o,ZB⟩:=λb o hb=>cell_of_heap (hc b hb)
 exact⟨h.r0.ext hS K6,h.r1.ext hS K6,h.r3.ext hS K6,h.r4.ext hS K6,h.r5.ext hS K6,h.r7.ext hS K6,h.r8.ext hS K6⟩
theorem yZ.up{w w':World}{x:az}{v0 v1 v3 v4 v5 v7 v8:Value}(h:yZ w (dV w) x v0 v1 v3 v4 v5 v7 v8)(hu:Up w w'):yZ w' (dV w') x v0 v1 v3 v4 v5 v7 v8:=
 h.ext (λb hb=>V4 hb hu.size) (λb hb=>hu.block b hb)
theorem tj{w:World}{S:Nat->Prop}(h:cf w S (.sl es) v):v.oneCell'=true:=by
 obtain⟨A,c,rfl⟩:=bT h;rfl
section
variable {P:Program}
theorem cq.val{f:FuncId}{args:List PV}(h:cq P f args [] (.v v) []){w:World}{vs:Array Value}(hl:vs.size=args.length)(ha:∀(i:Nat) (p:PV),args[i]?=ZA p->∃x,vs[i]?=ZA x/\cN w (E1 (dV w) (λ_=>ZB) 0) p x):
 Calls P f vs w λe w'=>e=.returned v/\Up w w':=by
 refine(h (dV w) (λ_=>ZB) w vs (λ_ _=>False) (Ji w) hl ha).mono ?_
 rintro e w' ⟨x,E',rfl,hk,_,_,_,hr⟩;obtain⟨rfl,_⟩:=hr.cF;exact⟨rfl,wm hk⟩
end
theorem Ec{w:World}{p q:PV}(hp:cN w E p u)(hq:cN w E q v):∀(i:Nat) (r:PV),[p,q][i]?=ZA r->∃x,#[u,v][i]?=ZA x/\cN w E r x:=by
 intro i r hr
 match i,hr with
 |0,hr=>obtain rfl:=VG hr;exact⟨_,rfl,hp⟩
 |1,hr=>obtain rfl:=VG hr;exact⟨_,rfl,hq⟩
 |n+2,hr=>simp at hr
theorem gK{w w':World}{b o:Nat}(hu:Up w w')(h:w.cell? ⟨b,o,ZB⟩=ZA v):w'.cell? ⟨b,o,ZB⟩=ZA v:=(hu.cell (p:=⟨b,o,ZB⟩) (World.block_lt_of_cell? _ _ h)).trans h
set_option maxRecDepth 100000
theorem RB.cell{w:World}(h:RB w T k es B)(hz:B.z=ZD){cs:List PV}(hi:es[i]?=ZA cs)(hj:cs[j]?=ZA p):∃x,w.cell? ⟨B.b,i*k+j,ZB⟩=ZA x/\x.oneCell'=ZC/\cN w E00 p x:=by
 obtain⟨cells,m1,m2,m3⟩:=h.mem hz;obtain⟨x,a,b,c⟩:=m3 i cs j p hi hj;have hBk:B.k=k:=h.k;rw[hBk]at a
 exact⟨x,by rw[cell_of_row w B.b _ cells B.T (0,0) m1];exact a,b,c⟩
theorem ZfF{o:ay}(h:(aY o)[j]?=ZA p)(h6:j≠6):(∃v,p=.v v)/\(cOU o u)[j]?=ZA p:=by
 match j,h with
 |0,h|1,h|2,h|3,h|4,h|5,h|7,h|8,h|9,h|10,h=>obtain rfl:=VG h;exact⟨⟨_,rfl⟩,rfl⟩
 |6,h=>exact absurd rfl h6
 |j+11,h=>simp[aY]at h
section
variable {P:Program}
end
section
variable {w a b:World} {g:az} {us:Nat->Value} {W:Nat->cL} {B0 B1 B3 B4 B5 B7 B8:cL} {v0 v1 v3 v4 v5 v7 v8:Value}
theorem Up.zZ{O:Nat->Prop}(h:Up w a)(k:mA O a b)(hO:∀q,O q->w.heap.size<=q):Up w b:=
 ⟨k.os.trans h.os,k.tape.trans h.tape,k.output.trans h.output,Wb h.size k.size,λx hx=>(k.block x (V4 hx h.size) λh'=>by have:=hO x h';omega).trans (h.block x hx)⟩
end
section
variable {P:Program}
end
def Src(E:Env)(a b:Nat)(K:TypeId->Prop)(q:Nat):Prop:=(∃l B,a<=l/\l<b/\E.β l=ZA B/\B.z=ZD/\q=B.b)\/∃T j c,K T/\E.ω q (T,j,c)
theorem Src.new{w w':World}{O:Nat->Prop}(hk:Ok w O E w' m)(hO:∀b,¬O b)(hω:∀b q,E.ω b q->w.heap.size<=b){a b:Nat}{K:TypeId->Prop}(h:Src E a b K q):w.heap.size<=q:=by
 rcases h with⟨l,B,_,_,hB,hz,rfl⟩ |⟨T,j,c,_,h⟩
 ·rcases(hk.own _ _ hB hz).1 with h|h
  ·exact absurd h (hO _)
  ·exact h
 ·exact hω _ _ h
theorem Src.R9{w w':World}{O:Nat->Prop}(hk:Ok w O E w' m){a b a' b':Nat}{K K':TypeId->Prop}(h:Src E a b K q)(h':Src E a' b' K' q)(hl:b<=a'\/b'<=a)(hK:∀T,K T->¬K' T):False:=by
 rcases h with⟨l,B,l1,l2,hB,hz,rfl⟩ |⟨T,j,c,hT,h⟩
 ·rcases h' with⟨l',B',l1',l2',lB,vF,e⟩ |⟨T',j',c',hT',h'⟩
  ·have:=hk.inj _ _ _ _ hB lB hz vF e
   omega
  ·exact(hk.own _ _ hB hz).2.2 (hk.ow _ _ h').1
 ·rcases h' with⟨l',B',l1',l2',lB,vF,rfl⟩ |⟨T',j',c',hT',h'⟩
  ·exact(hk.own _ _ lB vF).2.2 (hk.ow _ _ h).1
  ·have:=(hk.ow _ _ h).2 _ h'
   injection this with e
   subst e;exact hK _ hT hT'
theorem Zhz{w w':World}{g:az}{O:Nat->Prop}(hk:Ok w O E w' m)(hm:∀(l:Nat) (mb:Option MB),(Zge g)[l]?=ZA mb->m[l]?=ZA mb){x0 x1 x3 x4 x5 x7 x8:Value}(z0:cN w' E (.ms 0) x0)(z1:cN w' E (.ms 1) x1)(z3:cN w' E (.ms 2) x3)(z4:cN w' E (.ms 3) x4)(z5:cN w' E (.ms 4) x5)(z7:cN w' E (.ms 5) x7)(z8:cN w' E (.ms 6) x8):
 ∃B0 B1 B3 B4 B5 B7 B8 us W,(x0=cL.sv B0/\x1=cL.sv B1/\x3=cL.sv B3/\x4=cL.sv B4/\x5=cL.sv B5/\x7=cL.sv B7/\x8=cL.sv B8)/\GW w' g us W B0 B1 B3 B4 B5 B7 B8/\GD g.ae.length W B0 B1 B3 B4 B5 B7 B8/\∀b,GB g.ae W B0 B1 B3 B4 B5 B7 B8 b->Src E 0 7 (λT=>T=155) b:=by
 obtain⟨B0,b0,r0,rfl⟩:=z0.ln hk (hm 0 (ZA ⟨.of 174,6,g.aa.aB.map br⟩) rfl);obtain⟨B1,b1,r1,rfl⟩:=z1.ln hk (hm 1 (ZA ⟨.of 3,1,g.aa.off.map aI⟩) rfl);obtain⟨B3,b3,r3,rfl⟩:=z3.ln hk (hm 2 (ZA ⟨⟨155,ZA 46⟩,11,g.ae.map aY⟩) rfl);obtain⟨B4,b4,r4,rfl⟩:=z4.ln hk (hm 3 (ZA ⟨.of 177,4,g.aq.map aC⟩) rfl);obtain⟨B5,b5,r5,rfl⟩:=z5.ln hk (hm 4 (ZA ⟨.of 46,2,g.ah.map aS⟩) rfl);obtain⟨B7,b7,r7,rfl⟩:=z7.ln hk (hm 5 (ZA ⟨.of 181,6,g.aJ.map bt⟩) rfl);obtain⟨B8,b8,r8,rfl⟩:=z8.ln hk (hm 6 (ZA ⟨.of 3,1,g.skip.map aI⟩) rfl)
 -- the ways
 have hw:∀j:Nat,∃uB:Value×cL,∀o,g.ae[j]?=ZA o->(B3.z=ZD->w'.cell? ⟨B3.b,j*11+6,ZB⟩=ZA uB.1/\uB.1.oneCell'=ZC)/\sy w' o.aK uB.1 uB.2/\(uB.2.z=ZD->E.ω uB.2.b (155,j,6)):=by
  intro j
  cases ho:g.ae[j]? with
  |none=>exact⟨(ZH,B3),λo h=>by cases h⟩
  |some o=>
   have hi:(g.ae.map aY)[j]?=ZA (aY o):=by rw[VZ,ho];rfl
   have hz:B3.z=false:=r3.full hi;obtain⟨cells,m1,m2,m3⟩:=r3.mem hz;have Da:B3.k=11:=r3.k;obtain⟨x,a1,a2,a3⟩:=m3 j _ 6 (.sl (o.aK.map aS)) hi rfl;rw[Da]at a1
   have vO:w'.cell? ⟨B3.b,j*11+6,ZB⟩=ZA x:=by rw[cell_of_row w' B3.b _ cells B3.T (0,0) m1];exact a1
   obtain⟨B,c1,c2⟩:=ZlM a3 (q:=(155,j,6)) λdX=>r3.key 46 rfl hz j _ 6 _ x hi rfl (by simpa using dX) (by rw[Da];exact vO)
   exact⟨(x,B),λo' h=>by cases h;exact⟨λ_=>⟨vO,a2⟩,c1,c2⟩⟩
 obtain⟨uB,Lc⟩:=WR hw;have dX:∀{l l':Nat} {B B':cL},E.β l=ZA B->E.β l'=ZA B'->l≠l'->Nk B B':=λhB lB AY z z' e=>AY (hk.inj _ _ _ _ hB lB z z' e)
 have hS:∀j o,g.ae[j]?=ZA o->(uB j).2.z=ZD->E.S (uB j).2.b:=λj o ho hz=>(hk.ow _ _ ((Lc j o ho).2.2 hz)).1
 have BU:∀{l:Nat} {B:cL},E.β l=ZA B->∀j,j<g.ae.length->Nk (uB j).2 B:=λhB j hj hz vF e=>by
  have:=hS j _ (VF hj) hz;rw[e]at this
  exact(hk.own _ _ hB vF).2.2 this
 refine⟨B0,B1,B3,B4,B5,B7,B8,λj=>(uB j).1,λj=>(uB j).2,⟨rfl,rfl,rfl,rfl,rfl,rfl,rfl⟩,⟨r0.CQ (λcs gl p hp=>IC gl hp),r1.CQ (λcs gl p hp=>pH gl hp),?_,r4.CQ (λcs gl p hp=>yl gl hp),r5.CQ (λcs gl p hp=>Aq gl hp),r7.CQ (λcs gl p hp=>En gl hp),r8.CQ (λcs gl p hp=>pH gl hp),λj o ho=>(Lc j o ho).2.1⟩,⟨?_,?_,?_⟩,?_⟩
 ·refine⟨r3.k,r3.n.trans (by rw[zL];simp),r3.T,r3.pos,r3.nc,r3.cm,λi cs hi=>?_,λhz=>?_,λhz=>?_,λ_ h=>by cases h⟩
  ·obtain⟨o,_,rfl⟩:=DF hi
   rw[r3.k];rfl
  ·have:=r3.nil hz
   have h0:g.ae=[]:=by simpa using this
   show Ku g.ae _=[];rw[h0];rfl
  ·obtain⟨cells,m1,m2,m3⟩:=r3.mem hz
   refine⟨cells,m1,m2,λi cs j p hi hj=>?_⟩
   obtain⟨o,ho,rfl⟩:=DF hi;have lS:(g.ae.map aY)[i]?=ZA (aY o):=by rw[VZ,ho];rfl
   by_cases h6:j=6
   ·subst h6
    obtain rfl:=VG hj;obtain⟨hc,MP⟩:=(Lc i o ho).1 hz;rw[cell_of_row w' B3.b _ cells B3.T (0,0) m1]at hc
    have Da:B3.k=11:=r3.k;rw[Da];exact⟨_,hc,MP,.c (.v _ MP)⟩
   ·obtain⟨⟨v,rfl⟩,yr⟩:=Zij hj h6
    obtain⟨x,a1,a2,a3⟩:=m3 i _ j _ lS yr;obtain⟨rfl,_⟩:=a3.cF;exact⟨x,a1,a2,.c (.v _ a2)⟩
 ·simp only[List.pairwise_cons,VM,VP,or_false,forall_eq_or_imp,forall_eq,List.Pairwise.nil,and_true,false_implies,implies_true]
  exact⟨⟨dX b0 b1 YG,dX b0 b3 YG,dX b0 b4 YG,dX b0 b5 YG,dX b0 b7 YG,dX b0 b8 YG⟩,⟨dX b1 b3 YG,dX b1 b4 YG,dX b1 b5 YG,dX b1 b7 YG,dX b1 b8 YG⟩,⟨dX b3 b4 YG,dX b3 b5 YG,dX b3 b7 YG,dX b3 b8 YG⟩,⟨dX b4 b5 YG,dX b4 b7 YG,dX b4 b8 YG⟩,⟨dX b5 b7 YG,dX b5 b8 YG⟩,dX b7 b8 YG⟩
 ·intro j hj B hB
  simp only[VM,VP,or_false]at hB
  rcases hB with rfl|rfl|rfl|rfl|rfl|rfl|rfl
  ·exact BU b0 j hj
  ·exact BU b1 j hj
  ·exact BU b3 j hj
  ·exact BU b4 j hj
  ·exact BU b5 j hj
  ·exact BU b7 j hj
  ·exact BU b8 j hj
 ·intro i j hi hj zi zj e
  have a:=(Lc i _ (VF hi)).2.2 zi;have b:=(Lc j _ (VF hj)).2.2 zj;have e':(uB i).2.b=(uB j).2.b:=e;rw[e']at a
  have:=(hk.ow _ _ b).2 _ a
  simpa using this
 ·rintro b (⟨B,hB,hz,rfl⟩ |⟨j,hj,hz,rfl⟩)
  ·simp only[VM,VP,or_false]at hB
   rcases hB with rfl|rfl|rfl|rfl|rfl|rfl|rfl
   ·exact .inl ⟨0,_,YG,YG,b0,hz,rfl⟩
   ·exact .inl ⟨1,_,YG,YG,b1,hz,rfl⟩
   ·exact .inl ⟨2,_,YG,YG,b3,hz,rfl⟩
   ·exact .inl ⟨3,_,YG,YG,b4,hz,rfl⟩
   ·exact .inl ⟨4,_,YG,YG,b5,hz,rfl⟩
   ·exact .inl ⟨5,_,YG,YG,b7,hz,rfl⟩
   ·exact .inl ⟨6,_,YG,YG,b8,hz,rfl⟩
  ·exact .inr ⟨_,_,_,rfl,(Lc j _ (VF hj)).2.2 hz⟩
theorem Vf{w w':World}{O:Nat->Prop}(hk:Ok w O E w' m){l:Nat}(hm:m[l]?=ZA (ZA ⟨.of T,k,es⟩))(hf:∀cs∈es,∀p∈cs,∃v,p=.v v)(z:cN w' E (.ms l) v):
 ∃B,v=cL.sv B/\RB w' T k es B/\∀b,xT B b->Src E l (l+1) (λ_=>False) b:=by
 obtain⟨B,b0,r0,rfl⟩:=z.ln hk hm;exact⟨B,rfl,r0.CQ hf,λb hb=>.inl ⟨l,B,VJ _,Yf _,b0,hb.1,hb.2⟩⟩
theorem ZjI{w:World}{xs:List Int}(hr:cN w E (.sl (xs.map aI)) u){q:Key}(hk:xs≠[]->Ho w E 3 q (xs.map aI) u):∃B:cL,E9 w xs u B/\(B.z=ZD->E.ω B.b q):=by
 have h:=hr.xp
 by_cases h0:xs=[]
 ·subst h0
  refine⟨⟨0,0,0,1,3,ZC⟩,.inl ⟨rfl,rfl,?_⟩,λh=>by cases h⟩
  generalize hq:PV.sl (([]:List Int).map aI)=p at h
  cases h with
  |nil A c=>exact⟨A,c,rfl⟩
  |sl es b off k c u hS J5 hn hm zq hc h1 hr=>
   obtain rfl:([]:List (List PV))=es:=by simpa using hq
   exact⟨_,_,rfl⟩
  |v=>cases hq
  |ud=>cases hq
  |un=>cases hq
  |rp=>cases hq
  |fn=>cases hq
 ·obtain⟨b,c,k,cs,rfl,hw,hh,hs,GU,xt,Kd,hlen⟩:=hk h0
  obtain⟨t,hx⟩:∃t,xs[0]?=ZA t:=⟨xs[0]'(List.length_pos_iff.2 h0),VF _⟩;have hk2:k=1:=by
   have:=hlen (aI t) (V6.2 ⟨t,VI hx,rfl⟩);exact this.symm
  subst hk2;rw[VX]at xt
  refine⟨⟨b,c,xs.length,1,3,ZD⟩,.inr ⟨rfl,by simp[cL.sv],rfl,by simp,rfl,Nat.zero_lt_one,xt,Kd,λi ds hi=>hlen ds (VI hi),λh=>YT,λ_=>⟨cs,hh,hs,λi ds j p hi hj=>?_⟩,λ_ h=>by cases h⟩,λ_=>hw⟩
  generalize hq:PV.sl (xs.map aI)=p0 at h
  generalize hu:Value.slice (ZA ⟨b,0,ZB⟩) (xs.map aI).length c=u0 at h
  cases h with
  |nil A c=>simp at hq;exact absurd hq h0
  |sl es b' off k' c' u hS J5 hn hm zq hc h1 hr=>
   obtain rfl:xs.map aI=es:=by simpa using hq
   have e:b=b'/\0=off:=by
    injection hu with e1 _ _
    injection e1 with e1
    injection e1 with e1 e2
    exact⟨e1,e2⟩
   obtain⟨rfl,rfl⟩:=e;have hk':1=k':=zq 0 (aI t) (by rw[VZ,hx];rfl)
   subst hk';have h3:=hc i ds j p hi hj;rw[VY,cell_of_row w b _ cs _ (0,0) hh]at h3
   obtain⟨v,rfl⟩:=pH (VI hi) (VI hj);have h4:=hr i ds j _ hi hj;have h5:=h1 i ds j _ hi hj;have e6:u i j=v:=by cases h4;rfl
   rw[e6]at h3 h5
   exact⟨v,h3,h5,.c (.v _ h5)⟩
  |v=>cases hq
  |ud=>cases hq
  |un=>cases hq
  |rp=>cases hq
  |fn=>cases hq
theorem Zqq{o:ZJ}(h:(cAU o u)[j]?=ZA p)(h6:j≠6):(∃v,p=.v v)/\(ZK o)[j]?=ZA p:=by
 match j,h with
 |0,h|1,h|2,h|3,h|4,h|5,h|7,h|8,h|9,h|10,h|11,h|12,h=>obtain rfl:=VG h;exact⟨⟨_,rfl⟩,rfl⟩
 |6,h=>exact absurd rfl h6
 |j+13,h=>simp[cAU]at h
theorem Zqr{o:ZJ}(h:(ZK o)[j]?=ZA p)(h6:j≠6):(∃v,p=.v v)/\(cAU o u)[j]?=ZA p:=by
 match j,h with
 |0,h|1,h|2,h|3,h|4,h|5,h|7,h|8,h|9,h|10,h|11,h|12,h=>obtain rfl:=VG h;exact⟨⟨_,rfl⟩,rfl⟩
 |6,h=>exact absurd rfl h6
 |j+13,h=>simp[ZK]at h
theorem Zjs{w w':World}{O:Nat->Prop}(hk:Ok w O E w' m){l:Nat}{r:List ZJ}(hm:m[l]?=ZA (ZA ⟨⟨48,ZA 3⟩,13,r.map ZK⟩))(z:cN w' E (.ms l) v):
 ∃us W B,v=cL.sv B/\GA w' r us W B/\∀b,DA r W B b->Src E l (l+1) (λT=>T=48) b:=by
 obtain⟨B,b3,r3,rfl⟩:=z.ln hk hm;have hw:∀j:Nat,∃uB:Value×cL,∀o,r[j]?=ZA o->(B.z=ZD->w'.cell? ⟨B.b,j*13+6,ZB⟩=ZA uB.1/\uB.1.oneCell'=ZC)/\E9 w' o.av.bb uB.1 uB.2/\(uB.2.z=ZD->E.ω uB.2.b (48,j,6)):=by
  intro j
  cases ho:r[j]? with
  |none=>exact⟨(ZH,B),λo h=>by cases h⟩
  |some o=>
   have hi:(r.map ZK)[j]?=ZA (ZK o):=by rw[VZ,ho];rfl
   have hz:B.z=false:=r3.full hi;obtain⟨cells,m1,m2,m3⟩:=r3.mem hz;have Da:B.k=13:=r3.k;obtain⟨x,a1,a2,a3⟩:=m3 j _ 6 (.sl (o.av.bb.map aI)) hi rfl;rw[Da]at a1
   have vO:w'.cell? ⟨B.b,j*13+6,ZB⟩=ZA x:=by rw[cell_of_row w' B.b _ cells B.T (0,0) m1];exact a1
   obtain⟨B',c1,c2⟩:=ZjI a3 (q:=(48,j,6)) λdX=>r3.key 3 rfl hz j _ 6 _ x hi rfl (by simpa using dX) (by rw[Da];exact vO)
   exact⟨(x,B'),λo' h=>by cases h;exact⟨λ_=>⟨vO,a2⟩,c1,c2⟩⟩
 obtain⟨uB,Lc⟩:=WR hw;have hS:∀j o,r[j]?=ZA o->(uB j).2.z=ZD->E.S (uB j).2.b:=λj o ho hz=>(hk.ow _ _ ((Lc j o ho).2.2 hz)).1
 refine⟨λj=>(uB j).1,λj=>(uB j).2,B,rfl,⟨?_,λj o ho=>(Lc j o ho).2.1,?_,?_⟩,?_⟩
 ·refine⟨r3.k,r3.n.trans (by rw[zR];simp),r3.T,r3.pos,r3.nc,r3.cm,λi cs hi=>?_,λhz=>?_,λhz=>?_,λ_ h=>by cases h⟩
  ·obtain⟨o,_,rfl⟩:=DK hi
   rw[r3.k];rfl
  ·have:=r3.nil hz
   have h0:r=[]:=by simpa using this
   show Rc r _=[];rw[h0];rfl
  ·obtain⟨cells,m1,m2,m3⟩:=r3.mem hz
   refine⟨cells,m1,m2,λi cs j p hi hj=>?_⟩
   obtain⟨o,ho,rfl⟩:=DK hi;have lS:(r.map ZK)[i]?=ZA (ZK o):=by rw[VZ,ho];rfl
   by_cases h6:j=6
   ·subst h6
    obtain rfl:=VG hj;obtain⟨hc,MP⟩:=(Lc i o ho).1 hz;rw[cell_of_row w' B.b _ cells B.T (0,0) m1]at hc
    have Da:B.k=13:=r3.k;rw[Da];exact⟨_,hc,MP,.c (.v _ MP)⟩
   ·obtain⟨⟨v,rfl⟩,yr⟩:=Zqq hj h6
    obtain⟨x,a1,a2,a3⟩:=m3 i _ j _ lS yr;obtain⟨rfl,_⟩:=a3.cF;exact⟨x,a1,a2,.c (.v _ a2)⟩
 ·intro j hj hz vF e
  have:=hS j _ (VF hj) hz;have e':(uB j).2.b=B.b:=e;rw[e']at this
  exact(hk.own _ _ b3 vF).2.2 this
 ·intro i j hi hj zi zj e
  have a:=(Lc i _ (VF hi)).2.2 zi;have b:=(Lc j _ (VF hj)).2.2 zj;have e':(uB i).2.b=(uB j).2.b:=e;rw[e']at a
  have:=(hk.ow _ _ b).2 _ a
  simpa using this
 ·rintro b (⟨hz,rfl⟩ |⟨j,hj,hz,rfl⟩)
  ·exact .inl ⟨l,B,VJ _,Yf _,b3,hz,rfl⟩
  ·exact .inr ⟨_,_,_,rfl,(Lc j _ (VF hj)).2.2 hz⟩
theorem Zqs{o:aM}(h:(cPU o u)[j]?=ZA p)(h6:j≠5):(∃v,p=.v v)/\(bq o)[j]?=ZA p:=by
 match j,h with
 |0,h|1,h|2,h|3,h|4,h|6,h=>obtain rfl:=VG h;exact⟨⟨_,rfl⟩,rfl⟩
 |5,h=>exact absurd rfl h6
 |j+7,h=>simp[cPU]at h
theorem Zqt{o:aM}(h:(bq o)[j]?=ZA p)(h6:j≠5):(∃v,p=.v v)/\(cPU o u)[j]?=ZA p:=by
 match j,h with
 |0,h|1,h|2,h|3,h|4,h|6,h=>obtain rfl:=VG h;exact⟨⟨_,rfl⟩,rfl⟩
 |5,h=>exact absurd rfl h6
 |j+7,h=>simp[bq]at h
theorem ZmO{w w':World}{O:Nat->Prop}(hk:Ok w O E w' m){l:Nat}{r:List aM}(hm:m[l]?=ZA (ZA ⟨⟨44,ZA 3⟩,7,r.map bq⟩))(z:cN w' E (.ms l) v):
 ∃us W B,v=cL.sv B/\GP w' r us W B/\∀b,DP r W B b->Src E l (l+1) (λT=>T=44) b:=by
 obtain⟨B,b3,r3,rfl⟩:=z.ln hk hm;have hw:∀j:Nat,∃uB:Value×cL,∀o,r[j]?=ZA o->(B.z=ZD->w'.cell? ⟨B.b,j*7+5,ZB⟩=ZA uB.1/\uB.1.oneCell'=ZC)/\E9 w' o.bb uB.1 uB.2/\(uB.2.z=ZD->E.ω uB.2.b (44,j,5)):=by
  intro j
  cases ho:r[j]? with
  |none=>exact⟨(ZH,B),λo h=>by cases h⟩
  |some o=>
   have hi:(r.map bq)[j]?=ZA (bq o):=by rw[VZ,ho];rfl
   have hz:B.z=false:=r3.full hi;obtain⟨cells,m1,m2,m3⟩:=r3.mem hz;have Da:B.k=7:=r3.k;obtain⟨x,a1,a2,a3⟩:=m3 j _ 5 (.sl (o.bb.map aI)) hi rfl;rw[Da]at a1
   have vO:w'.cell? ⟨B.b,j*7+5,ZB⟩=ZA x:=by rw[cell_of_row w' B.b _ cells B.T (0,0) m1];exact a1
   obtain⟨B',c1,c2⟩:=ZjI a3 (q:=(44,j,5)) λdX=>r3.key 3 rfl hz j _ 5 _ x hi rfl (by simpa using dX) (by rw[Da];exact vO)
   exact⟨(x,B'),λo' h=>by cases h;exact⟨λ_=>⟨vO,a2⟩,c1,c2⟩⟩
 obtain⟨uB,Lc⟩:=WR hw;have hS:∀j o,r[j]?=ZA o->(uB j).2.z=ZD->E.S (uB j).2.b:=λj o ho hz=>(hk.ow _ _ ((Lc j o ho).2.2 hz)).1
 refine⟨λj=>(uB j).1,λj=>(uB j).2,B,rfl,⟨?_,λj o ho=>(Lc j o ho).2.1,?_,?_⟩,?_⟩
 ·refine⟨r3.k,r3.n.trans (by rw[zS];simp),r3.T,r3.pos,r3.nc,r3.cm,λi cs hi=>?_,λhz=>?_,λhz=>?_,λ_ h=>by cases h⟩
  ·obtain⟨o,_,rfl⟩:=DM hi
   rw[r3.k];rfl
  ·have:=r3.nil hz
   have h0:r=[]:=by simpa using this
   show Re r _=[];rw[h0];rfl
  ·obtain⟨cells,m1,m2,m3⟩:=r3.mem hz
   refine⟨cells,m1,m2,λi cs j p hi hj=>?_⟩
   obtain⟨o,ho,rfl⟩:=DM hi;have lS:(r.map bq)[i]?=ZA (bq o):=by rw[VZ,ho];rfl
   by_cases h6:j=5
   ·subst h6
    obtain rfl:=VG hj;obtain⟨hc,MP⟩:=(Lc i o ho).1 hz;rw[cell_of_row w' B.b _ cells B.T (0,0) m1]at hc
    have Da:B.k=7:=r3.k;rw[Da];exact⟨_,hc,MP,.c (.v _ MP)⟩
   ·obtain⟨⟨v,rfl⟩,yr⟩:=Zqs hj h6
    obtain⟨x,a1,a2,a3⟩:=m3 i _ j _ lS yr;obtain⟨rfl,_⟩:=a3.cF;exact⟨x,a1,a2,.c (.v _ a2)⟩
 ·intro j hj hz vF e
  have:=hS j _ (VF hj) hz;have e':(uB j).2.b=B.b:=e;rw[e']at this
  exact(hk.own _ _ b3 vF).2.2 this
 ·intro i j hi hj zi zj e
  have a:=(Lc i _ (VF hi)).2.2 zi;have b:=(Lc j _ (VF hj)).2.2 zj;have e':(uB i).2.b=(uB j).2.b:=e;rw[e']at a
  have:=(hk.ow _ _ b).2 _ a
  simpa using this
 ·rintro b (⟨hz,rfl⟩ |⟨j,hj,hz,rfl⟩)
  ·exact .inl ⟨l,B,VJ _,Yf _,b3,hz,rfl⟩
  ·exact .inr ⟨_,_,_,rfl,(Lc j _ (VF hj)).2.2 hz⟩
def ZgV(x:ZI):PV:=.ag [.ms 0,.ms 1,vi x.world.aa.change,.ms 2,.ms 3,.ms 4,vi x.world.now,.ms 5,.ms 6,vi x.world.aT,.ms 7,.ms 8,.ms 9,.ms 10,.ms 11,.ms 12]
def rowsOf(x:ZI):Mem:=[ZA ⟨.of 174,6,x.world.aa.aB.map br⟩,ZA ⟨.of 3,1,x.world.aa.off.map aI⟩,ZA ⟨⟨155,ZA 46⟩,11,x.world.ae.map aY⟩,ZA ⟨.of 177,4,x.world.aq.map aC⟩,ZA ⟨.of 46,2,x.world.ah.map aS⟩,ZA ⟨.of 181,6,x.world.aJ.map bt⟩,ZA ⟨.of 3,1,x.world.skip.map aI⟩,ZA ⟨.of 104,2,x.aP.map b6⟩,ZA ⟨.of 107,4,x.aR.map b9⟩,ZA ⟨.of 3,1,x.aF.map aI⟩,ZA ⟨⟨44,ZA 3⟩,7,x.aG.map bq⟩,ZA ⟨.of 111,4,x.lines.map bD⟩,ZA ⟨⟨48,ZA 3⟩,13,x.aE.map ZK⟩]
theorem Zgd(x:ZI)(l:Nat)(mb:Option MB)(h:(Zge x.world)[l]?=ZA mb):(rowsOf x)[l]?=ZA mb:=by
 match l,h with
 |0,h|1,h|2,h|3,h|4,h|5,h|6,h=>exact h
 |l+7,h=>simp[Zge]at h
theorem Tx{w w':World}{x:ZI}{O:Nat->Prop}(hk:Ok w O E w' (rowsOf x))(hO:∀b,¬O b)(hω:∀b q,E.ω b q->w.heap.size<=b)(hr:cN w' E (ZgV x) v):
 ∃(o:ve) (v0 v1 v3 v4 v5 v7 v8 v10 v11 v12 kB kC kD:Value),v=.agg #[v0,v1,ZF ZG x.world.aa.change,v3,v4,v5,ZF ZG x.world.now,v7,v8,ZF ZG x.world.aT,v10,v11,v12,kB,kC,kD]/\ZjS o v0 v1 v3 v4 v5 v7 v8 v10 v11 v12 kB kC kD/\GO w' x o/\∀q,o.D x q->w.heap.size<=q:=by
 obtain⟨vs,rfl,hl,h1,hv⟩:=hr.pb;have hvl:vs.size=16:=hl;have aO:∀{j:Nat} {p:PV},j<16->[PV.ms 0,PV.ms 1,vi x.world.aa.change,PV.ms 2,PV.ms 3,PV.ms 4,vi x.world.now,PV.ms 5,PV.ms 6,vi x.world.aT,PV.ms 7,PV.ms 8,PV.ms 9,PV.ms 10,PV.ms 11,PV.ms 12][j]?=ZA p->∃x,vs[j]?=ZA x/\cN w' E p x:=λ{j p} hj hp=>⟨vs[j]' YG,VU _,hv j p _ hp (VU _)⟩
 obtain⟨x0,y0,z0⟩:=aO (j:=0) YG rfl;obtain⟨x1,y1,z1⟩:=aO (j:=1) YG rfl;obtain⟨x2,y2,z2⟩:=aO (j:=2) YG rfl;obtain⟨x3,y3,z3⟩:=aO (j:=3) YG rfl;obtain⟨x4,y4,z4⟩:=aO (j:=4) YG rfl;obtain⟨x5,y5,z5⟩:=aO (j:=5) YG rfl;obtain⟨x6,y6,z6⟩:=aO (j:=6) YG rfl;obtain⟨x7,y7,z7⟩:=aO (j:=7) YG rfl;obtain⟨x8,y8,z8⟩:=aO (j:=8) YG rfl;obtain⟨x9,y9,z9⟩:=aO (j:=9) YG rfl;obtain⟨x10,eE,UJ⟩:=aO (j:=10) YG rfl;obtain⟨x11,oq,z11⟩:=aO (j:=11) YG rfl;obtain⟨x12,sj,z12⟩:=aO (j:=12) YG rfl;obtain⟨x13,re,z13⟩:=aO (j:=13) YG rfl;obtain⟨x14,px,z14⟩:=aO (j:=14) YG rfl;obtain⟨x15,tl,z15⟩:=aO (j:=15) YG rfl;have hvs:vs=#[x0,x1,x2,x3,x4,x5,x6,x7,x8,x9,x10,x11,x12,x13,x14,x15]:=by
  apply X9 (by simp[hvl])
  intro i hi h3;have e:=λ{j:Nat} {y:Value} (h:vs[j]?=ZA y)=>(VQ.1 h).2
  match i,hi with
  |0,_=>simpa using e y0
  |1,_=>simpa using e y1
  |2,_=>simpa using e y2
  |3,_=>simpa using e y3
  |4,_=>simpa using e y4
  |5,_=>simpa using e y5
  |6,_=>simpa using e y6
  |7,_=>simpa using e y7
  |8,_=>simpa using e y8
  |9,_=>simpa using e y9
  |10,_=>simpa using e eE
  |11,_=>simpa using e oq
  |12,_=>simpa using e sj
  |13,_=>simpa using e re
  |14,_=>simpa using e px
  |15,_=>simpa using e tl
  |i+16,hi=>omega
 obtain⟨rfl,_⟩:=z2.cF;obtain⟨rfl,_⟩:=z6.cF;obtain⟨rfl,_⟩:=z9.cF;obtain⟨B0,B1,B3,B4,B5,B7,B8,us,W,⟨e0,e1,e3,e4,e5,e7,e8⟩,gw,gd,s0⟩:=Zhz hk (Zgd x) z0 z1 z3 z4 z5 z7 z8;obtain⟨BZ,e10,r10,s1⟩:=Vf hk (l:=7) (es:=x.aP.map b6) rfl (λcs gl p hp=>Eo gl hp) UJ
 obtain⟨BR,e11,r11,s2⟩:=Vf hk (l:=8) (es:=x.aR.map b9) rfl (λcs gl p hp=>Em gl hp) z11
 obtain⟨BC,e12,r12,s3⟩:=Vf hk (l:=9) (es:=x.aF.map aI) rfl (λcs gl p hp=>pH gl hp) z12
 obtain⟨pu,pW,BP,e13,r13,s4⟩:=ZmO hk (l:=10) (r:=x.aG) rfl z13;obtain⟨BL,e14,r14,s5⟩:=Vf hk (l:=11) (es:=x.lines.map bD) rfl (λcs gl p hp=>El gl hp) z14
 obtain⟨au,aW,BA,e15,r15,s6⟩:=Zjs hk (l:=12) (r:=x.aE) rfl z15;have src:∀i q,(ve.mk us W B0 B1 B3 B4 B5 B7 B8 BZ BR BC pu pW BP BL au aW BA).d x i q->∃a b K,Src E a b K q/\((i=0/\a=0/\b=7/\K=λT=>T=155)\/(i=4/\a=10/\b=11/\K=λT=>T=44)\/(i=6/\a=12/\b=13/\K=λT=>T=48)\/(1<=i/\i<=5/\i≠4/\a=6+i/\b=7+i/\K=λ_=>False)):=by
  intro i q h
  match i,h with
  |0,h=>exact⟨_,_,_,s0 q h,.inl ⟨rfl,rfl,rfl,rfl⟩⟩
  |1,h=>exact⟨_,_,_,s1 q h,.inr (.inr (.inr ⟨YG,YG,YG,rfl,rfl,rfl⟩))⟩
  |2,h=>exact⟨_,_,_,s2 q h,.inr (.inr (.inr ⟨YG,YG,YG,rfl,rfl,rfl⟩))⟩
  |3,h=>exact⟨_,_,_,s3 q h,.inr (.inr (.inr ⟨YG,YG,YG,rfl,rfl,rfl⟩))⟩
  |4,h=>exact⟨_,_,_,s4 q h,.inr (.inl ⟨rfl,rfl,rfl,rfl⟩)⟩
  |5,h=>exact⟨_,_,_,s5 q h,.inr (.inr (.inr ⟨YG,YG,YG,rfl,rfl,rfl⟩))⟩
  |6,h=>exact⟨_,_,_,s6 q h,.inr (.inr (.inl ⟨rfl,rfl,rfl,rfl⟩))⟩
  |i+7,h=>exact h.elim
 refine⟨ve.mk us W B0 B1 B3 B4 B5 B7 B8 BZ BR BC pu pW BP BL au aW BA,x0,x1,x3,x4,x5,x7,x8,x10,x11,x12,x13,x14,x15,by rw[hvs],⟨e0,e1,e3,e4,e5,e7,e8,e10,e11,e12,e13,e14,e15⟩,⟨gw,gd,r10,r11,r12,r13,r14,r15,λi k hik q h h'=>?_⟩,λq ⟨i,h⟩=>?_⟩
 ·obtain⟨a,b,K,h1,h2⟩:=src i q h
  obtain⟨a',b',K',Mv,h2'⟩:=src k q h';refine h1.R9 hk Mv YG λT hT hT'=>?_
  rcases h2 with⟨rfl,_,_,rfl⟩ |⟨rfl,_,_,rfl⟩ |⟨rfl,_,_,rfl⟩ |⟨_,_,_,_,_,rfl⟩<;>rcases h2' with⟨rfl,_,_,rfl⟩ |⟨rfl,_,_,rfl⟩ |⟨rfl,_,_,rfl⟩ |⟨_,_,_,_,_,rfl⟩<;>first|exact hik rfl|exact hT|exact hT'|(rw[hT]at hT';exact absurd hT' (by decide))
 ·obtain⟨a,b,K,h1,_⟩:=src i q h
  exact h1.new hk hO hω
theorem RB.vu{w:World}{es0:List (List PV)}{S:Nat->Prop}(h:RB w T k es0 B)(hSB:B.z=ZD->S B.b)(es:List (List PV))(hn:es.length=es0.length)(hk:∀(i:Nat) (cs:List PV),es[i]?=ZA cs->cs.length=k)
 (hc:B.z=ZD->∀(i:Nat) (cs:List PV) (j:Nat) (p:PV),es[i]?=ZA cs->cs[j]?=ZA p->∃x,w.cell? ⟨B.b,i*k+j,ZB⟩=ZA x/\x.oneCell'=ZC/\cf w S p x):cf w S (.sl es) B.sv:=by
 have hBk:B.k=k:=h.k;have hBn:B.n=es0.length:=h.n
 cases hz:B.z with
 |true=>
  have h0:es0=[]:=h.nil hz;have:es=[]:=List.length_eq_zero_iff.1 (by rw[hn,h0];rfl)
  subst this;simp only[cL.sv,hz,if_true];exact .nil _ _
 |false=>
  have bO:=hSB hz;have hc:=hc hz;have Fq:∀(i:Nat) (cs:List PV) (j:Nat) (p:PV),es[i]?=ZA cs->cs[j]?=ZA p->w.cell? ⟨B.b,0+i*k+j,ZB⟩=ZA ((w.cell? ⟨B.b,0+i*k+j,ZB⟩).getD .nilIface):=λi cs j p hi hj=>by
   obtain⟨x,a,_,_⟩:=hc i cs j p hi hj;rw[VY,a];rfl
  have hx:∀(i:Nat) (cs:List PV) (j:Nat) (p:PV),es[i]?=ZA cs->cs[j]?=ZA p->((w.cell? ⟨B.b,0+i*k+j,ZB⟩).getD .nilIface).oneCell'=ZC/\cf w S p ((w.cell? ⟨B.b,0+i*k+j,ZB⟩).getD .nilIface):=λi cs j p hi hj=>by
   obtain⟨x,a,b,c⟩:=hc i cs j p hi hj;rw[VY,a];exact⟨b,c⟩
  have e:B.sv=.slice (ZA ⟨B.b,0,ZB⟩) es.length B.c:=by
   simp only[cL.sv,hz];rw[hBn,hn];rfl
  rw[e];exact .sl es B.b 0 k B.c _ bO (by rw[<-hBk];exact h.pos) (by rw[hn,<-hBn];exact h.nc) h.cm hk Fq (λi cs j p hi hj=>(hx i cs j p hi hj).1) (λi cs j p hi hj=>(hx i cs j p hi hj).2)
theorem RB.xC{w:World}{S:Nat->Prop}(h:RB w T k es B)(hf:∀cs∈es,∀p∈cs,∃v,p=.v v)(hSB:B.z=ZD->S B.b):cf w S (.sl es) B.sv:=
 RB.vu h hSB es rfl (λi cs hi=>(h.es i cs hi).trans h.k) λhz i cs j p hi hj=>by
  obtain⟨x,a,b,c⟩:=RB.cell h hz hi hj;obtain⟨v,rfl⟩:=hf cs (VI hi) p (VI hj);obtain⟨rfl,h1⟩:=c.cF;exact⟨x,a,b,.v _ h1⟩
theorem E9.vu{w:World}{xs:List Int}{S:Nat->Prop}(h:E9 w xs u B)(hSB:B.z=ZD->S B.b):cf w S (.sl (xs.map aI)) u:=by
 rcases h with⟨rfl,_,A,c,rfl⟩ |⟨_,rfl,hb⟩
 ·exact .nil A c
 ·exact RB.xC hb (λcs gl p hp=>pH gl hp) hSB
theorem sy.vu{w:World}{aK:List aw}{S:Nat->Prop}(h:sy w aK u B)(hSB:B.z=ZD->S B.b):cf w S (.sl (aK.map aS)) u:=by
 rcases h with⟨rfl,_,A,c,rfl⟩ |⟨_,rfl,hb⟩
 ·exact .nil A c
 ·exact RB.xC hb (λcs gl p hp=>Aq gl hp) hSB
theorem GA.vu{w:World}{r:List ZJ}{us:Nat->Value}{W:Nat->cL}{B:cL}{S:Nat->Prop}(h:GA w r us W B)(hS:∀b,DA r W B b->S b):cf w S (.sl (r.map ZK)) B.sv:=
 RB.vu h.row (λhz=>hS _ (.inl ⟨hz,rfl⟩)) _ (by rw[zR,VX]) (λi cs hi=>by
  obtain⟨o,_,rfl⟩:=V6.1 (VI hi);rfl) λhz i cs j p hi hj=>by
  rw[VZ]at hi
  obtain⟨o,ho,rfl⟩:=VT.1 hi
  by_cases h6:j=6
  ·subst h6
   obtain⟨x,a,b,c⟩:=RB.cell h.row hz (NU (us:=us) ho) (j:=6) (p:=.v (us i)) rfl;obtain⟨rfl,_⟩:=c.cF;obtain rfl:=VG hj;exact⟨_,a,b,(h.sd i o ho).vu λhz=>hS _ (.inr ⟨i,(VH.1 ho).1,hz,rfl⟩)⟩
  ·obtain⟨⟨v,rfl⟩,yr⟩:=Zqr (u:=us i) hj h6
   obtain⟨x,a,b,c⟩:=RB.cell h.row hz (NU (us:=us) ho) yr;obtain⟨rfl,h1⟩:=c.cF;exact⟨_,a,b,.v _ h1⟩
theorem GP.vu{w:World}{r:List aM}{us:Nat->Value}{W:Nat->cL}{B:cL}{S:Nat->Prop}(h:GP w r us W B)(hS:∀b,DP r W B b->S b):cf w S (.sl (r.map bq)) B.sv:=
 RB.vu h.row (λhz=>hS _ (.inl ⟨hz,rfl⟩)) _ (by rw[zS,VX]) (λi cs hi=>by
  obtain⟨o,_,rfl⟩:=V6.1 (VI hi);rfl) λhz i cs j p hi hj=>by
  rw[VZ]at hi
  obtain⟨o,ho,rfl⟩:=VT.1 hi
  by_cases h6:j=5
  ·subst h6
   obtain⟨x,a,b,c⟩:=RB.cell h.row hz (NV (us:=us) ho) (j:=5) (p:=.v (us i)) rfl;obtain⟨rfl,_⟩:=c.cF;obtain rfl:=VG hj;exact⟨_,a,b,(h.sd i o ho).vu λhz=>hS _ (.inr ⟨i,(VH.1 ho).1,hz,rfl⟩)⟩
  ·obtain⟨⟨v,rfl⟩,yr⟩:=Zqt (u:=us i) hj h6
   obtain⟨x,a,b,c⟩:=RB.cell h.row hz (NV (us:=us) ho) yr;obtain⟨rfl,h1⟩:=c.cF;exact⟨_,a,b,.v _ h1⟩
theorem GW.vu{w:World}{g:az}{us:Nat->Value}{W:Nat->cL}{B0 B1 B3 B4 B5 B7 B8:cL}{S:Nat->Prop}(h:GW w g us W B0 B1 B3 B4 B5 B7 B8)(hS:∀b,GB g.ae W B0 B1 B3 B4 B5 B7 B8 b->S b):yZ w S g B0.sv B1.sv B3.sv B4.sv B5.sv B7.sv B8.sv where
 r0:=RB.xC h.r0 (λcs gl p hp=>IC gl hp) λhz=>hS _ (.inl ⟨B0,by simp,hz,rfl⟩)
 r1:=RB.xC h.r1 (λcs gl p hp=>pH gl hp) λhz=>hS _ (.inl ⟨B1,by simp,hz,rfl⟩)
 r3:=RB.vu h.r3 (λhz=>hS _ (.inl ⟨B3,by simp,hz,rfl⟩)) _ (by rw[zL,VX]) (λi cs hi=>by
  obtain⟨o,_,rfl⟩:=V6.1 (VI hi);rfl) λhz i cs j p hi hj=>by
  rw[VZ]at hi
  obtain⟨o,ho,rfl⟩:=VT.1 hi
  by_cases h6:j=6
  ·subst h6
   obtain⟨x,a,b,c⟩:=RB.cell h.r3 hz (Nx (us:=us) ho) (j:=6) (p:=.v (us i)) rfl;obtain⟨rfl,_⟩:=c.cF;obtain rfl:=VG hj;exact⟨_,a,b,(h.aK i o ho).vu λhz=>hS _ (.inr ⟨i,(VH.1 ho).1,hz,rfl⟩)⟩
  ·obtain⟨⟨v,rfl⟩,yr⟩:=ZfF (u:=us i) hj h6
   obtain⟨x,a,b,c⟩:=RB.cell h.r3 hz (Nx (us:=us) ho) yr;obtain⟨rfl,h1⟩:=c.cF;exact⟨_,a,b,.v _ h1⟩
 r4:=RB.xC h.r4 (λcs gl p hp=>yl gl hp) λhz=>hS _ (.inl ⟨B4,by simp,hz,rfl⟩)
 r5:=RB.xC h.r5 (λcs gl p hp=>Aq gl hp) λhz=>hS _ (.inl ⟨B5,by simp,hz,rfl⟩)
 r7:=RB.xC h.r7 (λcs gl p hp=>En gl hp) λhz=>hS _ (.inl ⟨B7,by simp,hz,rfl⟩)
 r8:=RB.xC h.r8 (λcs gl p hp=>pH gl hp) λhz=>hS _ (.inl ⟨B8,by simp,hz,rfl⟩)
structure cr(w:World)(S:Nat->Prop)(x:ZI)(v0 v1 v3 v4 v5 v7 v8 v10 v11 v12 kB kC kD:Value):Prop where
 w_:yZ w S x.world v0 v1 v3 v4 v5 v7 v8
 r10:cf w S (.sl (x.aP.map b6)) v10
 r11:cf w S (.sl (x.aR.map b9)) v11
 r12:cf w S (.sl (x.aF.map aI)) v12
 r13:cf w S (.sl (x.aG.map bq)) kB
 r14:cf w S (.sl (x.lines.map bD)) kC
 r15:cf w S (.sl (x.aE.map ZK)) kD
section
variable {w w':World} {S S':Nat->Prop} {x:ZI} {v0 v1 v3 v4 v5 v7 v8 v10 v11 v12 kB kC kD:Value}
theorem cr.ext(h:cr w S x v0 v1 v3 v4 v5 v7 v8 v10 v11 v12 kB kC kD)(hS:∀b,S b->S' b)(hc:∀b,S b->w'.heap[b]?=w.heap[b]?):cr w' S' x v0 v1 v3 v4 v5 v7 v8 v10 v11 v12 kB kC kD:=by
 have K6:∀b o,S b->w'.cell? ⟨b,o,ZB⟩=w.cell? ⟨b,o,ZB⟩:=λb o hb=>cell_of_heap (hc b hb)
 exact⟨h.w_.ext hS hc,h.r10.ext hS K6,h.r11.ext hS K6,h.r12.ext hS K6,h.r13.ext hS K6,h.r14.ext hS K6,h.r15.ext hS K6⟩
theorem cr.up(h:cr w (dV w) x v0 v1 v3 v4 v5 v7 v8 v10 v11 v12 kB kC kD)(hu:Up w w'):cr w' (dV w') x v0 v1 v3 v4 v5 v7 v8 v10 v11 v12 kB kC kD:=
 h.ext (λb hb=>V4 hb hu.size) (λb hb=>hu.block b hb)
theorem cr.rep(h:cr w S x v0 v1 v3 v4 v5 v7 v8 v10 v11 v12 kB kC kD):cN w (E1 S (λ_=>ZB) 0) (.ag (ZM x)) (.agg #[v0,v1,ZF ZG x.world.aa.change,v3,v4,v5,ZF ZG x.world.now,v7,v8,ZF ZG x.world.aT,v10,v11,v12,kB,kC,kD]):=by
 refine .ag _ _ rfl (λj y hj=>?_) (λj p y hp hy=>?_)
 ·match j,hj with
  |0,hj=>obtain rfl:=VG hj;exact tj h.w_.r0
  |1,hj=>obtain rfl:=VG hj;exact tj h.w_.r1
  |2,hj=>obtain rfl:=VG hj;rfl
  |3,hj=>obtain rfl:=VG hj;exact tj h.w_.r3
  |4,hj=>obtain rfl:=VG hj;exact tj h.w_.r4
  |5,hj=>obtain rfl:=VG hj;exact tj h.w_.r5
  |6,hj=>obtain rfl:=VG hj;rfl
  |7,hj=>obtain rfl:=VG hj;exact tj h.w_.r7
  |8,hj=>obtain rfl:=VG hj;exact tj h.w_.r8
  |9,hj=>obtain rfl:=VG hj;rfl
  |10,hj=>obtain rfl:=VG hj;exact tj h.r10
  |11,hj=>obtain rfl:=VG hj;exact tj h.r11
  |12,hj=>obtain rfl:=VG hj;exact tj h.r12
  |13,hj=>obtain rfl:=VG hj;exact tj h.r13
  |14,hj=>obtain rfl:=VG hj;exact tj h.r14
  |15,hj=>obtain rfl:=VG hj;exact tj h.r15
  |n+16,hj=>simp at hj
 ·match j,hp,hy with
  |0,hp,hy=>obtain rfl:=VG hp;obtain rfl:=VG hy;exact .c h.w_.r0
  |1,hp,hy=>obtain rfl:=VG hp;obtain rfl:=VG hy;exact .c h.w_.r1
  |2,hp,hy=>obtain rfl:=VG hp;obtain rfl:=VG hy;exact .c (.v _ rfl)
  |3,hp,hy=>obtain rfl:=VG hp;obtain rfl:=VG hy;exact .c h.w_.r3
  |4,hp,hy=>obtain rfl:=VG hp;obtain rfl:=VG hy;exact .c h.w_.r4
  |5,hp,hy=>obtain rfl:=VG hp;obtain rfl:=VG hy;exact .c h.w_.r5
  |6,hp,hy=>obtain rfl:=VG hp;obtain rfl:=VG hy;exact .c (.v _ rfl)
  |7,hp,hy=>obtain rfl:=VG hp;obtain rfl:=VG hy;exact .c h.w_.r7
  |8,hp,hy=>obtain rfl:=VG hp;obtain rfl:=VG hy;exact .c h.w_.r8
  |9,hp,hy=>obtain rfl:=VG hp;obtain rfl:=VG hy;exact .c (.v _ rfl)
  |10,hp,hy=>obtain rfl:=VG hp;obtain rfl:=VG hy;exact .c h.r10
  |11,hp,hy=>obtain rfl:=VG hp;obtain rfl:=VG hy;exact .c h.r11
  |12,hp,hy=>obtain rfl:=VG hp;obtain rfl:=VG hy;exact .c h.r12
  |13,hp,hy=>obtain rfl:=VG hp;obtain rfl:=VG hy;exact .c h.r13
  |14,hp,hy=>obtain rfl:=VG hp;obtain rfl:=VG hy;exact .c h.r14
  |15,hp,hy=>obtain rfl:=VG hp;obtain rfl:=VG hy;exact .c h.r15
  |n+16,hp,hy=>simp[ZM]at hp
theorem officeR_of{cs:Array Value}(h:Reads w (ZM x) cs.toList):∃(u0 u1 u3 u4 u5 u7 u8 u10 u11 u12 u13 u14 u15:Value),cs=#[u0,u1,ZF ZG x.world.aa.change,u3,u4,u5,ZF ZG x.world.now,u7,u8,ZF ZG x.world.aT,u10,u11,u12,u13,u14,u15]/\cr w (dV w) x u0 u1 u3 u4 u5 u7 u8 u10 u11 u12 u13 u14 u15:=by
 obtain⟨cs⟩:=cs;have hl:=h.1
 match cs,hl,h with
 | [a0,a1,a2,a3,a4,a5,a6,a7,a8,a9,a10,a11,a12,a13,a14,a15],_,h=>
  have h2:=(h.2 2 _ a2 rfl rfl).2;have h6:=(h.2 6 _ a6 rfl rfl).2;have h9:=(h.2 9 _ a9 rfl rfl).2
  cases h2;cases h6;cases h9
  exact⟨a0,a1,a3,a4,a5,a7,a8,a10,a11,a12,a13,a14,a15,rfl,⟨⟨(h.2 0 _ a0 rfl rfl).2,(h.2 1 _ a1 rfl rfl).2,(h.2 3 _ a3 rfl rfl).2,(h.2 4 _ a4 rfl rfl).2,(h.2 5 _ a5 rfl rfl).2,(h.2 7 _ a7 rfl rfl).2,(h.2 8 _ a8 rfl rfl).2⟩,(h.2 10 _ a10 rfl rfl).2,(h.2 11 _ a11 rfl rfl).2,(h.2 12 _ a12 rfl rfl).2,(h.2 13 _ a13 rfl rfl).2,(h.2 14 _ a14 rfl rfl).2,(h.2 15 _ a15 rfl rfl).2⟩⟩
end
structure jh(w a:World)(x:ZI)(o:ve)(v0 v1 v3 v4 v5 v7 v8 v10 v11 v12 kB kC kD:Value):Prop where
 go:GO a x o
 val:ZjS o v0 v1 v3 v4 v5 v7 v8 v10 v11 v12 kB kC kD
 new:∀q,o.D x q->w.heap.size<=q
section
variable {w w0 a b:World} {x:ZI} {o:ve} {v0 v1 v3 v4 v5 v7 v8 v10 v11 v12 kB kC kD:Value} {O:Nat->Prop}
theorem jh.up(h:jh w a x o v0 v1 v3 v4 v5 v7 v8 v10 v11 v12 kB kC kD)(hu:Up a b):jh w b x o v0 v1 v3 v4 v5 v7 v8 v10 v11 v12 kB kC kD:={ h with go:=h.go.cx (mA.of hu) λ_ _ h=>h}
theorem jh.zZ(h:jh w a x o v0 v1 v3 v4 v5 v7 v8 v10 v11 v12 kB kC kD)(hu:mA O a b)(hO:∀q,o.D x q->¬O q):jh w b x o v0 v1 v3 v4 v5 v7 v8 v10 v11 v12 kB kC kD:={ h with go:=h.go.cx hu hO}
theorem jh.base(h:jh w a x o v0 v1 v3 v4 v5 v7 v8 v10 v11 v12 kB kC kD)(hl:w0.heap.size<=w.heap.size):jh w0 a x o v0 v1 v3 v4 v5 v7 v8 v10 v11 v12 kB kC kD:={ h with new:=λq hq=>Wb hl (h.new q hq)}
theorem jh.Cp(h:jh w a x o v0 v1 v3 v4 v5 v7 v8 v10 v11 v12 kB kC kD)(hq:q<w.heap.size):¬o.D x q:=λhg=>XW _ (V4 hq (h.new q hg))
theorem jh.top(h:jh w a x o v0 v1 v3 v4 v5 v7 v8 v10 v11 v12 kB kC kD):¬o.D x a.heap.size:=λhg=>XW _ (h.go.lt hg)
theorem jh.vu(h:jh w a x o v0 v1 v3 v4 v5 v7 v8 v10 v11 v12 kB kC kD):cr a (o.D x) x v0 v1 v3 v4 v5 v7 v8 v10 v11 v12 kB kC kD:=by
 obtain⟨g,v,n⟩:=h;rw[v.e0,v.e1,v.e3,v.e4,v.e5,v.e7,v.e8,v.e10,v.e11,v.e12,v.e13,v.e14,v.e15];exact⟨g.gw.vu λb hb=>⟨0,hb⟩,g.z.xC (λcs gl p hp=>Eo gl hp) λhz=>⟨1,hz,rfl⟩,g.r.xC (λcs gl p hp=>Em gl hp) λhz=>⟨2,hz,rfl⟩,g.c.xC (λcs gl p hp=>pH gl hp) λhz=>⟨3,hz,rfl⟩,g.p.vu λb hb=>⟨4,hb⟩,g.l.xC (λcs gl p hp=>El gl hp) λhz=>⟨5,hz,rfl⟩,g.j.vu λb hb=>⟨6,hb⟩⟩
theorem jh.rep(h:jh w a x o v0 v1 v3 v4 v5 v7 v8 v10 v11 v12 kB kC kD):cr a (dV a) x v0 v1 v3 v4 v5 v7 v8 v10 v11 v12 kB kC kD:=h.vu.ext (λb hb=>h.go.lt hb) λ_ _=>rfl
theorem jh.mark(h:jh w a x o v0 v1 v3 v4 v5 v7 v8 v10 v11 v12 kB kC kD)(hf:gJ x 1)(v2 v6 v9:Value):
 Calls prog 17 #[.agg #[v0,v1,v2,v3,v4,v5,v6,v7,v8,v9,v10,v11,v12,kB,kC,kD],ZF ZG 1] a λe b=>e=.returned (ZF ZG (yc x 1))/\cr b (dV b) (Tu x 1) v0 v1 v3 v4 v5 v7 v8 v10 v11 v12 kB kC kD/\mA (λq=>w.heap.size<=q/\q<a.heap.size/\o.D x q) a b:=by
 refine(M7 v0 v1 v2 v3 v4 v5 v6 v7 v8 v9 v10 v11 v12 kB kC kD h.val x 1 a h.go hf).mono ?_;rintro e b ⟨rfl,h1,h2⟩;have e:o.d (Tu x 1)=o.d x:=ve.O9 (vW _ _) (uJ _ _) (uH _ _);have h3:jh w b (Tu x 1) o v0 v1 v3 v4 v5 v7 v8 v10 v11 v12 kB kC kD:=⟨h1,h.val,λq ⟨i,hi⟩=>h.new q ⟨i,by rw[<-e];exact hi⟩⟩
 exact⟨rfl,h3.rep,h2.more λq hq=>⟨h.new q hq,h.go.lt hq,hq⟩⟩
end
variable {P:Program}
theorem NS{w:World}{z1 v:Value}(h:cN w E (.tu [p,.v z1]) v):∃u,v=.tuple #[u,z1]/\cN w E p u:=by
 cases h with
 |c h=>cases h
 |tu ps vs hl hr=>
  obtain⟨vs⟩:=vs
  match vs,hl,hr with
  | [u,y1],_,hr=>
   obtain⟨rfl,_⟩:=(hr 1 (.v z1) _ rfl rfl).cF;exact⟨u,rfl,hr 0 p u rfl rfl⟩
end Go.Proofs.YtbalgkakkoocjaaGreat
namespace Go.Proofs.YtbalgkakkoocjaaGreat
set_option maxRecDepth 10000
open Go.RowKit
variable {E:Env}{v z1:Value}
theorem yO{w:World}{o:Obj}:(World.alloc w o).heap.size=w.heap.size+1:=by simp
theorem yP{w:World}:w.drew.heap.size=w.heap.size:=rfl
section
variable {w a b c:World} {q:Nat} {T:TypeId} {v0 v1 v2 v3 v4 v5 v6 v7 v8 v9:Value} {g:az} {S:Nat->Prop}
theorem Wr.zZ{cs:Array Value}(k:Wr q T a b cs):mA (λi=>i=q) a b:=⟨k.os,k.tape,k.output,by rw[k.size];exact VJ _,λi _ hi=>k.tq i hi⟩
end
section
variable {w0 w a b:World} {q:Nat} {T:TypeId} {g:az} {us:Nat->Value} {W:Nat->cL} {B0 B1 B3 B4 B5 B7 B8:cL} {v0 v1 v2 v3 v4 v5 v6 v7 v8 v9:Value}
end
set_option maxRecDepth 100000
section
variable {w a:World} {x:ZI} {v0 v1 v3 v4 v5 v7 v8 v10 v11 v12 kB kC kD u0 u1 u3 u4 u5 u7 u8 u10 u11 u12 u13 u14 u15:Value}
theorem ua{y:Int}(hy:fT x 1048576=ZA y)(h:cr w (dV w) x v0 v1 v3 v4 v5 v7 v8 v10 v11 v12 kB kC kD):
 Calls prog 10 #[.agg #[v0,v1,ZF ZG x.world.aa.change,v3,v4,v5,ZF ZG x.world.now,v7,v8,ZF ZG x.world.aT,v10,v11,v12,kB,kC,kD],ZF ZG 1048576] w λe w'=>e=.returned (ZF ZG y)/\Up w w':=by
 have c:=CT.ok (P:=prog) hy;simp only[CT.f,CT.args,CT.m0,CT.res,CT.mem]at c
 exact cq.val c rfl (Ec h.rep (.c (.v _ rfl)))
theorem pG(ht:bJ x x=ZA ZC)(h:cr w (dV w) x v0 v1 v3 v4 v5 v7 v8 v10 v11 v12 kB kC kD)(h':cr w (dV w) x u0 u1 u3 u4 u5 u7 u8 u10 u11 u12 u13 u14 u15):
 Calls prog 15 #[.agg #[v0,v1,ZF ZG x.world.aa.change,v3,v4,v5,ZF ZG x.world.now,v7,v8,ZF ZG x.world.aT,v10,v11,v12,kB,kC,kD],.agg #[u0,u1,ZF ZG x.world.aa.change,u3,u4,u5,ZF ZG x.world.now,u7,u8,ZF ZG x.world.aT,u10,u11,u12,u13,u14,u15]] w λe w'=>e=.returned (.bool ZC)/\Up w w':=by
 have c:=CT.ok (P:=prog) ht;simp only[CT.f,CT.args,CT.m0,CT.res,CT.mem]at c
 exact cq.val c rfl (Ec h.rep h'.rep)
theorem vk(hf:gJ x 1)(h:cr a (dV a) (Tu x 1) v0 v1 v3 v4 v5 v7 v8 v10 v11 v12 kB kC kD):
 Calls prog 19 #[.agg #[v0,v1,ZF ZG x.world.aa.change,v3,v4,v5,ZF ZG x.world.now,v7,v8,ZF ZG x.world.aT,v10,v11,v12,kB,kC,kD],ZF ZG 1] a λe b=>e=.returned (ZF ZG (yc x 1))/\Up a b:=by
 have c:=CT.ok (P:=prog) (Ke hf);simp only[CT.f,CT.args,CT.m0,CT.res,CT.mem]at c
 exact cq.val c rfl (Ec h.rep (.c (.v _ rfl)))
end
section
variable {P:Program} {f:FuncId} {args:List PV} {x:ZI}
theorem QB{w a:World}(hk:Ok w (mz λ_=>ZB) E a (rowsOf x))(hω:∀b q,E.ω b q->False\/w.heap.size<=b\/mz (λ_=>ZB) b)(hr:cN a E (ZgV x) v):
 ∃(o:ve) (X0:Option Addr) (Bb:Nat) (X1:Option Addr) (Bc:Nat) (X3:Option Addr) (Bd:Nat) (X4:Option Addr) (Be:Nat) (X5:Option Addr) (Bf:Nat) (X7:Option Addr) (Bg:Nat) (X8:Option Addr) (Bh:Nat) (AP:Option Addr) (qT:Nat) (AQ:Option Addr) (qU:Nat) (AR:Option Addr) (qV:Nat) (AS:Option Addr) (qY:Nat) (AT:Option Addr) (qZ:Nat) (AU:Option Addr) (ra:Nat),v=.agg #[.slice X0 x.world.aa.aB.length Bb,.slice X1 x.world.aa.off.length Bc,ZF ZG x.world.aa.change,.slice X3 x.world.ae.length Bd,.slice X4 x.world.aq.length Be,.slice X5 x.world.ah.length Bf,ZF ZG x.world.now,.slice X7 x.world.aJ.length Bg,.slice X8 x.world.skip.length Bh,ZF ZG x.world.aT,.slice AP x.aP.length qT,.slice AQ x.aR.length qU,.slice AR x.aF.length qV,.slice AS x.aG.length qY,.slice AT x.lines.length qZ,.slice AU x.aE.length ra]/\jh w a x o (.slice X0 x.world.aa.aB.length Bb) (.slice X1 x.world.aa.off.length Bc) (.slice X3 x.world.ae.length Bd) (.slice X4 x.world.aq.length Be) (.slice X5 x.world.ah.length Bf) (.slice X7 x.world.aJ.length Bg) (.slice X8 x.world.skip.length Bh) (.slice AP x.aP.length qT) (.slice AQ x.aR.length qU) (.slice AR x.aF.length qV) (.slice AS x.aG.length qY) (.slice AT x.lines.length qZ) (.slice AU x.aE.length ra):=by
 obtain⟨o,v0,v1,v3,v4,v5,v7,v8,v10,v11,v12,kB,kC,kD,rfl,h1,h2,h3⟩:=Tx hk (λb=>sr) (λb q hq=>by
  rcases hω b q hq with h|h|h
  ·exact h.elim
  ·exact h
  ·exact absurd h sr) hr
 have ho:jh w a x o v0 v1 v3 v4 v5 v7 v8 v10 v11 v12 kB kC kD:=⟨h2,h1,h3⟩;have hq:=ho.rep;obtain⟨X0,Bb,e0⟩:=bT hq.w_.r0;obtain⟨X1,Bc,e1⟩:=bT hq.w_.r1;obtain⟨X3,Bd,e3⟩:=bT hq.w_.r3;obtain⟨X4,Be,e4⟩:=bT hq.w_.r4;obtain⟨X5,Bf,e5⟩:=bT hq.w_.r5;obtain⟨X7,Bg,e7⟩:=bT hq.w_.r7;obtain⟨X8,Bh,e8⟩:=bT hq.w_.r8;obtain⟨AP,qT,e10⟩:=bT hq.r10;obtain⟨AQ,qU,e11⟩:=bT hq.r11;obtain⟨AR,qV,e12⟩:=bT hq.r12;obtain⟨AS,qY,e13⟩:=bT hq.r13;obtain⟨AT,qZ,e14⟩:=bT hq.r14;obtain⟨AU,ra,e15⟩:=bT hq.r15;rw[VX]at e0 e1 e3 e4 e5 e7 e8 e10 e11 e12 e13 e14 e15
 subst e0 e1 e3 e4 e5 e7 e8 e10 e11 e12 e13 e14 e15;exact⟨o,X0,Bb,X1,Bc,X3,Bd,X4,Be,X5,Bf,X7,Bg,X8,Bh,AP,qT,AQ,qU,AR,qV,AS,qY,AT,qZ,AU,ra,rfl,ho⟩
theorem cq.xc(h:cq P f args [] (ZgV x) (rowsOf x)){w:World}{vs:Array Value}(hl:vs.size=args.length)(ha:∀(i:Nat) (p:PV),args[i]?=ZA p->∃x,vs[i]?=ZA x/\cN w (E1 (dV w) (λ_=>ZB) 0) p x):
 Calls P f vs w λe a=>∃(o:ve) (X0:Option Addr) (Bb:Nat) (X1:Option Addr) (Bc:Nat) (X3:Option Addr) (Bd:Nat) (X4:Option Addr) (Be:Nat) (X5:Option Addr) (Bf:Nat) (X7:Option Addr) (Bg:Nat) (X8:Option Addr) (Bh:Nat) (AP:Option Addr) (qT:Nat) (AQ:Option Addr) (qU:Nat) (AR:Option Addr) (qV:Nat) (AS:Option Addr) (qY:Nat) (AT:Option Addr) (qZ:Nat) (AU:Option Addr) (ra:Nat),e=.returned (.agg #[.slice X0 x.world.aa.aB.length Bb,.slice X1 x.world.aa.off.length Bc,ZF ZG x.world.aa.change,.slice X3 x.world.ae.length Bd,.slice X4 x.world.aq.length Be,.slice X5 x.world.ah.length Bf,ZF ZG x.world.now,.slice X7 x.world.aJ.length Bg,.slice X8 x.world.skip.length Bh,ZF ZG x.world.aT,.slice AP x.aP.length qT,.slice AQ x.aR.length qU,.slice AR x.aF.length qV,.slice AS x.aG.length qY,.slice AT x.lines.length qZ,.slice AU x.aE.length ra])/\Up w a/\jh w a x o (.slice X0 x.world.aa.aB.length Bb) (.slice X1 x.world.aa.off.length Bc) (.slice X3 x.world.ae.length Bd) (.slice X4 x.world.aq.length Be) (.slice X5 x.world.ah.length Bf) (.slice X7 x.world.aJ.length Bg) (.slice X8 x.world.skip.length Bh) (.slice AP x.aP.length qT) (.slice AQ x.aR.length qU) (.slice AR x.aF.length qV) (.slice AS x.aG.length qY) (.slice AT x.lines.length qZ) (.slice AU x.aE.length ra):=by
 refine(h (dV w) (λ_=>ZB) w vs (λ_ _=>False) (Ji w) hl ha).mono ?_
 rintro e a ⟨v,E,rfl,hk,_,_,⟨_,hω⟩,hr⟩;obtain⟨o,X0,Bb,X1,Bc,X3,Bd,X4,Be,X5,Bf,X7,Bg,X8,Bh,AP,qT,AQ,qU,AR,qV,AS,qY,AT,qZ,AU,ra,rfl,ho⟩:=QB hk hω hr;exact⟨o,X0,Bb,X1,Bc,X3,Bd,X4,Be,X5,Bf,X7,Bg,X8,Bh,AP,qT,AQ,qU,AR,qV,AS,qY,AT,qZ,AU,ra,rfl,wm hk,ho⟩
theorem cq.DD(h:cq P f args [] (.tu [ZgV x,.v z1]) (rowsOf x)){w:World}{vs:Array Value}(hl:vs.size=args.length)(ha:∀(i:Nat) (p:PV),args[i]?=ZA p->∃x,vs[i]?=ZA x/\cN w (E1 (dV w) (λ_=>ZB) 0) p x):
 Calls P f vs w λe a=>∃(o:ve) (X0:Option Addr) (Bb:Nat) (X1:Option Addr) (Bc:Nat) (X3:Option Addr) (Bd:Nat) (X4:Option Addr) (Be:Nat) (X5:Option Addr) (Bf:Nat) (X7:Option Addr) (Bg:Nat) (X8:Option Addr) (Bh:Nat) (AP:Option Addr) (qT:Nat) (AQ:Option Addr) (qU:Nat) (AR:Option Addr) (qV:Nat) (AS:Option Addr) (qY:Nat) (AT:Option Addr) (qZ:Nat) (AU:Option Addr) (ra:Nat),e=.returned (.tuple #[.agg #[.slice X0 x.world.aa.aB.length Bb,.slice X1 x.world.aa.off.length Bc,ZF ZG x.world.aa.change,.slice X3 x.world.ae.length Bd,.slice X4 x.world.aq.length Be,.slice X5 x.world.ah.length Bf,ZF ZG x.world.now,.slice X7 x.world.aJ.length Bg,.slice X8 x.world.skip.length Bh,ZF ZG x.world.aT,.slice AP x.aP.length qT,.slice AQ x.aR.length qU,.slice AR x.aF.length qV,.slice AS x.aG.length qY,.slice AT x.lines.length qZ,.slice AU x.aE.length ra],z1])/\Up w a/\jh w a x o (.slice X0 x.world.aa.aB.length Bb) (.slice X1 x.world.aa.off.length Bc) (.slice X3 x.world.ae.length Bd) (.slice X4 x.world.aq.length Be) (.slice X5 x.world.ah.length Bf) (.slice X7 x.world.aJ.length Bg) (.slice X8 x.world.skip.length Bh) (.slice AP x.aP.length qT) (.slice AQ x.aR.length qU) (.slice AR x.aF.length qV) (.slice AS x.aG.length qY) (.slice AT x.lines.length qZ) (.slice AU x.aE.length ra):=by
 refine(h (dV w) (λ_=>ZB) w vs (λ_ _=>False) (Ji w) hl ha).mono ?_
 rintro e a ⟨v,E,rfl,hk,_,_,⟨_,hω⟩,hr⟩;obtain⟨u,rfl,hr1⟩:=NS hr;obtain⟨o,X0,Bb,X1,Bc,X3,Bd,X4,Be,X5,Bf,X7,Bg,X8,Bh,AP,qT,AQ,qU,AR,qV,AS,qY,AT,qZ,AU,ra,rfl,ho⟩:=QB hk hω hr1;exact⟨o,X0,Bb,X1,Bc,X3,Bd,X4,Be,X5,Bf,X7,Bg,X8,Bh,AP,qT,AQ,qU,AR,qV,AS,qY,AT,qZ,AU,ra,rfl,wm hk,ho⟩
def Zmj(x:ZI):PV:=.ag [.sl (x.world.aa.aB.map br),.sl (x.world.aa.off.map aI),vi x.world.aa.change,.sl (x.world.ae.map aY),.sl (x.world.aq.map aC),.sl (x.world.ah.map aS),vi x.world.now,.sl (x.world.aJ.map bt),.sl (x.world.skip.map aI),vi x.world.aT,.sl (x.aP.map b6),.sl (x.aR.map b9),.sl (x.aF.map aI),.ms 0,.sl (x.lines.map bD),.ms 1]
def ZjF(x:ZI):Mem:=[ZA ⟨.of 44,7,x.aG.map bq⟩,ZA ⟨.of 48,13,x.aE.map ZK⟩]
theorem Tj{l:List aM}:∀cs∈l.map bq,∀q∈cs,uW q=true:=by
 intro cs gl q hq;obtain⟨o,_,rfl⟩:=V6.1 gl;simp only[bq,VM,VP,or_false]at hq
 repeat(first|(rcases hq with rfl|hq;rfl) |(subst hq;rfl))
theorem ZhO{l:List ZJ}:∀cs∈l.map ZK,∀q∈cs,uW q=true:=by
 intro cs gl q hq;obtain⟨o,_,rfl⟩:=V6.1 gl;simp only[ZK,VM,VP,or_false]at hq
 repeat(first|(rcases hq with rfl|hq;rfl) |(subst hq;rfl))
theorem Zao{w:World}{es:List (List PV)}{x:Value}(h:cN w E (.sl es) x):cf w E.S (.sl es) x:=by
 cases h with
 |c h=>exact h
theorem Q9{w a:World}{S:Nat->Prop}(hk:Ok w (mz λ_=>ZB) E a (ZjF x))(hS:∀b,E.S b->S b)(hO:∀(l:Nat) (B:cL),E.β l=ZA B->B.z=ZD->S B.b)(hr:cN a E (Zmj x) v):
 ∃(X0:Option Addr) (Bb:Nat) (X1:Option Addr) (Bc:Nat) (X3:Option Addr) (Bd:Nat) (X4:Option Addr) (Be:Nat) (X5:Option Addr) (Bf:Nat) (X7:Option Addr) (Bg:Nat) (X8:Option Addr) (Bh:Nat) (AP:Option Addr) (qT:Nat) (AQ:Option Addr) (qU:Nat) (AR:Option Addr) (qV:Nat) (AS:Option Addr) (qY:Nat) (AT:Option Addr) (qZ:Nat) (AU:Option Addr) (ra:Nat),v=.agg #[.slice X0 x.world.aa.aB.length Bb,.slice X1 x.world.aa.off.length Bc,ZF ZG x.world.aa.change,.slice X3 x.world.ae.length Bd,.slice X4 x.world.aq.length Be,.slice X5 x.world.ah.length Bf,ZF ZG x.world.now,.slice X7 x.world.aJ.length Bg,.slice X8 x.world.skip.length Bh,ZF ZG x.world.aT,.slice AP x.aP.length qT,.slice AQ x.aR.length qU,.slice AR x.aF.length qV,.slice AS x.aG.length qY,.slice AT x.lines.length qZ,.slice AU x.aE.length ra]/\cr a S x (.slice X0 x.world.aa.aB.length Bb) (.slice X1 x.world.aa.off.length Bc) (.slice X3 x.world.ae.length Bd) (.slice X4 x.world.aq.length Be) (.slice X5 x.world.ah.length Bf) (.slice X7 x.world.aJ.length Bg) (.slice X8 x.world.skip.length Bh) (.slice AP x.aP.length qT) (.slice AQ x.aR.length qU) (.slice AR x.aF.length qV) (.slice AS x.aG.length qY) (.slice AT x.lines.length qZ) (.slice AU x.aE.length ra):=by
 obtain⟨vs,rfl,hl,h1,hv⟩:=hr.pb;have hvl:vs.size=16:=hl;have aO:∀{j:Nat} {p:PV},j<16->[PV.sl (x.world.aa.aB.map br),.sl (x.world.aa.off.map aI),vi x.world.aa.change,.sl (x.world.ae.map aY),.sl (x.world.aq.map aC),.sl (x.world.ah.map aS),vi x.world.now,.sl (x.world.aJ.map bt),.sl (x.world.skip.map aI),vi x.world.aT,.sl (x.aP.map b6),.sl (x.aR.map b9),.sl (x.aF.map aI),.ms 0,.sl (x.lines.map bD),.ms 1][j]?=ZA p->∃x,vs[j]?=ZA x/\cN a E p x:=λ{j p} hj hp=>⟨vs[j]' YG,VU _,hv j p _ hp (VU _)⟩
 obtain⟨x0,y0,z0⟩:=aO (j:=0) YG rfl;obtain⟨x1,y1,z1⟩:=aO (j:=1) YG rfl;obtain⟨x2,y2,z2⟩:=aO (j:=2) YG rfl;obtain⟨x3,y3,z3⟩:=aO (j:=3) YG rfl;obtain⟨x4,y4,z4⟩:=aO (j:=4) YG rfl;obtain⟨x5,y5,z5⟩:=aO (j:=5) YG rfl;obtain⟨x6,y6,z6⟩:=aO (j:=6) YG rfl;obtain⟨x7,y7,z7⟩:=aO (j:=7) YG rfl;obtain⟨x8,y8,z8⟩:=aO (j:=8) YG rfl;obtain⟨x9,y9,z9⟩:=aO (j:=9) YG rfl;obtain⟨x10,eE,UJ⟩:=aO (j:=10) YG rfl;obtain⟨x11,oq,z11⟩:=aO (j:=11) YG rfl;obtain⟨x12,sj,z12⟩:=aO (j:=12) YG rfl;obtain⟨x13,re,z13⟩:=aO (j:=13) YG rfl;obtain⟨x14,px,z14⟩:=aO (j:=14) YG rfl;obtain⟨x15,tl,z15⟩:=aO (j:=15) YG rfl;have hvs:vs=#[x0,x1,x2,x3,x4,x5,x6,x7,x8,x9,x10,x11,x12,x13,x14,x15]:=by
  apply X9 (by simp[hvl])
  intro i hi h3;have e:=λ{j:Nat} {y:Value} (h:vs[j]?=ZA y)=>(VQ.1 h).2
  match i,hi with
  |0,_=>simpa using e y0
  |1,_=>simpa using e y1
  |2,_=>simpa using e y2
  |3,_=>simpa using e y3
  |4,_=>simpa using e y4
  |5,_=>simpa using e y5
  |6,_=>simpa using e y6
  |7,_=>simpa using e y7
  |8,_=>simpa using e y8
  |9,_=>simpa using e y9
  |10,_=>simpa using e eE
  |11,_=>simpa using e oq
  |12,_=>simpa using e sj
  |13,_=>simpa using e re
  |14,_=>simpa using e px
  |15,_=>simpa using e tl
  |i+16,hi=>omega
 obtain⟨rfl,_⟩:=z2.cF;obtain⟨rfl,_⟩:=z6.cF;obtain⟨rfl,_⟩:=z9.cF;obtain⟨BP,bP,rP,rfl⟩:=z13.ln hk (l:=0) rfl;obtain⟨BA,bA,rA,rfl⟩:=z15.ln hk (l:=1) rfl;have ex:∀{es:List (List PV)} {y:Value},cN a E (.sl es) y->cf a S (.sl es) y:=λh=>(Zao h).ext hS λ_ _ _=>rfl
 have hq:cr a S x x0 x1 x3 x4 x5 x7 x8 x10 x11 x12 BP.sv x14 BA.sv:=⟨⟨ex z0,ex z1,ex z3,ex z4,ex z5,ex z7,ex z8⟩,ex UJ,ex z11,ex z12,Hc bP rP Tj hS λhz=>hO _ _ bP hz,ex z14,Hc bA rA ZhO hS λhz=>hO _ _ bA hz⟩
 rw[hvs];clear hvs y0 y1 y2 y3 y4 y5 y6 y7 y8 y9 eE oq sj re px tl z0 z1 z3 z4 z5 z7 z8 UJ z11 z12 z13 z14 z15
 revert hq
 generalize BP.sv=x13;generalize BA.sv=x15;intro hq;obtain⟨X0,Bb,e0⟩:=bT hq.w_.r0;obtain⟨X1,Bc,e1⟩:=bT hq.w_.r1;obtain⟨X3,Bd,e3⟩:=bT hq.w_.r3;obtain⟨X4,Be,e4⟩:=bT hq.w_.r4;obtain⟨X5,Bf,e5⟩:=bT hq.w_.r5;obtain⟨X7,Bg,e7⟩:=bT hq.w_.r7;obtain⟨X8,Bh,e8⟩:=bT hq.w_.r8;obtain⟨AP,qT,e10⟩:=bT hq.r10;obtain⟨AQ,qU,e11⟩:=bT hq.r11;obtain⟨AR,qV,e12⟩:=bT hq.r12;obtain⟨AS,qY,e13⟩:=bT hq.r13;obtain⟨AT,qZ,e14⟩:=bT hq.r14;obtain⟨AU,ra,e15⟩:=bT hq.r15;rw[VX]at e0 e1 e3 e4 e5 e7 e8 e10 e11 e12 e13 e14 e15
 subst e0 e1 e3 e4 e5 e7 e8 e10 e11 e12 e13 e14 e15;exact⟨X0,Bb,X1,Bc,X3,Bd,X4,Be,X5,Bf,X7,Bg,X8,Bh,AP,qT,AQ,qU,AR,qV,AS,qY,AT,qZ,AU,ra,rfl,hq⟩
structure wM(a:World)(S:Nat->Prop)(x:ZI)(v0 v1 v3 v4 v5 v7 v8 v10 v11 v12 kB kC kD:Value):Prop where
 lt:∀q,S q->q<a.heap.size
 r:cr a S x v0 v1 v3 v4 v5 v7 v8 v10 v11 v12 kB kC kD
theorem cq.ZfD(h:cq P f args [] (.tu [Zmj x,.v z1]) (ZjF x)){w:World}{S:Nat->Prop}(hS:∀q,S q->q<w.heap.size){vs:Array Value}(hl:vs.size=args.length)(ha:∀(i:Nat) (p:PV),args[i]?=ZA p->∃x,vs[i]?=ZA x/\cN w (E1 S (λ_=>ZB) 0) p x):
 Calls P f vs w λe a=>∃(X0:Option Addr) (Bb:Nat) (X1:Option Addr) (Bc:Nat) (X3:Option Addr) (Bd:Nat) (X4:Option Addr) (Be:Nat) (X5:Option Addr) (Bf:Nat) (X7:Option Addr) (Bg:Nat) (X8:Option Addr) (Bh:Nat) (AP:Option Addr) (qT:Nat) (AQ:Option Addr) (qU:Nat) (AR:Option Addr) (qV:Nat) (AS:Option Addr) (qY:Nat) (AT:Option Addr) (qZ:Nat) (AU:Option Addr) (ra:Nat),e=.returned (.tuple #[.agg #[.slice X0 x.world.aa.aB.length Bb,.slice X1 x.world.aa.off.length Bc,ZF ZG x.world.aa.change,.slice X3 x.world.ae.length Bd,.slice X4 x.world.aq.length Be,.slice X5 x.world.ah.length Bf,ZF ZG x.world.now,.slice X7 x.world.aJ.length Bg,.slice X8 x.world.skip.length Bh,ZF ZG x.world.aT,.slice AP x.aP.length qT,.slice AQ x.aR.length qU,.slice AR x.aF.length qV,.slice AS x.aG.length qY,.slice AT x.lines.length qZ,.slice AU x.aE.length ra],z1])/\Up w a/\wM a (Zmd S w a) x (.slice X0 x.world.aa.aB.length Bb) (.slice X1 x.world.aa.off.length Bc) (.slice X3 x.world.ae.length Bd) (.slice X4 x.world.aq.length Be) (.slice X5 x.world.ah.length Bf) (.slice X7 x.world.aJ.length Bg) (.slice X8 x.world.skip.length Bh) (.slice AP x.aP.length qT) (.slice AQ x.aR.length qU) (.slice AR x.aF.length qV) (.slice AS x.aG.length qY) (.slice AT x.lines.length qZ) (.slice AU x.aE.length ra):=by
 refine(h S (λ_=>ZB) w vs (λ_ _=>False) (ZnH hS) hl ha).mono ?_
 rintro e a ⟨v,E,rfl,hk,_,Mw,_,hr⟩;obtain⟨u,rfl,hr1⟩:=NS hr;have hu:=wm hk;obtain⟨X0,Bb,X1,Bc,X3,Bd,X4,Be,X5,Bf,X7,Bg,X8,Bh,AP,qT,AQ,qU,AR,qV,AS,qY,AT,qZ,AU,ra,rfl,ho⟩:=Q9 (S:=Zmd S w a) hk (λb hb=>by
  rcases Mw b hb with h|h|h
  ·exact .inl h
  ·exact .inr ⟨h,hk.sz b hb⟩
  ·exact absurd h sr) (λl B hB hz=>by
  rcases(hk.own l B hB hz).1 with h|h
  ·exact absurd h sr
  ·exact .inr ⟨h,(hk.own l B hB hz).2.1⟩) hr1
 refine⟨X0,Bb,X1,Bc,X3,Bd,X4,Be,X5,Bf,X7,Bg,X8,Bh,AP,qT,AQ,qU,AR,qV,AS,qY,AT,qZ,AU,ra,rfl,hu,?_,ho⟩;rintro b (hb|hb)
 ·exact V4 (hS b hb) hu.size
 ·exact hb.2
end
section
variable {a b:World} {S:Nat->Prop} {x:ZI} {v0 v1 v3 v4 v5 v7 v8 v10 v11 v12 kB kC kD:Value}
theorem wM.up(h:wM a S x v0 v1 v3 v4 v5 v7 v8 v10 v11 v12 kB kC kD)(hu:Up a b):wM b S x v0 v1 v3 v4 v5 v7 v8 v10 v11 v12 kB kC kD:=
 ⟨λq hq=>V4 (h.lt q hq) hu.size,h.r.ext (λ_ hq=>hq) λq hq=>hu.block q (h.lt q hq)⟩
theorem wM.all(h:wM a S x v0 v1 v3 v4 v5 v7 v8 v10 v11 v12 kB kC kD):cr a (dV a) x v0 v1 v3 v4 v5 v7 v8 v10 v11 v12 kB kC kD:=h.r.ext h.lt λ_ _=>rfl
end
def AV(b:Nat)(w:World):Prop:=b<w.heap.size/\w.heap[b]?=ZA (.cells #[.slice ZB 0 0,.slice ZB 0 0,ZF ZG 0,.slice ZB 0 0,.slice ZB 0 0,.slice ZB 0 0,ZF ZG 0,.slice ZB 0 0,.slice ZB 0 0,ZF ZG 0,.slice ZB 0 0,.slice ZB 0 0,.slice ZB 0 0,.slice ZB 0 0,.slice ZB 0 0,.slice ZB 0 0] 40 (0,0))
theorem AV.new{V a:World}(h:Up (World.alloc V (.cells #[.slice ZB 0 0,.slice ZB 0 0,ZF ZG 0,.slice ZB 0 0,.slice ZB 0 0,.slice ZB 0 0,ZF ZG 0,.slice ZB 0 0,.slice ZB 0 0,ZF ZG 0,.slice ZB 0 0,.slice ZB 0 0,.slice ZB 0 0,.slice ZB 0 0,.slice ZB 0 0,.slice ZB 0 0] 40)) a):AV V.heap.size a:=
 ⟨V4 YJ h.size,(h.block _ YJ).trans (heap_alloc_new V _)⟩
theorem AV.Zcg{V a:World}(h:Up (World.alloc V (.cells #[.slice ZB 0 0,.slice ZB 0 0,ZF ZG 0,.slice ZB 0 0,.slice ZB 0 0,.slice ZB 0 0,ZF ZG 0,.slice ZB 0 0,.slice ZB 0 0,ZF ZG 0,.slice ZB 0 0,.slice ZB 0 0,.slice ZB 0 0,.slice ZB 0 0,.slice ZB 0 0,.slice ZB 0 0] 40)).drew a):AV V.heap.size a:=AV.new (Up.step h YH)
theorem AV.up{b:Nat}{w a:World}(h:AV b w)(hu:Up w a):AV b a:=⟨V4 h.1 hu.size,(hu.block b h.1).trans h.2⟩
theorem AV.lt{b:Nat}{w:World}(h:AV b w):b<w.heap.size:=h.1
theorem AV.vD{b:Nat}{w:World}(h:AV b w)(j:Nat):w.frozen? ⟨b,j,ZB⟩=false:=by simp[World.frozen?,h.2]
theorem AV.cells{b:Nat}{w:World}(h:AV b w):w.cell? ⟨b,0,ZB⟩=ZA (.slice ZB 0 0)/\w.cell? ⟨b,1,ZB⟩=ZA (.slice ZB 0 0)/\w.cell? ⟨b,2,ZB⟩=ZA (ZF ZG 0)/\w.cell? ⟨b,3,ZB⟩=ZA (.slice ZB 0 0)/\w.cell? ⟨b,4,ZB⟩=ZA (.slice ZB 0 0)/\w.cell? ⟨b,5,ZB⟩=ZA (.slice ZB 0 0)/\w.cell? ⟨b,6,ZB⟩=ZA (ZF ZG 0)/\w.cell? ⟨b,7,ZB⟩=ZA (.slice ZB 0 0)/\w.cell? ⟨b,8,ZB⟩=ZA (.slice ZB 0 0)/\w.cell? ⟨b,9,ZB⟩=ZA (ZF ZG 0)/\w.cell? ⟨b,10,ZB⟩=ZA (.slice ZB 0 0)/\w.cell? ⟨b,11,ZB⟩=ZA (.slice ZB 0 0)/\w.cell? ⟨b,12,ZB⟩=ZA (.slice ZB 0 0)/\w.cell? ⟨b,13,ZB⟩=ZA (.slice ZB 0 0)/\w.cell? ⟨b,14,ZB⟩=ZA (.slice ZB 0 0)/\w.cell? ⟨b,15,ZB⟩=ZA (.slice ZB 0 0):=by
 refine⟨?_,?_,?_,?_,?_,?_,?_,?_,?_,?_,?_,?_,?_,?_,?_,?_⟩<;>(rw[cell_of_row _ _ _ _ _ _ h.2];rfl)
structure nM(w:World)(b:Nat)(v0 v1 v2 v3 v4 v5 v6 v7 v8 v9 v10 v11 v12 kB kC kD:Value):Prop where
 lt:b<w.heap.size
 c0:w.cell? ⟨b,0,ZB⟩=ZA v0
 c1:w.cell? ⟨b,1,ZB⟩=ZA v1
 c2:w.cell? ⟨b,2,ZB⟩=ZA v2
 c3:w.cell? ⟨b,3,ZB⟩=ZA v3
 c4:w.cell? ⟨b,4,ZB⟩=ZA v4
 c5:w.cell? ⟨b,5,ZB⟩=ZA v5
 c6:w.cell? ⟨b,6,ZB⟩=ZA v6
 c7:w.cell? ⟨b,7,ZB⟩=ZA v7
 c8:w.cell? ⟨b,8,ZB⟩=ZA v8
 c9:w.cell? ⟨b,9,ZB⟩=ZA v9
 OK:w.cell? ⟨b,10,ZB⟩=ZA v10
 OL:w.cell? ⟨b,11,ZB⟩=ZA v11
 OM:w.cell? ⟨b,12,ZB⟩=ZA v12
 c13:w.cell? ⟨b,13,ZB⟩=ZA kB
 c14:w.cell? ⟨b,14,ZB⟩=ZA kC
 c15:w.cell? ⟨b,15,ZB⟩=ZA kD
section
variable {w a b c w0:World} {q:Nat} {T:TypeId} {v0 v1 v2 v3 v4 v5 v6 v7 v8 v9 v10 v11 v12 kB kC kD:Value} {x:ZI} {o:ve} {S:Nat->Prop}
theorem nM.row(hq:q<w.heap.size)(h:w.heap[q]?=ZA (.cells #[v0,v1,v2,v3,v4,v5,v6,v7,v8,v9,v10,v11,v12,kB,kC,kD] T (0,0))):nM w q v0 v1 v2 v3 v4 v5 v6 v7 v8 v9 v10 v11 v12 kB kC kD:=by
 refine⟨hq,?_,?_,?_,?_,?_,?_,?_,?_,?_,?_,?_,?_,?_,?_,?_,?_⟩<;>(rw[cell_of_row _ _ _ _ _ _ h];rfl)
theorem nM.up(h:nM w q v0 v1 v2 v3 v4 v5 v6 v7 v8 v9 v10 v11 v12 kB kC kD)(hu:Up w a):nM a q v0 v1 v2 v3 v4 v5 v6 v7 v8 v9 v10 v11 v12 kB kC kD:=
 ⟨V4 h.lt hu.size,gK hu h.c0,gK hu h.c1,gK hu h.c2,gK hu h.c3,gK hu h.c4,gK hu h.c5,gK hu h.c6,gK hu h.c7,gK hu h.c8,gK hu h.c9,gK hu h.OK,gK hu h.OL,gK hu h.OM,gK hu h.c13,gK hu h.c14,gK hu h.c15⟩
theorem nM.zZ{O:Nat->Prop}(h:nM w q v0 v1 v2 v3 v4 v5 v6 v7 v8 v9 v10 v11 v12 kB kC kD)(hu:mA O w a)(hO:¬O q):nM a q v0 v1 v2 v3 v4 v5 v6 v7 v8 v9 v10 v11 v12 kB kC kD:=
 ⟨V4 h.lt hu.size,bC hu h.c0 hO,bC hu h.c1 hO,bC hu h.c2 hO,bC hu h.c3 hO,bC hu h.c4 hO,bC hu h.c5 hO,bC hu h.c6 hO,bC hu h.c7 hO,bC hu h.c8 hO,bC hu h.c9 hO,bC hu h.OK hO,bC hu h.OL hO,bC hu h.OM hO,bC hu h.c13 hO,bC hu h.c14 hO,bC hu h.c15 hO⟩
theorem nM.range(h:nM w q v0 v1 v2 v3 v4 v5 v6 v7 v8 v9 v10 v11 v12 kB kC kD):w.rangeAt q 0 [v0,v1,v2,v3,v4,v5,v6,v7,v8,v9,v10,v11,v12,kB,kC,kD]:=by
 intro j v hj;rw[VY]
 match j,hj with
 |0,hj=>obtain rfl:=VG hj;exact h.c0
 |1,hj=>obtain rfl:=VG hj;exact h.c1
 |2,hj=>obtain rfl:=VG hj;exact h.c2
 |3,hj=>obtain rfl:=VG hj;exact h.c3
 |4,hj=>obtain rfl:=VG hj;exact h.c4
 |5,hj=>obtain rfl:=VG hj;exact h.c5
 |6,hj=>obtain rfl:=VG hj;exact h.c6
 |7,hj=>obtain rfl:=VG hj;exact h.c7
 |8,hj=>obtain rfl:=VG hj;exact h.c8
 |9,hj=>obtain rfl:=VG hj;exact h.c9
 |10,hj=>obtain rfl:=VG hj;exact h.OK
 |11,hj=>obtain rfl:=VG hj;exact h.OL
 |12,hj=>obtain rfl:=VG hj;exact h.OM
 |13,hj=>obtain rfl:=VG hj;exact h.c13
 |14,hj=>obtain rfl:=VG hj;exact h.c14
 |15,hj=>obtain rfl:=VG hj;exact h.c15
 |n+16,hj=>simp at hj
theorem nM.load(h:nM w q v0 v1 v2 v3 v4 v5 v6 v7 v8 v9 v10 v11 v12 kB kC kD):(loadCellsFrom ⟨q,0,ZB⟩ 0 16 #[]).run prog w=.ok #[v0,v1,v2,v3,v4,v5,v6,v7,v8,v9,v10,v11,v12,kB,kC,kD] w:=by
 have:=run_loadCells_list (P:=prog) w ⟨q,0,ZB⟩ [v0,v1,v2,v3,v4,v5,v6,v7,v8,v9,v10,v11,v12,kB,kC,kD] (λj v hv=>by rw[Addr.add_mid];exact h.range j v hv)
 exact this
theorem Wr.six(h:AV q w)(v0 v1 v2 v3 v4 v5 v6 v7 v8 v9 v10 v11 v12 kB kC kD:Value):Wr q 40 w ((((((((((((((((w.setCell ⟨q,0,ZB⟩ v0).setCell ⟨q,1,ZB⟩ v1).setCell ⟨q,2,ZB⟩ v2).setCell ⟨q,3,ZB⟩ v3).setCell ⟨q,4,ZB⟩ v4).setCell ⟨q,5,ZB⟩ v5).setCell ⟨q,6,ZB⟩ v6).setCell ⟨q,7,ZB⟩ v7).setCell ⟨q,8,ZB⟩ v8).setCell ⟨q,9,ZB⟩ v9).setCell ⟨q,10,ZB⟩ v10).setCell ⟨q,11,ZB⟩ v11).setCell ⟨q,12,ZB⟩ v12).setCell ⟨q,13,ZB⟩ kB).setCell ⟨q,14,ZB⟩ kC).setCell ⟨q,15,ZB⟩ kD) #[v0,v1,v2,v3,v4,v5,v6,v7,v8,v9,v10,v11,v12,kB,kC,kD]:=by
 have k:=(((((((((((((((((Wr.start h.2).set 0 v0).set 1 v1).set 2 v2).set 3 v3).set 4 v4).set 5 v5).set 6 v6).set 7 v7).set 8 v8).set 9 v9).set 10 v10).set 11 v11).set 12 v12).set 13 kB).set 14 kC).set 15 kD)
 simpa only[List.setIfInBounds_toArray,List.set_cons_zero,List.set_cons_succ]using k
theorem Zhn(kw:Wr q T a b #[v0,v1,v2,v3,v4,v5,v6,v7,v8,v9,v10,v11,v12,kB,kC,kD])(hq:q<a.heap.size)(hs:wM a S x v0 v1 v3 v4 v5 v7 v8 v10 v11 v12 kB kC kD)(hS:∀i,S i->i≠q):nM b q v0 v1 v2 v3 v4 v5 v6 v7 v8 v9 v10 v11 v12 kB kC kD/\cr b (dV b) x v0 v1 v3 v4 v5 v7 v8 v10 v11 v12 kB kC kD:=
 ⟨nM.row (by rw[kw.size];exact hq) kw.row,hs.r.ext (λi hi=>by show i<b.heap.size;rw[kw.size];exact hs.lt i hi) λi hi=>kw.tq i (hS i hi)⟩
theorem Zhm(T:TypeId)(hs:wM a S x v0 v1 v3 v4 v5 v7 v8 v10 v11 v12 kB kC kD)(v2 v6 v9:Value):nM (World.alloc a (.cells #[v0,v1,v2,v3,v4,v5,v6,v7,v8,v9,v10,v11,v12,kB,kC,kD] T)) a.heap.size v0 v1 v2 v3 v4 v5 v6 v7 v8 v9 v10 v11 v12 kB kC kD/\cr (World.alloc a (.cells #[v0,v1,v2,v3,v4,v5,v6,v7,v8,v9,v10,v11,v12,kB,kC,kD] T)) (dV (World.alloc a (.cells #[v0,v1,v2,v3,v4,v5,v6,v7,v8,v9,v10,v11,v12,kB,kC,kD] T))) x v0 v1 v3 v4 v5 v7 v8 v10 v11 v12 kB kC kD:=
 ⟨nM.row YJ (heap_alloc_new a _),(hs.up (Up.al _ (Up.rfl' _))).all⟩
theorem Zhp(kw:Wr q T a b #[v0,v1,v2,v3,v4,v5,v6,v7,v8,v9,v10,v11,v12,kB,kC,kD])(hq:q<a.heap.size)(h:jh w a x o v0 v1 v3 v4 v5 v7 v8 v10 v11 v12 kB kC kD)(hl:w0.heap.size<=w.heap.size)(hn:¬o.D x q):
 nM b q v0 v1 v2 v3 v4 v5 v6 v7 v8 v9 v10 v11 v12 kB kC kD/\jh w0 b x o v0 v1 v3 v4 v5 v7 v8 v10 v11 v12 kB kC kD/\¬o.D x q:=
 ⟨nM.row (by rw[kw.size];exact hq) kw.row,(h.zZ kw.zZ λi hi he=>hn (by rw[<-he];exact hi)).base hl,hn⟩
theorem Zho(T:TypeId)(h:jh w a x o v0 v1 v3 v4 v5 v7 v8 v10 v11 v12 kB kC kD)(hl:w0.heap.size<=w.heap.size)(v2 v6 v9:Value):
 nM (World.alloc a (.cells #[v0,v1,v2,v3,v4,v5,v6,v7,v8,v9,v10,v11,v12,kB,kC,kD] T)) a.heap.size v0 v1 v2 v3 v4 v5 v6 v7 v8 v9 v10 v11 v12 kB kC kD/\jh w0 (World.alloc a (.cells #[v0,v1,v2,v3,v4,v5,v6,v7,v8,v9,v10,v11,v12,kB,kC,kD] T)) x o v0 v1 v3 v4 v5 v7 v8 v10 v11 v12 kB kC kD/\¬o.D x a.heap.size:=
 ⟨nM.row YJ (heap_alloc_new a _),(h.up (Up.al _ (Up.rfl' _))).base hl,h.top⟩
end
end Go.Proofs.YtbalgkakkoocjaaGreat
namespace Go.Proofs.YtbalgkakkoocjaaGreat
set_option maxRecDepth 10000
open Go.RowKit Go.Sort
variable {l:List Int}{n:Nat}{ο σ:Type}{body:σ->Option (σ⊕ο)}{o:ο}{s:σ}
theorem JX(l:List Int):jC l=jw l:=by
 rfl
def E0(l:List Int):Bool:=l.all (λn=>ZE (1<=n)&&ZE (n<=2000))&&ZE ((l.length:Int)=3)
theorem N7(h:l.length<NN):jw l=ZA (E0 l):=by
 have e:aD (mh l) NN 0=ZA (if l.any (λn=>!(ZE (1<=n)&&ZE (n<=2000)))=ZC then .inr ZD else .inl ()):=by
  refine xJ (λi hi=>?_) ?_ h
  ·have hx:l[i]?=ZA l[i]:=VF hi
   have hw:=bI hi (by unfold NN at h;omega)
   unfold mh;rw[Yp (by omega:(i:Int)<l.length),YC,aQ,hx,VE,dG,VE,hw]
   grind
  ·unfold mh
   simp
 unfold jw E0
 grind
theorem Lg{σ ο:Type}{body:σ->Option (σ⊕ο)}{o:ο}:∀{n:Nat} {s:σ},aD body n s=ZA o->∀k,aD body (n+k) s=ZA o
 |0,s,h,k=>by cases h
 |n+1,s,h,k=>by
  rw[Nat.add_right_comm];unfold aD at *
  cases hb:body s with
  |none=>simp_all
  |some x=>
   rw[hb]at h
   cases x with
   |inl s'=>exact Lg (n:=n) h k
   |inr o'=>exact h
theorem GY(h:aD body n s=ZA o)(hn:n<=NN):aD body NN s=ZA o:=by
 have:=Lg h (NN-n)
 simp_all
theorem Km{s s':σ}(h:body s=ZA (.inl s')):aD body (n+1) s=aD body n s':=by
 show(body s).bind _=_
 simp_all
theorem itr(h:body s=ZA (.inr o)):aD body (n+1) s=ZA o:=by
 show(body s).bind _=_
 simp_all
theorem w1:aH 1=1:=by decide
theorem w2:aH 2=2:=by decide
theorem w3:aH 3=3:=by decide
theorem ZpL(l:List Int)(i:Int):aD (cK l (i,[])) NN 0=ZA ((0:Nat):Int):=GY (n:=1) (itr Zj) YI
theorem ZpM{i y a:Int}(h:aA l i=ZA y):aD (cK l (i,[a])) NN 0=ZA (((if y<=a then 1 else 0:Nat)):Int):=by
 refine GY (n:=2) ?_ YI;have q0:aA [a] 0=ZA a:=rfl
 by_cases h1:y<=a
 ·rw[if_pos h1,Km (s':=1) (by simp[cK,h,q0,h1,w1]),itr (o:=1) Zj];rfl
 ·rw[if_neg h1,itr (o:=0) (by simp[cK,h,q0,h1])];rfl
theorem ZpN{i y a b:Int}(h:aA l i=ZA y):aD (cK l (i,[a,b])) NN 0=ZA (((if y<=a then(if y<=b then 2 else 1)else 0:Nat)):Int):=by
 refine GY (n:=3) ?_ YI;have q0:aA [a,b] 0=ZA a:=rfl;have q1:aA [a,b] 1=ZA b:=rfl
 by_cases h1:y<=a
 ·rw[if_pos h1,Km (s':=1) (by simp[cK,h,q0,h1,w1])]
  by_cases h2:y<=b
  ·rw[if_pos h2,Km (s':=2) (by simp[cK,h,q1,h2,w2]),itr (o:=2) Zj];rfl
  ·rw[if_neg h2,itr (o:=1) (by simp[cK,h,q1,h2])];rfl
 ·rw[if_neg h1,itr (o:=0) (by simp[cK,h,q0,h1])];rfl
theorem Zfb(h:l.length<=1048576):dN l=ZA l:=by
 have c:dg (bB (([]:List Int).length+l.length) 8)=ZA ():=pD (Yp ⟨by grind,by grind⟩)
 unfold dN
 simp_all
theorem Zlh{l out:List Int}{i y:Int}{k:Nat}(hi:i<(l.length:Int))(hy:aA l i=ZA y)(hk:aD (cK l (i,out)) NN 0=ZA (k:Int))(hkl:k<=out.length)(hl:out.length<=1000):
 iq l (i,out)=ZA (.inl (aH (i+1),out.take k++[y]++out.drop k)):=by
 unfold iq;have t1:cZ out 0 (k:Int)=out.take k:=by rfl
 have t2:cZ out (k:Int) (out.length:Int)=out.drop k:=by simp only[cZ,Int.toNat_natCast];exact List.take_of_length_le YJ
 have c1:dg (iC 0 (k:Int) (out.length:Int))=ZA ():=pD (Yp ⟨YG,YG,YG⟩);have c2:dg (iC (k:Int) (out.length:Int) (out.length:Int))=ZA ():=pD (Yp ⟨YG,YG,YG⟩);have c3:dg (bB ((out.take k).length+([y]:List Int).length) 8)=ZA ():=pD (Yp ⟨by grind,by grind⟩)
 have c4:dg (bB ((out.take k++[y]).length+(out.drop k).length) 8)=ZA ():=pD (Yp ⟨by grind,by grind⟩)
 simp only[Yp hi,YC,hk,VE,c1,t1,Zfb (l:=out.take k) YN,hy,c3,c2,t2,c4]
theorem Zgq(x y z:Int):nB [x,y,z]=ZA (GC [x,y,z]):=by
 have g0:aA [x,y,z] 0=ZA x:=rfl;have g1:aA [x,y,z] 1=ZA y:=rfl;have g2:aA [x,y,z] 2=ZA z:=rfl;have e:aD (iq [x,y,z]) NN (0,[])=ZA (GC [x,y,z]):=by
  refine GY (n:=4) ?_ YI;have e0:=Zlh (l:=[x,y,z]) YJ g0 (ZpL _ _) (VJ _) YJ;have hE:∀o:List Int,iq [x,y,z] (3,o)=ZA (.inr o):=λo=>by rfl
  simp only[List.take_nil,List.drop_nil,List.nil_append,List.append_nil,show aH ((0:Int)+1)=1 by rfl]at e0
  have e1:=Zlh (l:=[x,y,z]) (out:=[x]) YJ g1 (ZpM g1) YN YJ;simp only[show aH ((1:Int)+1)=2 by rfl]at e1
  have e2:=λa b=>Zlh (l:=[x,y,z]) (out:=[a,b]) YJ g2 (ZpN g2) YN YJ
  simp only[show aH ((2:Int)+1)=3 by rfl]at e2
  have hs:GC [x,y,z]=(Sort.insertionSort Fo #[x,y,z] 0 3).toList:=rfl;rw[hs];unfold Sort.insertionSort;rw[insOuter,if_pos YG,insOuter,if_pos YG,insOuter,if_neg YG]
  by_cases h1:y<=x
  ·have Mv:¬x<y:=YG
   rw[if_pos h1]at e1
   have CM:=e2 x y
   by_cases h2:z<=x
   ·by_cases h3:z<=y
    ·rw[if_pos h2,if_pos h3]at CM
     simp at e1 CM
     rw[Km e0,Km e1,Km CM,itr (hE _)];simp[insInner,swp,Fo,Mv,show ¬y<z by omega]
    ·rw[if_pos h2,if_neg h3]at CM
     simp at e1 CM
     rw[Km e0,Km e1,Km CM,itr (hE _)];simp[insInner,swp,Fo,Mv,show y<z by omega,show ¬x<z by omega]
   ·rw[if_neg h2]at CM
    simp at e1 CM
    rw[Km e0,Km e1,Km CM,itr (hE _)];simp[insInner,swp,Fo,Mv,show y<z by omega,show x<z by omega]
  ·have Mv:x<y:=YG
   rw[if_neg h1]at e1
   have CM:=e2 y x
   by_cases h2:z<=y
   ·by_cases h3:z<=x
    ·rw[if_pos h2,if_pos h3]at CM
     simp at e1 CM
     rw[Km e0,Km e1,Km CM,itr (hE _)];simp[insInner,swp,Fo,Mv,show ¬x<z by omega]
    ·rw[if_pos h2,if_neg h3]at CM
     simp at e1 CM
     rw[Km e0,Km e1,Km CM,itr (hE _)];simp[insInner,swp,Fo,Mv,show x<z by omega,show ¬y<z by omega]
   ·rw[if_neg h2]at CM
    simp at e1 CM
    rw[Km e0,Km e1,Km CM,itr (hE _)];simp[insInner,swp,Fo,Mv,show y<z by omega,show x<z by omega]
 unfold nB
 simp_all
theorem LY(h:E0 l=ZC):l.length=3:=by
 unfold E0 at h
 grind
theorem Zeu(h:l.length<NN):pK l=nt l/\∃b,nt l=ZA b:=by
 unfold pK nt;rw[JX,N7 h]
 cases ht:E0 l with
 |false=>simp
 |true=>
  have h3:=LY ht
  match l,h3 with
  | [x,y,z],_=>
   have hm:mV [x,y,z]=ZA (GC [x,y,z]):=if_pos rfl;have hl:=Rr [x,y,z]
   match hs:GC [x,y,z],hl with
   | [a,b,c],_=>
    simp only[Zgq,hm,hs,VE,VK,YD];exact⟨trivial,_,rfl⟩
theorem Zfc{l:fF}(h:l.aX.size<=AN):pL l=nv l/\∃b,nv l=ZA b:=by
 obtain⟨e,b,hb⟩:=pI h;unfold pL nv;rw[iu,e,hb,dG,dG]
 grind
theorem AG{p:aM}(h1:p.label.aX.size<=AN)(h2:p.ar.size<=AN)(h3:p.bb.length<NN):jH p=iA p/\∃b,iA p=ZA b:=by
 obtain⟨e1,b1,uQ⟩:=Zfc h1;obtain⟨e2,b2,xj⟩:=pI h2;obtain⟨e3,b3,Oe⟩:=Zeu h3;unfold jH iA;rw[iu,e1,e2,e3,JX,uQ,xj,Oe,N7 h3,dG,dG]
 grind
theorem Zlz{a b:List Int}(h:a.length<NN):mW a b=ZA (ZE (a=b)):=by
 unfold mW
 by_cases hl:a.length=b.length
 ·have e:aD (jN a b) NN 0=ZA (if(Wq a.length).all (λi=>ZE (a[i]?=b[i]?))=ZC then .inl ()else .inr ZD):=by
   refine pJ (λi hi _=>?_) (λ_=>?_) h
   ·have hx:a[i]?=ZA a[i]:=VF hi
    have hy:b[i]?=ZA b[i]:=VF YG;have hw:=bI hi (by unfold NN at h;omega)
    unfold jN;rw[Yp (by omega:(i:Int)<a.length),YC,aQ,aQ,hx,hy,VE,VE,hw]
    grind
   ·unfold jN
    simp
  rw[Yp (by omega:(a.length:Int)=b.length),e]
  by_cases IJ:a=b
  ·simp_all
  ·rw[if_neg,Yz IJ]
   ·rfl
   ·intro CW
    refine IJ (List.ext_getElem? λi=>?_)
    grind
 ·rw[Yz (by omega:¬((a.length:Int)=b.length)),Yz (λe=>hl (by rw[e]))]
  rfl
theorem nH{ο α:Type}(i j:Nat)(J:Option (ο⊕α))(T:ο->List PV)(M:ο->Mem):jn i j J T M=J:=by unfold jn;rfl
theorem Zj4(b c:Bool):(bif b then ZA c else ZA ZD)=ZA (b&&c):=by grind
theorem ZoK(b c:Bool):(bif !b then ZA ZD else ZA c)=ZA (b&&c):=by grind
theorem Zdx{α β:Type}(b:Bool)(X Y:Option α)(S:α->Option β):(bif b then X else Y).bind S=bif b then X.bind S else Y.bind S:=by grind
theorem KB{a b:aM}(h:a.bb.length<NN):kO a b=ZA (ZE (a.label=b.label)&&(ZE (a.ar=b.ar)&&(ZE (a.ab=b.ab)&&(ZE (a.bb=b.bb)&&ZE (a.value=b.value))))):=by
 unfold kO;simp only[Zlz h,VE,Zj4]
theorem Ut{a b:ZJ}(h:a.av.bb.length<NN):oE a b=ZA (ZE (a.kind=b.kind)&&((ZE (a.av.label=b.av.label)&&(ZE (a.av.ar=b.av.ar)&&(ZE (a.av.ab=b.av.ab)&&(ZE (a.av.bb=b.av.bb)&&ZE (a.av.value=b.av.value)))))&&(ZE (a.order=b.order)&&(ZE (a.bh=b.bh)&&(ZE (a.bn=b.bn)&&ZE (a.aV=b.aV)))))):=by
 unfold oE;simp only[KB h,VE,Zj4]
theorem Mb{a:ZJ}(h1:a.av.label.aX.size<=AN)(h2:a.av.ar.size<=AN)(h3:a.av.bb.length<NN):∃b,gM a=ZA b/\nW a=ZA b:=by
 obtain⟨e1,b1,uQ⟩:=AG h1 h2 h3;have hz:ZE (0<(a.av.bb.length:Int))=!decide (a.av.bb=[]):=by
  cases a.av.bb<;>simp
 unfold gM nW;simp only[nH,iu,e1,uQ,dG,Ut h3,hz,VE];generalize Ey:ZE (a.av.label=⟨0,0,⟨#[]⟩⟩)=q1;generalize vl:ZE (a.av.ar=⟨#[]⟩)=q2;generalize hq3:ZE (a.av.ab=0)=q3;generalize hq4:ZE (a.av.bb=[])=q4;generalize hq5:ZE (a.av.value=0)=q5;generalize hq6:ZE (a.order=0)=q6;generalize hq7:ZE (a.bh=0)=q7;generalize hq8:ZE (a.bn=0)=q8;generalize hq9:ZE (a.aV=⟨0,0⟩)=q9;have kk:a.kind=1\/a.kind=2\/a.kind=3\/a.kind=4\/a.kind=5\/a.kind=6\/(a.kind≠1/\a.kind≠2/\a.kind≠3/\a.kind≠4/\a.kind≠5/\a.kind≠6):=YG
 rcases kk with k|k|k|k|k|k|⟨n1,n2,n3,n4,n5,n6⟩
 all_goals try(simp only[n1,n2,n3,n4,n5,n6,Yg,decide_true,decide_false,VK,Wl,YC,YD,VE,bm,Zdx])
 all_goals try simp only[k,Yg,decide_true,decide_false,VK,Wl,YC,YD,VE,bm,Zdx]
 case inr.inr.inr.inr.inr.inr=>
  have hf:(ZE (1<=a.kind)&&ZE (a.kind<=6))=false:=by
   grind
  grind
 all_goals
  simp only[Ey,vl,hq3,hq4,hq5,hq6,hq7,hq8,hq9,Zj4,ZoK,WN,Bool.and_true,Int.reduceLE,decide_true];exact⟨_,rfl,by congr 1;try ac_rfl⟩
end Go.Proofs.YtbalgkakkoocjaaGreat
namespace Go.Proofs.YtbalgkakkoocjaaGreat
set_option maxRecDepth 10000
open Go.RowKit
variable {a b:Option Bool}{aP k u:Int}{aR:List bH}{c:Prop}{i:Nat}{l:List bF}{n:ak}{p:aM}{s:ByteArray}{t:aw}
def gZ(aR:List bH)(p:aM)(y4:Int)(s0:Int):Option (Int⊕(Unit⊕(Int×Bool))):=
 cond (ZE (s0<(aR.length:Int)))
 ((jn 7 6 (
 (aA aR s0).bind λy5=>
 cond (ZE (y5.nD=y4))
 ((aA aR s0).bind λy6=>
 cond (ZE (y6.ax=p.label.ax))
 ((fI p).bind λy7=>
 (aA aR s0).bind λy8=>
 cond (ZE (y7<=y8.lT))
 ((aA aR s0).bind λy9=>
 ZA (.inr (y9.nK,ZC)))
 (ZA (.inl ())))
 (ZA (.inl ())))
 (ZA (.inl ())):Option (Unit⊕(Int×Bool))) (λUJ=>(.un::.sl (aR.map b9)::(U 3 (.be 0 0 0::.un::.un::vi y4::vi s0::(U 59 []))))) (λUJ=>[ZA ⟨.of 44,7,[[vi p.label.ax,vi p.label.bZ,vs p.label.aX,vs p.ar,vi p.ab,.sl (p.bb.map aI),vi p.value]]⟩])).bind (bm (λUJ=>
 ZA (.inl (aH (s0+1)))) (λr=>ZA (.inr (.inr r)))))
 (ZA (.inr (.inl ())))
instance (aR:List bH)(p:aM)(y4:Int):bj (gZ aR p y4):=⟨λs0=>(.un::.sl (aR.map b9)::(U 3 (.be 0 0 0::.un::.un::vi y4::vi s0::(U 59 [])))),λs0=>[ZA ⟨.of 44,7,[[vi p.label.ax,vi p.label.bZ,vs p.label.aX,vs p.ar,vi p.ab,.sl (p.bb.map aI),vi p.value]]⟩]⟩
def gY(aP:List bF)(aR:List bH)(p:aM):Option (Int×Bool):=
 (jI aP).bind λy1=>
 cond (!y1)
 (ZA (0,ZD))
 ((lN aR (aP.length:Int)).bind λy2=>
 cond (!y2)
 (ZA (0,ZD))
 ((iA p).bind λy3=>
 cond (!y3)
 (ZA (0,ZD))
 ((pa aP p.label.aX).bind λy4=>
 (aD (gZ aR p y4) NN 0).bind (bm (λo0=>
 ZA (0,ZD)) (λr=>ZA r)))))
instance (aP:List bF)(aR:List bH)(p:aM):CT prog (gY aP aR p):=⟨229,[.sl (aP.map b6),.sl (aR.map b9),.ag (bq p)],[],λr=>.tu [vi r.1,vb r.2],λr=>[],cw (gY.eq_1 ..) func229 ntmps229 results229⟩
def plB(s:ByteArray):Bool:=(cQ s).getD ZD
theorem Zai(h:s.size<=AN):cQ s=ZA (plB s):=by
 obtain⟨_,b,hb⟩:=pI h;unfold plB;simp_all
theorem ZfL(h:s.size<=AN):dH s=ZA (plB s):=(pI h).1.trans (Zai h)
theorem ZiY(a b:ByteArray):Us a b=!uu b a:=by
 have h1:Us a b=(uu a b ||(a.toList==b.toList)):=rfl;rw[h1,baB]
 by_cases e:a=b
 ·subst e
  have:=Zas a
  simp_all
 ·rw[Yz e,Bool.or_false]
  cases h:uu a b with
  |true=>
   have:=Zgi a b h
   simp_all
  |false=>
   have:=Zat (a:=a) (b:=b) YN e
   simp_all
def ZjO(o:Option bF)(z:bF):Bool:=match o with
 |some y=>uu y.last z.first
 |none=>ZD
theorem ZaR(y z:bF):ZjO (ZA y) z=uu y.last z.first:=rfl
def RZ(l:List bF)(i:Nat)(z:bF):Bool:=
 plB z.first&&(plB z.last&&(Us z.first z.last&&(ZE (i=0) ||ZjO l[i-1]? z)))
def wF(l:List bF):Bool:=allI (RZ l) 0 l&&ZE ((l.length:Int)<=8)
def yb(l:List bF):Prop:=l.length<=1048576/\∀z∈l,z.first.size<=AN/\z.last.size<=AN
theorem DX{i n:Nat}(h0:0<i)(hi:i<n)(hn:n<=1048576):aH ((i:Int)-1)=((i-1:Nat):Int):=by
 rw[aL YG];omega
theorem Oc(hf:yb l):jI l=ZA (wF l):=by
 have e:aD (kY l) NN 0=ZA (if allI (RZ l) 0 l=ZC then .inl ()else .inr ZD):=by
  refine fy (A:=Unit) (λ_ i=>i) _ (λa _=>a) (λ_=>()) (λa i z hz=>?_) (λa=>?_) (by have:=hf.1;unfold NN;omega) ()
  ·have bO:=(VH.1 hz).1
   have hl:=hf.1;obtain⟨p1,p2⟩:=hf.2 z (VI hz);have hg:aA l (i:Int)=ZA z:=by rw[aQ];omega
   have hi:aH ((i:Int)+1)=((i+1:Nat):Int):=bI bO YG;unfold kY;simp only[nH,Yp (show(i:Int)<l.length by omega),YC,hg,VE,hi,Zai p1,Zai p2]
   unfold RZ
   by_cases h0:i=0
   ·grind
   ·have hp:=DX (Xy h0) bO hl
    obtain⟨y,hy⟩:∃y,l[i-1]?=ZA y:=⟨_,VF YG⟩;have hgy:aA l ((i-1:Nat):Int)=ZA y:=by rw[aQ];omega
    rw[Yp (show 0<(i:Int)by omega),Yz h0,hp,hgy,hy,ZaR]
    grind
  ·unfold kY
   simp
 unfold jI wF
 grind
theorem Ob(hf:yb l):jG l=ZA (wF l):=by
 have e:aD (kG l) NN 0=ZA (if allI (RZ l) 0 l=ZC then .inl ()else .inr ZD):=by
  refine fy (A:=Unit) (λ_ i=>i) _ (λa _=>a) (λ_=>()) (λa i z hz=>?_) (λa=>?_) (by have:=hf.1;unfold NN;omega) ()
  ·have bO:=(VH.1 hz).1
   have hl:=hf.1;obtain⟨p1,p2⟩:=hf.2 z (VI hz);have hg:aA l (i:Int)=ZA z:=by rw[aQ];omega
   have hi:aH ((i:Int)+1)=((i+1:Nat):Int):=bI bO YG;unfold kG;simp only[nH,Yp (show(i:Int)<l.length by omega),YC,hg,VE,hi,ZfL p1,ZfL p2]
   unfold RZ
   by_cases h0:i=0
   ·grind
   ·have hp:=DX (Xy h0) bO hl
    obtain⟨y,hy⟩:∃y,l[i-1]?=ZA y:=⟨_,VF YG⟩;have hgy:aA l ((i-1:Nat):Int)=ZA y:=by rw[aQ];omega
    rw[Yp (show 0<(i:Int)by omega),Yz h0,hp,hgy,hy,ZaR]
    simp only[VE,ZiY z.first y.last]
    grind
  ·unfold kG
   simp
 unfold jG wF
 grind
def ze(a b:bH):Bool:=ZE (a.nD<b.nD) ||(ZE (b.nD=a.nD)&&(ZE (a.ax<b.ax) ||(ZE (b.ax=a.ax)&&(ZE (a.lT<b.lT)&&ZE (a.nK<=b.nK)))))
theorem ZgT(a b:bH):qg a b=ZA (ze a b):=by
 unfold qg ze
 grind
def ZjG(o:Option bH)(r:bH):Bool:=match o with
 |some y=>ze y r
 |none=>ZD
theorem Zar(y r:bH):ZjG (ZA y) r=ze y r:=rfl
def QS(l:List bH)(aP:Int)(i:Nat)(r:bH):Bool:=
 !decide (r.nD<0)&&(!decide (aP<=r.nD)&&((ZE (1<=r.ax)&&ZE (r.ax<=3))&&((ZE (1<=r.lT)&&ZE (r.lT<=1000000000))&&((ZE (0<=r.nK)&&ZE (r.nK<=100000))&&(ZE (i=0) ||ZjG l[i-1]? r)))))
def xo(l:List bH)(aP:Int):Bool:=allI (QS l aP) 0 l&&ZE ((l.length:Int)<=24)
theorem Zal{l:List bH}(hl:l.length<=1048576):lN l aP=ZA (xo l aP):=by
 have e:aD (kX l aP) NN 0=ZA (if allI (QS l aP) 0 l=ZC then .inl ()else .inr ZD):=by
  refine fy (A:=Unit) (λ_ i=>i) _ (λa _=>a) (λ_=>()) (λa i z hz=>?_) (λa=>?_) YI ()
  ·have bO:=(VH.1 hz).1
   have hg:aA l (i:Int)=ZA z:=by rw[aQ];omega
   have hi:aH ((i:Int)+1)=((i+1:Nat):Int):=bI bO YG;unfold kX;simp only[nH,Yp (show(i:Int)<l.length by omega),YC,hg,VE,hi,dG]
   unfold QS;generalize (ZE (1<=z.ax)&&ZE (z.ax<=3))=c1;generalize (ZE (1<=z.lT)&&ZE (z.lT<=1000000000))=c2;generalize (ZE (0<=z.nK)&&ZE (z.nK<=100000))=c3
   by_cases h0:i=0
   ·grind
   ·have hp:=DX (Xy h0) bO hl
    obtain⟨y,hy⟩:∃y,l[i-1]?=ZA y:=⟨_,VF YG⟩;have hgy:aA l ((i-1:Nat):Int)=ZA y:=by rw[aQ];omega
    rw[Yp (show 0<(i:Int)by omega),Yz h0,hp,hgy,hy,Zar]
    simp only[VE,ZgT]
    grind
  ·unfold kX
   simp
 unfold lN xo
 grind
theorem ZgR(a b:bH)(h:¬(0<=(if xw a.nD b.nD≠0 then xw a.nD b.nD else if xw a.ax b.ax≠0 then xw a.ax b.ax else xw a.lT b.lT))):ze a b=!(ZE (a.nD=b.nD)&&(ZE (a.ax=b.ax)&&ZE (b.nK<a.nK))):=by
 unfold xw at h
 unfold ze
 grind
theorem ZgS(a b:bH)(h:0<=(if xw a.nD b.nD≠0 then xw a.nD b.nD else if xw a.ax b.ax≠0 then xw a.ax b.ax else xw a.lT b.lT)):ze a b=false:=by
 unfold xw at h
 unfold ze
 grind
theorem Zak{l:List bH}(hl:l.length<=1048576):lH l aP=ZA (xo l aP):=by
 have e:aD (kF l aP) NN 0=ZA (if allI (QS l aP) 0 l=ZC then .inl ()else .inr ZD):=by
  refine fy (A:=Unit) (λ_ i=>i) _ (λa _=>a) (λ_=>()) (λa i z hz=>?_) (λa=>?_) YI ()
  ·have bO:=(VH.1 hz).1
   have hg:aA l (i:Int)=ZA z:=by rw[aQ];omega
   have hi:aH ((i:Int)+1)=((i+1:Nat):Int):=bI bO YG;unfold kF;simp only[nH,Yp (show(i:Int)<l.length by omega),YC,hg,VE,hi,wo]
   unfold QS;generalize (ZE (1<=z.ax)&&ZE (z.ax<=3))=c1;generalize (ZE (1<=z.lT)&&ZE (z.lT<=1000000000))=c2;generalize (ZE (0<=z.nK)&&ZE (z.nK<=100000))=c3
   by_cases h0:i=0
   ·grind
   ·have hp:=DX (Xy h0) bO hl
    obtain⟨y,hy⟩:∃y,l[i-1]?=ZA y:=⟨_,VF YG⟩;have hgy:aA l ((i-1:Nat):Int)=ZA y:=by rw[aQ];omega
    rw[Yz (show ¬((i:Int)=0)by omega),Yz h0,hp,hgy,hy,Zar]
    simp only[VE,ZdH,Zem]
    by_cases hc:0<=(if xw y.nD z.nD≠0 then xw y.nD z.nD else if xw y.ax z.ax≠0 then xw y.ax z.ax else xw y.lT z.lT)
    ·rw[Yp hc,ZgS y z hc]
     simp
    ·rw[Yz hc,ZgR y z hc]
     grind
  ·unfold kF
   simp
 unfold lH xo
 grind
theorem UK:@qz=@iZ:=by
 funext l q i
 unfold qz iZ;simp only[nH]
 cases aA l i<;>rfl
theorem Oa(hl:l.length<=1048576)(q:ByteArray):∃o,aD (iZ l q) NN 0=ZA o:=by
 refine Dp (n:=l.length) YI (λi hi=>?_) ?_
 ·have hg:aA l (i:Int)=ZA l[i]:=by rw[aQ];simp
  have hw:aH ((i:Int)+1)=((i+1:Nat):Int):=bI hi YG;unfold iZ;simp only[nH,Yp (show(i:Int)<l.length by omega),YC,hg,VE,hw]
  cases Us l[i].first q<;>cases Us q l[i].last
  all_goals simp
 ·unfold iZ
  simp
theorem Zda(hf:yb l){q:ByteArray}(hq:q.size<=AN):rm l q=pa l q/\∃v,pa l q=ZA v:=by
 unfold rm pa;rw[Ob hf,Oc hf,UK,ZfL hq,Zai hq];refine⟨rfl,?_⟩;obtain⟨o,ho⟩:=Oa hf.1 q;rw[ho]
 cases wF l<;>cases plB q<;>(try exact⟨_,rfl⟩)
 cases o<;>exact⟨_,rfl⟩
theorem Zc6{l:List Int}(h:l.length<NN):oC l=lP l/\∃v,lP l=ZA v:=by
 unfold oC lP;rw[JX,N7 h];refine⟨rfl,?_⟩
 cases ht:E0 l with
 |false=>simp
 |true=>
  match l,LY ht with
  | [x,y,z],_=>exact⟨_,rfl⟩
theorem Za1(h1:p.label.aX.size<=AN)(h2:p.ar.size<=AN)(h3:p.bb.length<NN):ic p=fI p/\∃v,fI p=ZA v:=by
 obtain⟨e1,b,hb⟩:=AG h1 h2 h3;obtain⟨e2,v,hv⟩:=Zc6 h3;unfold ic fI
 grind
theorem ZcA{z:Int}(hc:ic p=fI p):pj aR p z=gZ aR p z:=by
 funext i
 unfold pj gZ;simp only[nH,hc]
 cases hg:aA aR i with
 |none=>simp
 |some y=>rfl
theorem Jw{aP:List bF}(hz:yb aP)(hr:aR.length<=1048576)(h1:p.label.aX.size<=AN)(h2:p.ar.size<=AN)(h3:p.bb.length<NN):
 mT aP aR p=gY aP aR p/\∃v,gY aP aR p=ZA v:=by
 obtain⟨e1,b,hb⟩:=AG h1 h2 h3;obtain⟨e2,z,hv⟩:=Zda hz h1;obtain⟨e3,cw,hcw⟩:=Za1 h1 h2 h3;have hL:∃o,aD (gZ aR p z) NN 0=ZA o:=by
  refine Dp (n:=aR.length) YI (λi hi=>?_) ?_
  ·have hg:aA aR (i:Int)=ZA aR[i]:=by rw[aQ];simp
   have hw:aH ((i:Int)+1)=((i+1:Nat):Int):=bI hi YG;unfold gZ;simp only[nH,Yp (show(i:Int)<aR.length by omega),YC,hg,VE,hw,hcw]
   cases ZE (aR[i].nD=z)<;>cases ZE (aR[i].ax=p.label.ax)<;>cases ZE (cw<=aR[i].lT)<;>(first|exact ZaD rfl|simp)
  ·unfold gZ
   simp
 obtain⟨o,ho⟩:=hL;unfold mT gY;rw[Ob hz,Oc hz,Zak hr,Zal hr,e1,e2,hb,hv];simp only[VE,ZcA e3,ho];refine⟨trivial,?_⟩
 cases wF aP
 ·simp
 cases xo aR (aP.length:Int)
 ·simp
 cases b
 ·simp
 cases o<;>exact⟨_,rfl⟩
structure Zjj(l:bM):Prop where
 start:0<=l.start/\l.start<=1439
 oS:1<=l.oS/\l.oS<=4320
 jl:0<=l.jl/\l.jl<=1000000
theorem Ze0{l:bM}(h:I6 l)(hv:fU l=ZA ZC):Zjj l:=by
 obtain⟨_,b1,s1⟩:=pI (s:=l.ar) h.1;obtain⟨_,b2,s2⟩:=pI (s:=l.aX) h.2;unfold fU at hv
 rw[s1,s2]at hv
 simp only[VE,dG]at hv
 cases b1 with
 |false=>grind
 |true=>
 cases b2 with
 |false=>grind
 |true=>
 simp only[YC]at hv
 cases h1:ZE (l.ar=l.aX)with
 |true=>simp_all
 |false=>
 rw[h1]at hv
 cases h2:ZE (0<=l.start)&&ZE (l.start<=1439)with
 |false=>simp_all
 |true=>
 rw[h2]at hv
 cases h3:ZE (1<=l.oS)&&ZE (l.oS<=4320)with
 |false=>simp_all
 |true=>
 rw[h3]at hv
 cases h4:ZE (1<=l.AW)&&ZE (l.AW<=127)with
 |false=>simp_all
 |true=>
 rw[h4]at hv
 cases h5:ZE (0<=l.jl)&&ZE (l.jl<=1000000)with
 |false=>simp_all
 |true=>
 simp only[VN,YE]at h2 h3 h5
 exact⟨h2,h3,h5⟩
theorem DC(h:cR n)(hn:ba n=ZA ZC):∀l∈n.aB,Zjj l:=by
 have e:aD (cu n) NN 0=ZA (if allI (λ_ l=>(fU l).getD ZD) 0 n.aB=ZC then .inl ()else .inr ZD):=by
  refine fy (A:=Unit) (λ_ i=>i) _ (λa _=>a) id (λa i l hl=>?_) (λa=>?_) (by have:=h.aB;unfold NN;omega) ()
  ·have bO:=(VH.1 hl).1
   have xk:=h.aB;have hg:aA n.aB (i:Int)=ZA l:=by rw[aQ];omega
   have hi:aH ((i:Int)+1)=((i+1:Nat):Int):=bI bO YG;obtain⟨_,b,hb⟩:=Dj (h.bG l (VI hl));unfold cu
   grind
  ·unfold cu
   simp
 unfold ba at hn
 rw[e]at hn
 by_cases ha:allI (λ_ l=>(fU l).getD ZD) 0 n.aB=ZC
 ·intro l hl
  obtain⟨i,hi,rfl⟩:=V2 hl;have:=cJ.1 ha i _ (VF hi);obtain⟨_,b,hb⟩:=Dj (h.bG _ (Wd hi));rw[hb]at this
  simp at this
  subst this;exact Ze0 (h.bG _ (Wd hi)) hb
 simp_all
theorem JY(ht:fw n t=ZC):0<=t.day/\t.day<=60:=by
 unfold fw cy at ht
 rw[dG,dG]at ht
 grind
def cE(n:ak)(t:aw):Int:=(bw n t).getD 0
def dm(n:ak)(t:aw):Int:=(bp n t).getD 0
theorem cT(h:cR n)(hn:ba n=ZA ZC)(ht:fw n t=ZC):
 bw n t=ZA (cE n t)/\bp n t=ZA (dm n t)/\0<=cE n t/\cE n t<dm n t/\dm n t<=100000:=by
 obtain⟨y,hy,hm⟩:=fh h ht;obtain⟨d0,d1⟩:=JY ht;have hl:=DC h hn y hm;obtain⟨a0,a1⟩:=hl.start;obtain⟨b0,b1⟩:=hl.oS;have e1:bw n t=ZA (t.day*1440+y.start):=by
  unfold bw;rw[hy];simp only[VE];rw[aL (n:=t.day*1440) YG,aL YG]
 have e2:bp n t=ZA (t.day*1440+y.start+y.oS):=by
  unfold bp;rw[e1,hy];simp only[VE];rw[aL YG]
 have s1:cE n t=t.day*1440+y.start:=by unfold cE;simp_all
 have s2:dm n t=t.day*1440+y.start+y.oS:=by unfold dm;simp_all
 grind
theorem Ru{o:ay}{now:Int}(h:bV n o now=ZA ZC):(o.state=1/\¬(o.place=o.aX))\/(o.state=2/\o.aN<o.aK.length)\/(o.state=3/\o.aN=o.aK.length/\0<o.aN):=by
 by_cases h1:o.state=1
 ·refine .inl ⟨h1,λhp=>?_⟩
  unfold bV at h
  rw[Yp h1]at h
  cases h0:ZE (0<o.aN)with
  |false=>
   grind
  |true=>
   rw[h0]at h
   simp only[YD,YC]at h
   cases hg:aA o.aK (aH (o.aN-1))with
   |none=>simp_all
   |some y1=>
    rw[hg]at h
    simp only[VE]at h
    cases hl:aA n.aB y1.bG with
    |none=>simp_all
    |some y2=>
     rw[hl]at h
     simp only[VE]at h
     cases he:bp n y1 with
     |none=>simp_all
     |some v=>
      grind
 ·by_cases h2:o.state=2
  ·refine .inr (.inl ⟨h2,?_⟩)
   rcases Classical.em (o.aN<o.aK.length)with bO|bO
   ·omega
   exfalso;unfold bV at h
   rw[Yz h1,Yp h2,Yz bO]at h
   cases h0:ZE (0<o.aN)with
   |false=>
    simp_all
   |true=>
    rw[h0]at h
    simp only[YD,YC]at h
    cases hg:aA o.aK (aH (o.aN-1))with
    |none=>simp_all
    |some y1=>
     rw[hg]at h
     simp only[VE]at h
     cases hl:aA n.aB y1.bG with
     |none=>simp_all
     |some y2=>
      rw[hl]at h
      simp only[VE]at h
      cases he:bp n y1 with
      |none=>simp_all
      |some v=>
       simp_all
  ·by_cases h3:o.state=3
   ·refine .inr (.inr ⟨h3,?_⟩)
    rcases Classical.em (o.aN=o.aK.length/\0<o.aN)with bO|bO
    ·omega
    exfalso;unfold bV at h
    rw[Yz h1,Yz h2,Yp h3]at h
    cases h0:ZE (0<o.aN)with
    |false=>
     simp_all
    |true=>
     have dX:¬o.aN=(o.aK.length:Int):=λe=>bO ⟨e,YA h0⟩
     rw[h0,Yz dX]at h
     simp only[YD,YC]at h
     cases hg:aA o.aK (aH (o.aN-1))with
     |none=>simp_all
     |some y1=>
      rw[hg]at h
      simp only[VE]at h
      cases hl:aA n.aB y1.bG with
      |none=>simp_all
      |some y2=>
       rw[hl]at h
       simp only[VE]at h
       cases he:bp n y1 with
       |none=>simp_all
       |some v=>
        simp_all
   ·exfalso
    unfold bV at h
    rw[Yz h1,Yz h2,Yz h3]at h
    cases h0:ZE (0<o.aN)with
    |false=>simp_all
    |true=>
     rw[h0]at h
     simp only[YD,YC]at h
     cases hg:aA o.aK (aH (o.aN-1))with
     |none=>simp_all
     |some y1=>
      rw[hg]at h
      simp only[VE]at h
      cases hl:aA n.aB y1.bG with
      |none=>simp_all
      |some y2=>
       rw[hl]at h
       simp only[VE]at h
       cases he:bp n y1 with
       |none=>simp_all
       |some v=>
        simp_all
structure L8(w:az)(i:Nat)(o:ay):Prop where
 aN:0<=o.aN/\o.aN<=o.aK.length
 aV:∀t∈o.aK,fw w.aa t=ZC
 aK:allI (ya w ((i+1:Nat):Int) o) 0 o.aK=ZC
 Zjz:eC w.aa o.aK o.ar (Gd w.aa o) (aH (o.aO+1))=ZA ZC
 st:bV w.aa o w.now=ZA ZC
 cases:(o.state=1/\¬(o.place=o.aX))\/(o.state=2/\o.aN<o.aK.length)\/(o.state=3/\o.aN=o.aK.length/\0<o.aN)
 open_:((o.aK.drop (bl o).toNat).any (cD w.ah))=ZD
 Zkh:¬o.ar=o.aX
 aO:0<=o.aO/\o.aO<=w.now
 ec:0<=o.ec/\o.ec<=200000
theorem Qy{w:az}(hf:wH w){o:ay}(hl:o.aK.length<=1048576)(h:jd w i o=ZC):L8 w i o:=by
 unfold jd at h
 simp only[VN,V7,YE,YF]at h
 obtain⟨⟨⟨⟨⟨⟨⟨⟨⟨⟨⟨h1,h2⟩,h3⟩,h4⟩,h5⟩,h6⟩,h7⟩,h8⟩,h9⟩,Ge⟩,K0⟩,K1⟩:=h;have ht:∀t∈o.aK,fw w.aa t=true:=by
  intro t ht;obtain⟨j,hj,rfl⟩:=V2 ht;have:=cJ.1 h9 j _ (VF hj);unfold ya at this
  simp_all
 obtain⟨r,hr⟩:=BY hf.fv hl o.ar (Gd w.aa o) (aH (o.aO+1));obtain⟨b,hb⟩:=JQ (n:=w.aa) h8 hl (λt htt=>by obtain⟨y,hy,_⟩:=fh hf.fv (ht t htt);simp_all) w.now
 rw[hr]at Ge
 rw[hb]at K0
 simp only[Ww]at Ge K0
 subst Ge K0;exact⟨h8,ht,h9,hr,hb,Ru hb,K1,h3,h6,h7⟩
section
variable {w:az} (hf:wH w) (hv:gf w=ZC)
include hf hv
theorem oU{o:ay}(ho:w.ae[i]?=ZA o):L8 w i o:=Qy hf (hf.aK o (VI ho)) (sw hv ho)
theorem L6:ba w.aa=ZA true:=(dy (FZ hv)).1
theorem JZ{o:ay}(ho:w.ae[i]?=ZA o)(h0:0<=k)(h1:k<o.aK.length):∃t,aA o.aK k=ZA t/\fw w.aa t=true:=by
 have bO:k.toNat<o.aK.length:=YG;exact⟨o.aK[k.toNat],by unfold aA;simp_all,(oU hf hv ho).aV _ (Wd bO)⟩
theorem Zie:gn w=(aD (im w) NN (0,(-1))).bind (λo0=>ZA o0):=by
 have yt:=L6 hf hv;have hor:=hf.ae
 let F:Nat->Int->ay->Option (Int⊕Int):=λ_ a o=>
  if o.aN=o.aK.length then ZA (.inl a)else(aA o.aK o.aN).bind λt=>
   let v:=if o.state=2 then dm w.aa t else cE w.aa t
   ZA (.inl (if a<0\/v<a then v else a))
 have e1:aD (eX w) NN ((-1),0)=wa F ZA 0 w.ae (-1):=by
  refine so (A:=Int) (λa i=>(a,i)) F ZA (λa i o ho=>?_) (λa=>?_) YI (-1)
  ·have bO:=(VH.1 ho).1
   have hg:aA w.ae (i:Int)=ZA o:=by rw[aQ];omega
   have hi:aH ((i:Int)+1)=((i+1:Nat):Int):=bI bO YG;have ji:=oU hf hv ho;unfold eX;simp only[Yp (show(i:Int)<w.ae.length by omega),YC,hg,VE,hi,su,vh]
   show _=(F i a o).bind _;simp only[F]
   by_cases xH:o.aN<o.aK.length
   ·obtain⟨t,htg,yU⟩:=JZ hf hv ho ji.aN.1 xH
    obtain⟨t1,t2,t3,t4,t5⟩:=cT hf.fv yt yU;rw[if_neg (show ¬o.aN=(o.aK.length:Int)by omega),htg]
    simp only[VE,t1,t2,Yp xH]
    rcases ji.cases with⟨c1,_⟩ |⟨c1,_⟩ |⟨c1,c2,_⟩
    all_goals grind
   ·have Ev:=ji.aN.2
    rw[if_pos (show o.aN=(o.aK.length:Int)by omega),Yz xH]
    rcases ji.cases with⟨c1,_⟩ |⟨c1,_⟩ |⟨c1,c2,_⟩
    all_goals simp_all
  ·unfold eX
   simp
 have e2:aD (im w) NN (0,(-1))=wa F ZA 0 w.ae (-1):=by
  refine so (A:=Int) (λa i=>(i,a)) F ZA (λa i o ho=>?_) (λa=>?_) YI (-1)
  ·have bO:=(VH.1 ho).1
   have hg:aA w.ae (i:Int)=ZA o:=by rw[aQ];omega
   have hi:aH ((i:Int)+1)=((i+1:Nat):Int):=bI bO YG;have ji:=oU hf hv ho;unfold im;simp only[Yp (show(i:Int)<w.ae.length by omega),YC,hg,VE,hi]
   show _=(F i a o).bind _;simp only[F]
   by_cases xH:o.aN<o.aK.length
   ·obtain⟨t,htg,yU⟩:=JZ hf hv ho ji.aN.1 xH
    obtain⟨t1,t2,t3,t4,t5⟩:=cT hf.fv yt yU
    grind
   ·have Ev:=ji.aN.2
    grind
  ·unfold im
   simp
 unfold gn
 simp_all
end
theorem Rv{w:az}(hf:wH w)(hv:gf w=ZC){o:ay}(ho:w.ae[i]?=ZA o):∃b,fL w o=ZA b/\jb w (i:Int)=ZA b/\(b=ZD->0<o.aK.length):=by
 have ji:=oU hf hv ho;have hl:=hf.aK o (VI ho);obtain⟨c1,c2,c3⟩:=wQ ji.aN hl;have hg:aA w.ae (i:Int)=ZA o:=by rw[aQ];omega
 unfold fL jb;rw[hg];simp only[VE]
 rcases ji.cases with⟨k1,k2⟩ |⟨k1,k2⟩ |⟨k1,k2,k3⟩
 ·have CZ:bl o=o.aN:=by unfold bl;omega
  have Ev:=ji.aN;have hh:eH w.aa o=ZA o.place:=by unfold eH;simp_all
  rw[Vj,hh,c1,c3,CZ,if_neg (show ¬(o.aK.length:Int)<o.aN by omega),k1]
  simp only[VE]
  by_cases xH:o.aN=o.aK.length
  ·simp_all
  ·exact⟨ZD,by simp_all,by simp_all,λ_=>YG⟩
 ·have CZ:bl o=o.aN+1:=by unfold bl;omega
  have Ev:=ji.aN;obtain⟨t,htg,yU⟩:=JZ hf hv ho ji.aN.1 k2;obtain⟨y,hy,_⟩:=fh hf.fv yU;have hh:eH w.aa o=ZA y.aX:=by unfold eH;simp_all
  rw[Vj,hh,c1,c3,CZ,if_neg (show ¬(o.aK.length:Int)<o.aN+1 by omega),k1]
  simp only[VE]
  cases ZE (o.aN+1=(o.aK.length:Int))with
  |true=>grind
  |false=>grind
 simp_all
theorem Ay{σ ο:Type}{body:σ->Option (σ⊕ο)}{P:ο->Prop}(h:∀s o,body s=ZA (.inr o)->P o):∀(N:Nat) (s:σ) (o:ο),aD body N s=ZA o->P o
 |0,s,o,he=>by simp[aD]at he
 |N+1,s,o,he=>by
  simp only[aD]at he
  cases hb:body s with
  |none=>grind
  |some x=>
   rw[hb]at he
   cases x with
   |inl s'=>exact Ay h N s' o he
   |inr r=>grind
theorem VB(hn:ba n=ZA ZC):(0<=n.change/\n.change<=240)/\n.aB.length<=20/\n.off.length<=10:=by
 unfold ba at hn
 have p0:∀(N:Nat) (s:Int) (o:Unit⊕Bool),aD (cu n) N s=ZA o->o=.inl ()\/o=.inr false:=by
  refine Ay λs o h=>?_
  unfold cu at h
  cases hd:ZE (s<(n.aB.length:Int))with
  |false=>grind
  |true=>
   cases hg:aA n.aB s with
   |none=>grind
   |some y=>
    cases hl:fU y with
    |none=>simp_all
    |some b=>grind
 have p1:∀(N:Nat) (s:Int) (o:Unit⊕Bool),aD (cA n) N s=ZA o->o=.inl ()\/o=.inr false:=by
  refine Ay λs o h=>?_
  unfold cA at h
  cases hd:ZE (s<(n.off.length:Int))with
  |false=>grind
  |true=>
   cases hg:aA n.off s with
   |none=>grind
   |some y=>
    rw[hg,VE,dG]at h
    cases hb:ZE (0<=y)&&ZE (y<=60)with
    |false=>grind
    |true=>
     cases hs:ZE (0<s)with
     |false=>simp_all
     |true=>
      rw[hs]at h
      simp at h
      cases hg2:aA n.off (aH (s-1))with
      |none=>simp_all
      |some z=>
       grind
 cases h0:aD (cu n) NN 0 with
 |none=>grind
 |some r0=>
 rcases p0 _ _ _ h0 with rfl|rfl
 ·cases h1:aD (cA n) NN 0 with
  |none=>simp_all
  |some r1=>
  rw[h1]at hn
  rcases p1 _ _ _ h1 with rfl|rfl
  ·simp only[dG]at hn
   grind
  simp_all
 grind
theorem jJ(hn:ba n=ZA ZC):0<=n.change/\n.change<=240:=(VB hn).1
theorem uL(hn:ba n=ZA ZC):n.aB.length<=20:=(VB hn).2.1
def mB(n:ak)(t:aw):ByteArray:=((aA n.aB t.bG).map (·.ar)).getD ⟨#[]⟩
def iM(n:ak):ByteArray->Int->List aw->Prop
 |_,_,[]=>True
 |p,a,t::ts=>fw n t=ZC/\mB n t=p/\a<=cE n t/\iM n (cd n t) (dm n t+n.change) ts
theorem Dl(h:cR n)(hn:ba n=ZA ZC)(t:aw):dE n t=ZA (fw n t):=by
 rw[<-(tI h t).1,Dm h hn,yH h]
theorem FA(hf:cR n)(hn:ba n=ZA ZC){aK:List aw}(hl:aK.length<=1048576){a b:ByteArray}{t:Int}(h:eC n aK a b t=ZA ZC):iM n a t aK:=by
 obtain⟨ch0,ch1⟩:=jJ hn;have IV:=e9 n;have AY:=hf.aB
 let F:Nat->ByteArray×Int->aw->Option ((ByteArray×Int)⊕(ByteArray⊕Bool)):=λ_ p t=>
  ZA (if fw n t=ZC/\mB n t=p.1/\p.2<=cE n t then .inl (cd n t,dm n t+n.change)else .inr (.inr ZD))
 have e1:aD (dt n aK b) NN (a,t,0)=wa F (λp=>ZA (.inl p.1)) 0 aK (a,t):=by
  refine so (A:=ByteArray×Int) (λp i=>(p.1,p.2,i)) F (λp=>ZA (.inl p.1)) (λp i x hx=>?_) (λp=>?_) YI (a,t)
  ·have bO:=(VH.1 hx).1
   have hg:aA aK (i:Int)=ZA x:=by rw[aQ];omega
   have hi:aH ((i:Int)+1)=((i+1:Nat):Int):=bI bO YG;unfold dt;simp only[Yp (show(i:Int)<aK.length by omega),hg,VE,Dl hf hn,F]
   cases ht:fw n x with
   |false=>rfl
   |true=>
    obtain⟨y,hy,_⟩:=fh hf ht;obtain⟨t1,t2,t3,t4,t5⟩:=cT hf hn ht;have f1:mB n x=y.ar:=by unfold mB;simp_all
    have f2:cd n x=y.aX:=by unfold cd;simp_all
    have hw:aH (dm n x+n.change)=dm n x+n.change:=aL YG
    grind
  ·unfold dt
   simp
 have key:∀(ts:List aw) (i:Nat) (p:ByteArray×Int) (r:ByteArray),wa F (λp=>ZA (.inl p.1)) i ts p=ZA (.inl r)->iM n p.1 p.2 ts:=by
  intro ts
  induction ts with
  |nil=>intro i p r h;trivial
  |cons x ts ih=>
   intro i p r h;simp only[wa,F]at h
   by_cases hc:fw n x=ZC/\mB n x=p.1/\p.2<=cE n x
   ·rw[if_pos hc]at h
    exact⟨hc.1,hc.2.1,hc.2.2,ih (i+1) (cd n x,dm n x+n.change) r h⟩
   simp_all
 unfold eC at h
 rw[(dF hf).2,hn]at h
 simp only[VE,qw (show(ao n).length<=4194304 by omega)]at h
 cases h1:ZE (bd (ao n) a<0)with
 |true=>simp_all
 |false=>
 cases h2:ZE (bd (ao n) b<0)with
 |true=>simp_all
 |false=>
 rw[h2]at h
 cases hr:wa F (λp=>ZA (.inl p.1)) 0 aK (a,t)with
 |none=>simp_all
 |some r=>
  cases r with
  |inl r=>grind
  |inr v=>
   exfalso;have:∀(ts:List aw) (i:Nat) (p:ByteArray×Int) (v:Bool),wa F (λp=>ZA (.inl p.1)) i ts p=ZA (.inr v)->v=false:=by
    intro ts
    induction ts with
    |nil=>intro i p v h;cases h
    |cons x ts ih=>
     intro i p v h;simp only[wa]at h
     grind
   simp_all
theorem Ih{n:ak}:∀{ts:List aw} {p:ByteArray} {a:Int} {i:Nat} {t:aw},iM n p a ts->ts[i]?=ZA t->fw n t=ZC/\∀t',ts[i+1]?=ZA t'->dm n t+n.change<=cE n t'/\mB n t'=cd n t
 | [],_,_,_,_,_,h=>by grind
 |x::ts,p,a,0,t,hc,h=>by
  obtain rfl:x=t:=by grind
  refine⟨hc.1,λt' h'=>?_⟩
  cases ts with
  |nil=>grind
  |cons y ts=>obtain rfl:y=t':=by grind
              exact⟨hc.2.2.2.2.2.1,hc.2.2.2.2.1⟩
 |x::ts,p,a,i+1,t,hc,h=>by
  have h':ts[i]?=ZA t:=by grind
  have:=Ih hc.2.2.2 h'
  grind
def tw(n:ak)(o:ay):ByteArray:=if 0<o.aN then((o.aK[(o.aN-1).toNat]?).map (cd n)).getD ⟨#[]⟩else o.ar
structure wN(n:ak)(o:ay)(now:Int):Prop where
 NL:∀t,0<o.aN->o.aK[(o.aN-1).toNat]?=ZA t->dm n t<=now
 cases:(o.state=1/\o.place=tw n o/\¬tw n o=o.aX/\o.bK=0/\∀t,o.aK[o.aN.toNat]?=ZA t->now<cE n t)\/
  (o.state=2/\o.place=⟨#[]⟩/\o.bK=0/\∃t,o.aK[o.aN.toNat]?=ZA t/\cE n t<=now/\now<dm n t)\/
  (o.state=3/\o.place=o.aX/\tw n o=o.aX/\o.aN=o.aK.length/\0<o.aN/\∀t,o.aK[(o.aN-1).toNat]?=ZA t->o.bK=dm n t)
theorem An[Decidable c]:cond (ZE c) a b=ZA ZC↔(c/\a=ZA ZC)\/(¬c/\b=ZA ZC):=by
 grind
theorem BH[Decidable c]:cond (!decide c) a b=ZA ZC↔(¬c/\a=ZA ZC)\/(c/\b=ZA ZC):=by
 grind
theorem xY(hf:cR n)(hn:ba n=ZA ZC){o:ay}(hg:0<=o.aN/\o.aN<=o.aK.length)(hl:o.aK.length<=1048576)(ht:∀t∈o.aK,fw n t=ZC)(now:Int):bV n o now=ZA ZC↔wN n o now:=by
 have Df:aH (o.aN-1)=o.aN-1:=aL YG;have nx:(∃t,o.aN<o.aK.length/\aA o.aK o.aN=ZA t/\o.aK[o.aN.toNat]?=ZA t/\bw n t=ZA (cE n t)/\bp n t=ZA (dm n t))\/(o.aN=o.aK.length/\o.aK[o.aN.toNat]?=ZB):=by
  by_cases h:o.aN<o.aK.length
  ·have bO:o.aN.toNat<o.aK.length:=YG
   obtain⟨t1,t2,_⟩:=cT hf hn (ht _ (Wd bO));exact .inl ⟨o.aK[o.aN.toNat],h,by unfold aA;simp_all,VF bO,t1,t2⟩
  grind
 unfold bV;rw[Df]
 by_cases h0:0<o.aN
 ·have bO:(o.aN-1).toNat<o.aK.length:=YG
  obtain⟨p,hp,hp1⟩:∃p,aA o.aK (o.aN-1)=ZA p/\o.aK[(o.aN-1).toNat]?=ZA p:=⟨o.aK[(o.aN-1).toNat],by unfold aA;rw[if_pos YG];simp,VF bO⟩
  have hpt:=ht p (VI hp1);obtain⟨y,hy,_⟩:=fh hf hpt;obtain⟨t1,t2,t3,t4,t5⟩:=cT hf hn hpt;have hh:tw n o=y.aX:=by unfold tw;rw[if_pos h0,hp1];simp[cd,hy]
  rcases nx with⟨t,n1,n2,n3,n4,n5⟩ |⟨n1,n3⟩
  ·have ng:¬o.aN=o.aK.length:=YG
   simp only[hp,hy,t2,n2,n4,VE,An,BH];constructor
   ·intro h
    refine⟨λq _ hq=>?_,?_⟩
    ·simp_all
    ·simp
     by_cases s1:o.state=1<;>by_cases s2:o.state=2<;>by_cases s3:o.state=3<;>simp_all
   ·rintro⟨k1,k2⟩
    have k1':=k1 p h0 hp1;simp at k2
    have:¬now<dm n p:=YG
    rcases k2 with k|k|k<;>simp_all
  ·simp only[hp,hy,t2,VE,An,BH]
   constructor
   ·intro h
    refine⟨λq _ hq=>?_,?_⟩
    ·simp_all
    ·rw[hh];simp
     by_cases s1:o.state=1<;>by_cases s2:o.state=2<;>by_cases s3:o.state=3<;>simp_all
   ·rintro⟨k1,k2⟩
    have k1':=k1 p h0 hp1;rw[hh]at k2;simp at k2
    have:¬now<dm n p:=YG
    rcases k2 with k|k|k<;>simp_all
 ·have hh:tw n o=o.ar:=by unfold tw;grind
  rcases nx with⟨t,n1,n2,n3,n4,n5⟩ |⟨n1,n3⟩
  ·have ng:¬o.aN=o.aK.length:=YG
   simp only[An,VR];constructor
   ·intro h
    refine⟨λq hq=>absurd hq h0,?_⟩
    grind
   ·rintro⟨k1,k2⟩
    simp at k2
    rcases k2 with k|k|k<;>simp_all
  ·simp only[An,BH]
   constructor
   ·intro h
    refine⟨λq hq=>absurd hq h0,?_⟩
    simp_all
   ·rintro⟨k1,k2⟩
    simp_all
def dW(n:ak)(o:ay):Option Int:=(o.aK[o.aN.toNat]?).map λt=>if o.state=2 then dm n t else cE n t
def Hz(n:ak)(aO:Int)(o:ay)(t:aw):ay:=
 if cd n t=o.aX then { o with aN:=o.aN+1,state:=3,place:=cd n t,bK:=aO}else { o with aN:=o.aN+1,state:=1,place:=cd n t}
def ct(n:ak)(aO:Int)(o:ay):ay:=match o.aK[o.aN.toNat]? with
 |some t=>if o.state=2/\dm n t=aO then Hz n aO o t else o
 |none=>o
def ph(n:ak)(aO:Int)(o:ay):ay:=match o.aK[o.aN.toNat]? with
 |some t=>if o.state=1/\cE n t=aO then { o with state:=2,place:=⟨#[]⟩}else o
 |none=>o
structure Bj(n:ak)(o:ay):Prop where
 aN:0<=o.aN/\o.aN<=o.aK.length
 aV:∀t∈o.aK,0<=cE n t/\cE n t<dm n t/\dm n t<=100000
 next:∀(i:Nat) t t',o.aK[i]?=ZA t->o.aK[i+1]?=ZA t'->dm n t<=cE n t'
 last:∀(i:Nat) t,o.aK[i]?=ZA t->cd n t=o.aX->i+1=o.aK.length
structure sC(o o':ay):Prop where
 ar:o'.ar=o.ar
 aX:o'.aX=o.aX
 ax:o'.ax=o.ax
 ab:o'.ab=o.ab
 aO:o'.aO=o.aO
 ec:o'.ec=o.ec
 aK:o'.aK=o.aK
theorem sC.refl(o:ay):sC o o:=⟨rfl,rfl,rfl,rfl,rfl,rfl,rfl⟩
theorem sC.trans{a b c:ay}(h:sC a b)(k:sC b c):sC a c:=⟨k.1.trans h.1,k.2.trans h.2,k.3.trans h.3,k.4.trans h.4,k.5.trans h.5,k.6.trans h.6,k.7.trans h.7⟩
theorem zg(n:ak)(aO:Int)(o:ay):sC o (ct n aO o):=by
 unfold ct Hz
 split
 ·split
  ·split<;>exact⟨rfl,rfl,rfl,rfl,rfl,rfl,rfl⟩
  ·exact .refl o
 ·exact .refl o
theorem Zb0(n:ak)(aO:Int)(o:ay):sC o (ph n aO o):=by
 unfold ph
 split
 ·split
  ·exact⟨rfl,rfl,rfl,rfl,rfl,rfl,rfl⟩
  ·exact .refl o
 ·exact .refl o
def rF(n:ak)(aO:Int)(o:ay):ay:=ph n aO (ct n aO o)
theorem xZ(n:ak)(aO:Int)(o:ay):sC o (rF n aO o):=(zg n aO o).trans (Zb0 n aO _)
theorem Bj.same{o o':ay}(h:Bj n o)(k:sC o o')(hg:0<=o'.aN/\o'.aN<=o.aK.length):Bj n o':=
 ⟨by rw[k.aK];exact hg,by rw[k.aK];exact h.aV,by rw[k.aK];exact h.next,by rw[k.aK,k.aX];exact h.last⟩
def jg(o:ay):Nat:=2*(o.aK.length-o.aN.toNat)-(if o.state=2 then 1 else 0)
structure Ma(n:ak)(o:ay)(aO:Int):Prop where
 ok:wN n o aO
 aN:0<=o.aN/\o.aN<=o.aK.length
 next:∀e,dW n o=ZA e->aO<e
theorem tZ{o:ay}{aO:Int}(h:wN n o aO)(hg:0<=o.aN/\o.aN<=o.aK.length):Ma n o aO:=by
 refine⟨h,hg,λe he=>?_⟩
 unfold dW at he
 rcases h.cases with⟨c,_,_,_,k⟩ |⟨c,_,_,t,k1,_,k3⟩ |⟨c,_,_,k,_,_⟩
 ·cases ht:o.aK[o.aN.toNat]? with
  |none=>rw[ht]at he;cases he
  |some t=>rw[ht]at he;simp[c]at he;subst he;exact k t ht
 ·rw[k1]at he;simp[c]at he;subst he;exact k3
 ·rw[Wz YG]at he;cases he
theorem Vu{o:ay}{aO:Int}(hw:Bj n o)(hp:∀t,0<o.aN->o.aK[(o.aN-1).toNat]?=ZA t->dm n t<=aO)
 (hs:o.state=1) (h1:o.place=tw n o) (h2:¬tw n o=o.aX) (h3:o.bK=0) (h4:∀t,o.aK[o.aN.toNat]?=ZA t->aO<=cE n t):
 Ma n (ph n aO o) aO/\jg (ph n aO o)<=jg o/\((∃t,o.aK[o.aN.toNat]?=ZA t/\cE n t=aO)->jg (ph n aO o)<jg o):=by
 unfold ph
 cases ht:o.aK[o.aN.toNat]? with
 |none=>
  refine⟨tZ ⟨hp,.inl ⟨hs,h1,h2,h3,λt h=>?_⟩⟩ hw.aN,VJ _,λ⟨t,h,_⟩=>?_⟩
  ·rw[ht]at h;cases h
  ·cases h
 |some t=>
  have bO:=(VH.1 ht).1;obtain⟨a1,a2,a3⟩:=hw.aV t (VI ht);have h4':=h4 t ht
  by_cases xu:cE n t=aO
  ·simp only[hs,xu,and_self,if_true]
   refine⟨tZ ⟨λq hq=>?_,.inr (.inl ⟨rfl,rfl,h3,t,ht,YG,YG⟩)⟩ hw.aN,?_,λ_=>?_⟩
   ·exact hp q hq
   ·unfold jg;simp only[hs];simp
   ·unfold jg;simp only[hs];simp;omega
  ·have hng:¬(o.state=1/\cE n t=aO):=λh=>xu h.2
   simp only[if_neg hng];refine⟨tZ ⟨hp,.inl ⟨hs,h1,h2,h3,λq hq=>?_⟩⟩ hw.aN,VJ _,λ⟨q,hq,vl⟩=>?_⟩
   ·rw[ht]at hq;obtain rfl:=VG hq;omega
   ·obtain rfl:=VG hq;exact absurd vl xu
theorem B6{o:ay}{aO:Int}(hs:¬o.state=1):ph n aO o=o:=by
 unfold ph
 cases o.aK[o.aN.toNat]? with
 |none=>rfl
 |some t=>simp[hs]
theorem ZaE{o:ay}{now aO:Int}(hw:Bj n o)(h:wN n o now)(hn:now<=aO)(he:∀e,dW n o=ZA e->aO<=e):
 Ma n (rF n aO o) aO/\Bj n (rF n aO o)/\jg (rF n aO o)<=jg o/\(dW n o=ZA aO->jg (rF n aO o)<jg o):=by
 have hg:=hw.aN;have main:Ma n (rF n aO o) aO/\jg (rF n aO o)<=jg o/\(dW n o=ZA aO->jg (rF n aO o)<jg o):=by
  unfold rF
  rcases h.cases with⟨c1,c2,c3,c4,c5⟩ |⟨c1,c2,c3,t,c4,c5,c6⟩ |⟨c1,c2,c3,c4,c5,c6⟩
  ·have e1:ct n aO o=o:=by
    unfold ct
    cases o.aK[o.aN.toNat]? with
    |none=>rfl
    |some t=>simp[c1]
   rw[e1];have h4:∀t,o.aK[o.aN.toNat]?=ZA t->aO<=cE n t:=λt ht=>he _ (by unfold dW;rw[ht];simp[c1])
   obtain⟨a,b,c⟩:=Vu hw (λt h1 h2=>by have:=h.NL t h1 h2;omega) c1 c2 c3 c4 h4
   refine⟨a,b,λOi=>c ?_⟩
   unfold dW at Oi
   cases ht:o.aK[o.aN.toNat]? with
   |none=>rw[ht]at Oi;cases Oi
   |some t=>rw[ht]at Oi;simp[c1]at Oi;exact⟨t,rfl,Oi⟩
  ·have bO:=(VH.1 c4).1
   obtain⟨a1,a2,a3⟩:=hw.aV t (VI c4);have he':=he (dm n t) (by unfold dW;rw[c4];simp[c1])
   by_cases hx:dm n t=aO
   ·have e1:ct n aO o=Hz n aO o t:=by unfold ct;rw[c4];simp only[c1,hx,and_self,if_true]
    rw[e1];have Ew:(o.aN+1-1).toNat=o.aN.toNat:=YG;have Vk:(o.aN+1).toNat=o.aN.toNat+1:=YG;unfold Hz
    by_cases hd:cd n t=o.aX
    ·have hlen:=hw.last _ t c4 hd
     rw[if_pos hd,B6 YJ];have hh:tw n { o with aN:=o.aN+1,state:=3,place:=cd n t,bK:=aO}=cd n t:=by
      unfold tw;simp only[Ew,c4];rw[if_pos YG];rfl
     refine⟨tZ ⟨λq _ hq=>?_,.inr (.inr ⟨rfl,hd,hh.trans hd,by simp only;omega,by simp only;omega,λq hq=>?_⟩)⟩ (by simp only;omega),?_,λ_=>?_⟩
     ·simp only[Ew,c4,VR]at hq;subst hq;omega
     ·simp only[Ew,c4,VR]at hq;subst hq;exact hx.symm
     ·unfold jg;simp only[Vk,c1];simp;omega
     ·unfold jg;simp only[Vk,c1];simp;omega
    ·rw[if_neg hd]
     have hh:tw n { o with aN:=o.aN+1,state:=1,place:=cd n t}=cd n t:=by
      unfold tw;simp only[Ew,c4];rw[if_pos YG];rfl
     have hw':Bj n { o with aN:=o.aN+1,state:=1,place:=cd n t}:=hw.same ⟨rfl,rfl,rfl,rfl,rfl,rfl,rfl⟩ (by simp only;omega)
     obtain⟨a,b,c⟩:=Vu (aO:=aO) hw' (λq _ hq=>by simp only[Ew,c4,VR]at hq;subst hq;omega) rfl hh.symm (by rw[hh];exact hd) c3 (λq hq=>by
      simp only[Vk]at hq
      have:=hw.next _ t q c4 hq;omega)
     have hb:jg { o with aN:=o.aN+1,state:=1,place:=cd n t} < jg o:=by unfold jg;simp only[Vk,c1];simp;omega
     exact⟨a,YG,λ_=>YG⟩
   ·have e1:ct n aO o=o:=by unfold ct;rw[c4];simp only[hx,and_false,if_false]
    rw[e1,B6 YG];refine⟨tZ ⟨λq h1 h2=>by have:=h.NL q h1 h2;omega,.inr (.inl ⟨c1,c2,c3,t,c4,YG,YG⟩)⟩ hg,VJ _,λOi=>?_⟩
    unfold dW at Oi
    rw[c4]at Oi;simp[c1]at Oi;exact absurd Oi hx
  ·have zr:o.aK[o.aN.toNat]?=none:=Wz YG
   have e1:ct n aO o=o:=by unfold ct;rw[zr]
   rw[e1,B6 YG];refine⟨tZ ⟨λq h1 h2=>by have:=h.NL q h1 h2;omega,.inr (.inr ⟨c1,c2,c3,c4,c5,c6⟩)⟩ hg,VJ _,λOi=>?_⟩
   unfold dW at Oi
   rw[zr]at Oi;cases Oi
 have hs:=xZ n aO o;exact⟨main.1,hw.same hs (by have:=main.1.aN;rw[hs.aK]at this;exact this),main.2⟩
theorem Zc5{o:ay}(hw:Bj n o){now:Int}(h:wN n o now)(h0:jg o=0):dW n o=none:=by
 have hg:=hw.aN;unfold dW
 rcases h.cases with⟨c,_⟩ |⟨c,_,_,t,k1,_⟩ |⟨c,_,_,k,_⟩
 ·unfold jg at h0;rw[if_neg YG]at h0
  rw[Wz YG];rfl
 ·have bO:=(VH.1 k1).1
  unfold jg at h0;rw[if_pos c]at h0;omega
 ·rw[Wz YG];rfl
theorem J1{w:az}(hf:wH w)(hv:gf w=ZC){s:bc}(hs:s∈w.aJ):cn w.aa s=ZA ZC/\s.aO<=w.now:=by
 unfold gf at hv
 simp at hv
 obtain⟨j,hj,rfl⟩:=V2 hs;have:=cJ.1 hv.1.1.2 j _ (VF hj);unfold By at this
 obtain⟨b,hb⟩:=Fz hf.fv w.aJ[j]
 grind
def pe(skip:List Int)(p:List bc×Int)(s:bc):List bc×Int:=
 let m:=if p.2<1000000000 then p.2+1 else p.2
 (if(skip.any λy=>ZE (y=m))=ZD/\p.1.length<200 then p.1++[s]else p.1,m)
def gL(n:ak)(aO:Int)(i:Nat)(o:ay):List bc:=match o.aK[o.aN.toNat]? with
 |some t=>if o.state=2/\dm n t=aO then⟨((i+1:Nat):Int),aO,2,⟨#[]⟩,t⟩::(if cd n t=o.aX then [⟨((i+1:Nat):Int),aO,4,cd n t,⟨0,0⟩⟩]else [])else []
 |none=>[]
def sI(n:ak)(aO:Int)(i:Nat)(o:ay):List bc:=match o.aK[o.aN.toNat]? with
 |some t=>if o.state=1/\cE n t=aO then [⟨((i+1:Nat):Int),aO,3,⟨#[]⟩,t⟩]else []
 |none=>[]
def rQ(f:Nat->ay->List bc):Nat->List ay->List bc
 |_,[]=>[]
 |i,o::os=>f i o++rQ f (i+1) os
theorem zU{f:Nat->ay->List bc}{s:bc}:∀{os:List ay} {i:Nat},s∈rQ f i os->∃j o,os[j]?=ZA o/\s∈f (i+j) o
 | [],_,h=>by simp[rQ]at h
 |o::os,i,h=>by
  simp only[rQ,WD]at h
  rcases h with h|h
  ·exact⟨0,o,rfl,h⟩
  ·obtain⟨j,o',h1,h2⟩:=zU h
   exact⟨j+1,o',by grind,by grind⟩
def JG(w:az)(aO:Int):List bc:=rQ (gL w.aa aO) 0 w.ae++rQ (sI w.aa aO) 0 (w.ae.map (ct w.aa aO))
def fK(w:az)(aO:Int):az:=
 { w with ae:=w.ae.map (rF w.aa aO),now:=aO,aJ:=((JG w aO).foldl (pe w.skip) (w.aJ,w.aT)).1,aT:=((JG w aO).foldl (pe w.skip) (w.aJ,w.aT)).2}
structure tC(w:az):Prop where
 fit:wH w
 ok:gf w=ZC
theorem tC.fv{w:az}(h:tC w):ba w.aa=ZA true:=L6 h.fit h.ok
theorem tC.aK{w:az}(h:tC w){i:Nat}{o:ay}(ho:w.ae[i]?=ZA o):Bj w.aa o:=by
 have ji:=oU h.fit h.ok ho;have hl:=h.fit.aK o (VI ho);have Oh:=FA h.fit.fv h.fv hl ji.Zjz;refine⟨ji.aN,λt ht=>?_,λi t t' h1 h2=>?_,λi t h1 h2=>?_⟩
 ·obtain⟨_,_,a,b,c⟩:=cT h.fit.fv h.fv (ji.aV t ht)
  omega
 ·have:=((Ih Oh h1).2 t' h2).1
  have:=(jJ h.fv).1;omega
 ·have hw:=cJ.1 ji.aK i t h1
  unfold ya at hw
  grind
theorem tC.state{w:az}(h:tC w){o:ay}(ho:w.ae[i]?=ZA o):wN w.aa o w.now:=by
 have ji:=oU h.fit h.ok ho;exact(xY h.fit.fv h.fv ji.aN (h.fit.aK o (VI ho)) ji.aV _).1 ji.st
theorem tC.parts{w:az}(h:tC w):(0<=w.now/\w.now<=100000)/\w.ae.length<=30/\w.ah.length<=20/\w.aJ.length<=200/\w.skip.length<=50/\(w.aJ.length<=w.aT/\w.aT<=1000000000)/\w.aq.length<=120:=by
 have hb:=dy (FZ h.ok);have hv:=h.ok;unfold gf at hv
 grind
structure GJ(n:ak)(aO:Int)(p:List bc×Int):Prop where
 ZmS:∀s∈p.1,cn n s=ZA ZC/\s.aO<=aO
 len:p.1.length<=200
 aT:p.1.length<=p.2/\p.2<=1000000000
theorem Lq{aO:Int}{skip:List Int}{p:List bc×Int}{s:bc}(h:GJ n aO p)(hs:cn n s=ZA ZC/\s.aO<=aO):GJ n aO (pe skip p s):=by
 obtain⟨h1,h2,h3⟩:=h;unfold pe
 by_cases hm:p.2<1000000000
 ·simp only[if_pos hm]
  split
  ·exact⟨λx hx=>by grind,by grind,by grind⟩
  ·exact⟨h1,h2,by grind⟩
 ·simp only[if_neg hm]
  split
  ·exact⟨λx hx=>by grind,by grind,by grind⟩
  ·exact⟨h1,h2,YG⟩
theorem ID{n:ak}{aO:Int}{skip:List Int}:∀(l:List bc) (p:List bc×Int),GJ n aO p->(∀s∈l,cn n s=ZA ZC/\s.aO<=aO)->GJ n aO (l.foldl (pe skip) p)
 | [],p,h,_=>h
 |s::l,p,h,hl=>ID l _ (Lq h (hl s Wc)) λx hx=>hl x (V5 _ hx)
theorem Me{aO:Int}{o:ay}:bl o<=bl (ct n aO o):=by
 unfold ct
 split
 ·split
  ·rename_i t ht hc
   unfold Hz
   split<;>(unfold bl;simp[hc.1])
  omega
 omega
theorem To{aO:Int}{o:ay}:bl o<=bl (ph n aO o):=by
 unfold ph
 split
 ·split
  ·unfold bl
   grind
  omega
 omega
theorem UB{aO:Int}{o:ay}:bl o<=bl (rF n aO o):=Int.le_trans Me To
theorem Zee{α:Type}{l:List α}{p:α->Bool}{a b:Nat}(h:a<=b)(hk:(l.drop a).any p=ZD):(l.drop b).any p=false:=by
 obtain⟨c,rfl⟩:∃c,b=a+c:=⟨b-a,YG⟩;rw[<-List.drop_drop]
 grind
section
variable {w:az} (h:tC w) {aO:Int} (hn:w.now<=aO) (hm:aO<=100000) (he:∀o∈w.ae,∀e,dW w.aa o=ZA e->aO<=e)
include h hn hm he
theorem Ci{th:Int}{p:ByteArray}(h1:1<=th/\th<=9999)
 (hk:(k=2/\p=⟨#[]⟩/\fw w.aa t=ZC/\dm w.aa t<=aO)\/(k=3/\p=⟨#[]⟩/\fw w.aa t=ZC/\aO<=cE w.aa t)\/(k=4/\¬bd (ao w.aa) p<0/\t=⟨0,0⟩)):
 cn w.aa ⟨th,aO,k,p,t⟩=ZA true:=by
 have IS:=h.parts.1;have IV:=e9 w.aa;have AY:=h.fit.fv.aB;unfold cn;rw[h.fv];simp only[VE,dG,Yp (show 0<=aO by omega),(dF h.fit.fv).2,qw (show(ao w.aa).length<=4194304 by omega),Dl h.fit.fv h.fv]
 rcases hk with⟨rfl,rfl,h2,h3⟩ |⟨rfl,rfl,h2,h3⟩ |⟨rfl,h2,rfl⟩
 ·obtain⟨a1,a2,_⟩:=cT h.fit.fv h.fv h2
  grind
 ·obtain⟨a1,a2,_⟩:=cT h.fit.fv h.fv h2
  grind
 grind
theorem ZcU:∀s∈JG w aO,cn w.aa s=ZA ZC/\s.aO<=aO:=by
 have hlen:=h.parts.2.1;intro s hs
 rcases WD.1 hs with hs|hs
 ·obtain⟨j,o,ho,hj⟩:=zU hs
  have bO:=(VH.1 ho).1;have ji:=oU h.fit h.ok ho;rw[VY]at hj
  unfold gL at hj
  split at hj
  ·rename_i t ht
   have yU:=ji.aV t (VI ht)
   split at hj
   ·rcases VM.1 hj with rfl|hj
    ·exact⟨Ci h hn hm he YG (.inl ⟨rfl,rfl,yU,YG⟩),Wp _⟩
    ·split at hj
     ·rename_i hd
      obtain rfl:=V8.1 hj;have Sd:¬bd (ao w.aa) o.aX<0:=by
       have:=sw h.ok ho;unfold jd at this
       simp_all
      exact⟨Ci h hn hm he YG (.inr (.inr ⟨rfl,by simp_all,rfl⟩)),Wp _⟩
     simp_all
   grind
  grind
 ·obtain⟨j,o,ho,hj⟩:=zU hs
  have bO:=(VH.1 ho).1;rw[VX]at bO
  rw[VZ]at ho
  obtain⟨o0,ho0,rfl⟩:=VT.1 ho;have ji:=oU h.fit h.ok ho0;rw[VY]at hj
  unfold sI at hj
  split at hj
  ·rename_i t ht
   rw[(zg w.aa aO o0).aK]at ht
   have yU:=ji.aV t (VI ht)
   split at hj
   ·obtain rfl:=V8.1 hj
    exact⟨Ci h hn hm he YG (.inr (.inl ⟨rfl,rfl,yU,YG⟩)),Wp _⟩
   grind
  grind
theorem Mz{o:ay}(ho:w.ae[i]?=ZA o)(s:List bc)(m:Int):jd { w with ae:=w.ae.map (rF w.aa aO),now:=aO,aJ:=s,aT:=m} i (rF w.aa aO o)=true:=by
 have hv:=sw h.ok ho;have ji:=oU h.fit h.ok ho;have hl:=h.fit.aK o (VI ho);have hs:=xZ w.aa aO o;obtain⟨k1,k2,_⟩:=ZaE (h.aK ho) (h.state ho) hn (he o (VI ho));have xu:=(xY h.fit.fv h.fv k2.aN (by rw[hs.aK];omega) (by rw[hs.aK];exact ji.aV) aO).2 k1.ok
 have Kd:=UB (n:=w.aa) (aO:=aO) (o:=o);have Ew:=k2.aN;unfold jd at hv⊢
 simp only[VN,V7,YE]at hv⊢
 obtain⟨⟨⟨⟨⟨⟨⟨⟨⟨⟨⟨h1,h2⟩,h3⟩,h4⟩,h5⟩,h6⟩,h7⟩,h8⟩,h9⟩,Ge⟩,K0⟩,K1⟩:=hv;have PG:Gd w.aa (rF w.aa aO o)=Gd w.aa o:=by unfold Gd;rw[hs.aK,hs.ar]
 refine⟨⟨⟨⟨⟨⟨⟨⟨⟨⟨⟨?_,?_⟩,?_⟩,?_⟩,?_⟩,?_⟩,?_⟩,?_⟩,?_⟩,?_⟩,?_⟩,?_⟩
 ·rw[hs.ar];omega
 ·rw[hs.aX];omega
 ·rw[hs.ar,hs.aX];omega
 ·rw[hs.ax];omega
 ·rw[hs.ab];omega
 ·rw[hs.aO];omega
 ·rw[hs.ec];omega
 ·omega
 ·rw[hs.aK]
  refine(Sp λj x hx=>?_).trans h9
  unfold ya;simp only[hs.ab,hs.aX,hs.aK]
 ·simp only[PG,hs.aK,hs.ar,hs.aO];omega
 ·grind
 ·rw[hs.aK]
  exact Zee YG K1
theorem K5:tC (fK w aO):=by
 have hp:=h.parts;have hv:=h.ok;have Kj:=ID (skip:=w.skip) (JG w aO) (w.aJ,w.aT) (n:=w.aa) (aO:=aO) ⟨λs hs=>?_,hp.2.2.2.1,hp.2.2.2.2.2.1⟩ (ZcU h hn hm he)
 ·refine⟨⟨h.fit.fv,by simp only[fK,VX];omega,h.fit.aq,h.fit.ah,by have:=Kj.len;simp only[fK];omega,h.fit.skip,λo ho=>?_⟩,?_⟩
  ·simp only[fK,V6]at ho
   obtain⟨o0,ho0,rfl⟩:=ho;rw[(xZ w.aa aO o0).aK];exact h.fit.aK o0 ho0
  ·unfold gf at hv⊢
   simp at hv⊢
   obtain⟨⟨⟨⟨⟨⟨⟨⟨⟨⟨h1,h2⟩,h3⟩,h4⟩,h5⟩,h6⟩,h7⟩,h8⟩,h9⟩,Ge⟩,K0⟩:=hv;have hl:=Kj.len;have hmd:=Kj.aT;refine⟨⟨⟨⟨⟨⟨⟨⟨⟨⟨h1,?_⟩,?_⟩,h4⟩,?_⟩,h6⟩,?_⟩,h8⟩,?_⟩,?_⟩,?_⟩
   ·simp only[fK];omega
   ·simp only[fK,VX];omega
   ·simp only[fK];omega
   ·simp only[fK];omega
   ·refine cJ.2 λj s hj=>?_
    obtain⟨a,b⟩:=Kj.ZmS s (VI hj);show((cn w.aa s).getD ZD&&!decide (aO<s.aO))=ZC
    grind
   ·refine cJ.2 λj o hj=>?_
    simp only[fK,VZ]at hj
    obtain⟨o0,ho0,rfl⟩:=VT.1 hj;rw[VY];exact Mz h hn hm he ho0 _ _
   ·unfold E6 at K0⊢
    simp only[fK,List.foldl_map];rw[<-K0]
    congr 1
    funext a o
    rw[(xZ w.aa aO o).aK]
 ·have:=J1 h.fit h.ok hs
  grind
end
def tx(a:Int)(e:Option Int):Int:=match e with
 |some v=>if a<0\/v<a then v else a
 |none=>a
def fE(w:az):Int:=w.ae.foldl (λa o=>tx a (dW w.aa o)) (-1)
theorem Ep{n:ak}:∀(os:List ay) (a:Int),(∀o∈os,∀e,dW n o=ZA e->0<=e)->a<0\/0<=a->
 (os.foldl (λa o=>tx a (dW n o)) a=a/\a<0/\∀o∈os,dW n o=ZB)\/
 (0<=os.foldl (λa o=>tx a (dW n o)) a/\(os.foldl (λa o=>tx a (dW n o)) a=a\/∃o∈os,dW n o=ZA (os.foldl (λa o=>tx a (dW n o)) a))/\(0<=a->os.foldl (λa o=>tx a (dW n o)) a<=a)/\∀o∈os,∀e,dW n o=ZA e->os.foldl (λa o=>tx a (dW n o)) a<=e)
 | [],a,_,ha=>by
  rcases ha with ha|ha
  ·exact .inl ⟨rfl,ha,λo h=>by cases h⟩
  ·exact .inr ⟨ha,.inl rfl,λ_=>Wp _,λo h=>by cases h⟩
 |o::os,a,h,ha=>by
  simp only[List.foldl_cons];have h0:=h o Wc;have hs:=λx hx=>h x (V5 o hx)
  cases ho:dW n o with
  |none=>
   have e:tx a ZB=a:=rfl;rw[e]
   rcases Ep os a hs ha with⟨k1,k2,k3⟩ |⟨k1,k2,k3,k4⟩
   ·exact .inl ⟨k1,k2,λx hx=>by rcases VM.1 hx with rfl|hx
                                ·exact ho
                                ·exact k3 x hx⟩
   ·refine .inr ⟨k1,?_,k3,λx hx e he=>?_⟩
    ·rcases k2 with k2|⟨x,hx,k2⟩
     ·exact .inl k2
     ·exact .inr ⟨x,V5 _ hx,k2⟩
    ·rcases VM.1 hx with rfl|hx
     ·rw[ho]at he;cases he
     ·exact k4 x hx e he
  |some v=>
   have hv:=h0 v ho;have e:0<=tx a (ZA v)/\tx a (ZA v)<=v/\(0<=a->tx a (ZA v)<=a)/\(tx a (ZA v)=a\/tx a (ZA v)=v):=by
    unfold tx;simp only;split<;>omega
   obtain⟨e1,e2,e3,e4⟩:=e
   rcases Ep os (tx a (ZA v)) hs (.inr e1)with⟨k1,k2,k3⟩ |⟨k1,k2,k3,k4⟩
   ·omega
   ·have k3':=k3 e1
    refine .inr ⟨k1,?_,λha=>by have:=e3 ha;omega,λx hx e he=>?_⟩
    ·rcases k2 with k2|⟨x,hx,k2⟩
     ·rcases e4 with e4|e4
      ·exact .inl (by rw[k2,e4])
      ·exact .inr ⟨o,Wc,by rw[k2,e4,ho]⟩
     ·exact .inr ⟨x,V5 _ hx,k2⟩
    ·rcases VM.1 hx with rfl|hx
     ·rw[ho]at he;obtain rfl:=VG he;omega
     ·exact k4 x hx e he
theorem ZbC{o:ay}(h:Bj n o){e:Int}(he:dW n o=ZA e):0<=e/\e<=100000:=by
 unfold dW at he
 cases ht:o.aK[o.aN.toNat]? with
 |none=>rw[ht]at he;cases he
 |some t=>
  rw[ht]at he
  obtain⟨a,b,c⟩:=h.aV t (VI ht);simp only[Wo,VR]at he
  subst he
  split<;>omega
theorem AE{w:az}(h:tC w):(fE w=-1/\∀o∈w.ae,dW w.aa o=ZB)\/
 (w.now<fE w/\fE w<=100000/\(∃o∈w.ae,dW w.aa o=ZA (fE w))/\∀o∈w.ae,∀e,dW w.aa o=ZA e->fE w<=e):=by
 have hp:∀o∈w.ae,∀e,dW w.aa o=ZA e->0<=e/\e<=100000:=λo ho e he=>by
  obtain⟨i,hi,rfl⟩:=V2 ho;exact ZbC (h.aK (VF hi)) he
 rcases Ep w.ae (-1) (λo ho e he=>(hp o ho e he).1) (.inl YG)with⟨k1,_,k3⟩ |⟨k1,k2,_,k4⟩
 ·exact .inl ⟨k1,k3⟩
 ·rcases k2 with k2|⟨o,ho,k2⟩
  ·exact absurd k1 (by rw[k2];omega)
  ·refine .inr ⟨?_,(hp o ho _ k2).2,⟨o,ho,k2⟩,k4⟩
   obtain⟨i,hi,rfl⟩:=V2 ho;have hs:=tZ (h.state (VF hi)) (h.aK (VF hi)).aN;exact hs.next _ k2
theorem wU{w:az}(h:tC w)(hn:0<=fE w):tC (fK w (fE w))/\w.now<fE w/\fE w<=100000:=by
 rcases AE h with⟨k,_⟩ |⟨k1,k2,k3,k4⟩
 ·omega
 ·exact⟨K5 h YG k2 k4,k1,k2⟩
def qj(w:az):Nat:=(w.ae.map jg).sum
theorem Zgv{α:Type}{f g:α->Nat}:∀{l:List α},(∀x∈l,f x<=g x)->(∃x∈l,f x<g x)->(l.map f).sum<(l.map g).sum
 | [],_,⟨x,h,_⟩=>by cases h
 |a::l,h,⟨x,hx,bO⟩=>by
  have h1:=h a Wc;have h2:(l.map f).sum<=(l.map g).sum:=JU λx hx=>h x (V5 _ hx)
  simp only[Wh,WB]
  rcases VM.1 hx with rfl|hx
  ·omega
  ·have:=Zgv (λx hx=>h x (V5 _ hx)) ⟨x,hx,bO⟩
   omega
 where
 JU {α:Type} {f g:α->Nat}:∀{l:List α},(∀x∈l,f x<=g x)->(l.map f).sum<=(l.map g).sum
 | [],_=>VJ _
 |a::l,h=>by
  have h1:=h a Wc;have h2:=JU λx hx=>h x (V5 _ hx)
  simp only[Wh,WB];omega
theorem uz{w:az}(h:tC w)(hn:0<=fE w):qj (fK w (fE w))<qj w:=by
 rcases AE h with⟨k,_⟩ |⟨k1,k2,⟨o,ho,k3⟩,k4⟩
 ·omega
 ·have K9:∀x∈w.ae,jg (rF w.aa (fE w) x)<=jg x/\(dW w.aa x=ZA (fE w)->jg (rF w.aa (fE w) x)<jg x):=λx hx=>by
   obtain⟨i,hi,rfl⟩:=V2 hx;have lS:=VF hi;exact(ZaE (h.aK lS) (h.state lS) YG (k4 _ hx)).2.2
  unfold qj fK;simp only[List.map_map];exact Zgv (f:=jg∘rF w.aa (fE w)) (λx hx=>(K9 x hx).1) ⟨o,ho,(K9 o ho).2 k3⟩
def wK:Nat->az->Int->az
 |0,w,_=>w
 |k+1,w,u=>if fE w<0\/u<fE w then w else wK k (fK w (fE w)) u
theorem LZ{w:az}(h:tC w)(h0:qj w=0):fE w=-1:=by
 rcases AE h with⟨k,_⟩ |⟨k1,k2,⟨o,ho,k3⟩,k4⟩
 ·exact k
 ·exfalso
  have hz:jg o=0:=by
   unfold qj at h0
   have:=List.sum_eq_zero_iff_forall_eq_nat.1 h0 (jg o) (List.mem_map_of_mem ho);exact this
  obtain⟨i,hi,rfl⟩:=V2 ho;have lS:=VF hi;rw[Zc5 (h.aK lS) (h.state lS) hz]at k3
  cases k3
structure Cr(w w':az):Prop where
 aa:w'.aa=w.aa
 aq:w'.aq=w.aq
 ah:w'.ah=w.ah
 skip:w'.skip=w.skip
 len:w'.ae.length=w.ae.length
 ord:∀(i:Nat) (o o':ay),w.ae[i]?=ZA o->w'.ae[i]?=ZA o'->sC o o'
theorem Cr.refl(w:az):Cr w w:=⟨rfl,rfl,rfl,rfl,rfl,λi o o' h h'=>by rw[h]at h';obtain rfl:=VG h';exact .refl o⟩
theorem Cr.trans{a b c:az}(h:Cr a b)(k:Cr b c):Cr a c:=by
 refine⟨k.aa.trans h.aa,k.aq.trans h.aq,k.ah.trans h.ah,k.skip.trans h.skip,k.len.trans h.len,λi o o' h1 h2=>?_⟩
 have bO:=(VH.1 h1).1;have hb:b.ae[i]?=ZA (b.ae[i]'(by rw[h.len];exact bO)):=VF _
 exact(h.ord i o _ h1 hb).trans (k.ord i _ o' hb h2)
theorem PA(w:az)(aO:Int):Cr w (fK w aO):=by
 refine⟨rfl,rfl,rfl,rfl,by simp[fK],λi o o' h h'=>?_⟩
 simp only[fK,VZ,h,Wo,VR]at h'
 subst h';exact xZ _ _ o
theorem Zgg:∀(k:Nat) (w:az) (u:Int),tC w->qj w<=k->u<=100000->tC (wK k w u)/\(fE (wK k w u)<0\/u<fE (wK k w u))/\Cr w (wK k w u)/\(w.now<=u->(wK k w u).now<=u)
 |0,w,u,h,h0,hu=>⟨h,.inl (by have:=LZ h YG;show fE w<0;omega),.refl w,λh=>h⟩
 |k+1,w,u,h,h0,hu=>by
  unfold wK
  split
  ·rename_i hc
   exact⟨h,hc,.refl w,λh=>h⟩
  ·rename_i hc
   obtain⟨a,b,c⟩:=wU h YG;have ht:=uz h YG;obtain⟨r1,r2,r3,r4⟩:=Zgg k (fK w (fE w)) u a YG hu;exact⟨r1,r2,(PA w _).trans r3,λ_=>r4 (by show fE w<=u;omega)⟩
theorem JE:∀(k j:Nat) (w:az) (u:Int),tC w->qj w<=k->u<=100000->wK (k+j) w u=wK k w u
 |0,j,w,u,h,h0,hu=>by
  have:=LZ h YG
  cases j with
  |zero=>rfl
  |succ j=>show wK (0+j+1) w u=w
           unfold wK;rw[if_pos (.inl YG)]
 |k+1,j,w,u,h,h0,hu=>by
  rw[show k+1+j=(k+j)+1 by omega]
  unfold wK
  split
  ·rfl
  ·rename_i hc
   obtain⟨a,b,c⟩:=wU h YG;have ht:=uz h YG;exact JE k j _ u a YG hu
theorem ZiX{k j:Nat}{w:az}(h:tC w)(hk:qj w<=k)(hj:qj w<=j)(hu:u<=100000):wK k w u=wK j w u:=by
 obtain⟨a,rfl⟩:∃a,k=qj w+a:=⟨k-qj w,YG⟩;obtain⟨b,rfl⟩:∃b,j=qj w+b:=⟨j-qj w,YG⟩;rw[JE _ a w u h (VJ _) hu,JE _ b w u h (VJ _) hu]
theorem ZcV{w:az}(h:tC w)(hu:w.now<=u)(hm:u<=100000)(hn:fE w<0\/u<fE w):tC { w with now:=u}:=by
 have he:∀o∈w.ae,∀e,dW w.aa o=ZA e->u<e:=λo ho e he=>by
  rcases AE h with⟨_,k⟩ |⟨k1,_,_,k4⟩
  ·rw[k o ho]at he;cases he
  ·have:=k4 o ho e he
   have:=h.parts.1;omega
 have xu:∀o∈w.ae,rF w.aa u o=o:=λo ho=>by
  have Oi:=he o ho;have e1:ct w.aa u o=o:=by
   unfold ct
   cases ht:o.aK[o.aN.toNat]? with
   |none=>rfl
   |some t=>
    simp only;rw[if_neg];rintro⟨c1,c2⟩;have:=Oi u (by unfold dW;rw[ht];simp[c1,c2])
    omega
  unfold rF;rw[e1];unfold ph
  cases ht:o.aK[o.aN.toNat]? with
  |none=>rfl
  |some t=>
   simp only;rw[if_neg];rintro⟨c1,c2⟩;have:=Oi u (by unfold dW;rw[ht];simp[c1,c2])
   omega
 have ZbO:w.ae.map (rF w.aa u)=w.ae:=by
  conv=>rhs;rw[<-List.map_id w.ae]
  exact List.map_congr_left λo ho=>xu o ho
 have ji:=K5 h hu hm (λo ho e h'=>by have:=he o ho e h';omega)
 have hv:=h.ok;have hk:=ji.ok;refine⟨⟨h.fit.fv,h.fit.ae,h.fit.aq,h.fit.ah,h.fit.aJ,h.fit.skip,h.fit.aK⟩,?_⟩;unfold gf at hv hk⊢
 simp only[VN,V7,YE,YF]at hv hk⊢
 obtain⟨⟨⟨⟨⟨⟨⟨⟨⟨⟨h1,h2⟩,h3⟩,h4⟩,h5⟩,h6⟩,h7⟩,h8⟩,h9⟩,Ge⟩,K0⟩:=hv;obtain⟨⟨⟨⟨⟨⟨⟨⟨⟨⟨k1,k2⟩,k3⟩,k4⟩,k5⟩,k6⟩,k7⟩,k8⟩,k9⟩,k10⟩,k11⟩:=hk;refine⟨⟨⟨⟨⟨⟨⟨⟨⟨⟨h1,⟨YG,hm⟩⟩,h3⟩,h4⟩,h5⟩,h6⟩,h7⟩,h8⟩,?_⟩,?_⟩,K0⟩
 ·refine cJ.2 λj s hj=>?_
  have:=cJ.1 h9 j s hj;unfold By at this⊢
  simp only[VN,V7,YF]at this⊢
  exact⟨this.1,YG⟩
 ·refine cJ.2 λj o hj=>?_
  have yr:(fK w u).ae[j]?=ZA o:=by simp only[fK,ZbO];exact hj
  have:=cJ.1 k10 j o yr;have e:∀i,jd (fK w u) i o=jd { w with now:=u} i o:=λi=>rfl
  rw[<-e];exact this
def Ov(w:az)(u:Int):az:={ wK (qj w) w u with now:=u}
theorem ZjW{w:az}(h:tC w)(hu:w.now<=u)(hm:u<=100000):tC (Ov w u)/\Cr w (Ov w u)/\(fE (Ov w u)<0\/u<fE (Ov w u)):=by
 obtain⟨a,b,c,d⟩:=Zgg _ w u h (VJ _) hm;exact⟨ZcV a (d hu) hm b,⟨c.aa,c.aq,c.ah,c.skip,c.len,c.ord⟩,b⟩
def pr(o:ZI)(i:Int):Option Bool:=
 (aA o.aG i).bind λy1=>
 (aA o.world.ae i).bind λy2=>
 (gY o.aP o.aR y1).bind λy3=>
 cond y3.2
 (cond (ZE (y2.ar=y1.ar))
 (cond (ZE (y2.aX=y1.label.aX))
 (cond (ZE (y2.ax=y1.label.ax))
 (cond (ZE (y2.ab=y1.ab))
 ((eD o.lines (aH (i+1)) 1).bind λy4=>
 ZA (ZE (y4=y3.1)))
 (ZA ZD))
 (ZA ZD))
 (ZA ZD))
 (ZA ZD))
 (ZA ZD)
instance (o:ZI)(i:Int):CT prog (pr o i):=⟨133,[.ag (ZM o),vi i],[],λr=>vb r,λr=>[],cw (pr.eq_1 ..) func133 ntmps133 results133⟩
end Go.Proofs.YtbalgkakkoocjaaGreat
