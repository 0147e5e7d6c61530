/- A part of the proof of the statement in the last file of this claim: texts on the language of the program and on its functions. No condition. -/
import Derived.Test.YtmcdjilbkmhfoaaGreatCFnWorldKeeps5
import Derived.Test.YtmcdjilbkmhfoaaGreatCFnWorldKeeps4
import Derived.Sort.Walk0
namespace Go.Proofs.YtmcdjilbkmhfoaaGreat
set_option maxRecDepth 10000
open Go.RowKit
set_option linter.unusedVariables false
set_option linter.unusedSimpArgs false
def cmpI (a b:Int):Int:=if a<b then -1 else if b<a then 1 else 0
theorem Zve (a b:Int):Z9 a b=some (cmpI a b):=by
 unfold Z9 cmpI
 by_cases h:a<b
 ·simp [h]
 ·by_cases h2:b<a <;> simp [h,h2]
theorem Zx8 (x y z:Int):ZdW [x,y,z]=some (if x≠0 then x else if y≠0 then y else z):=by
 obtain ⟨k,hk⟩:∃ k,NN=k+1+1+1+1:=⟨1152921504606846972,by unfold NN; omega⟩
 unfold ZdW
 rw [hk]
 have w0:w64 1=1:=Zo (by omega)
 have w1:w64 2=2:=Zo (by omega)
 have w2:w64 3=3:=Zo (by omega)
 by_cases hx:x=0
 ·by_cases hy:y=0
  ·by_cases hz:z=0
   ·simp [Zj,ZY,ZK,getI,hx,hy,hz,w0,w1,w2]
   ·simp [Zj,ZY,ZK,getI,hx,hy,hz,w0,w1,w2]
  ·simp [Zj,ZY,ZK,getI,hx,hy,w0]
 ·simp [Zj,ZY,ZK,getI,hx]
def befB (a b:Zc):Bool:=if a.trip.day≠b.trip.day then decide (a.trip.day<b.trip.day) else if a.trip.leg≠b.trip.leg then decide (a.trip.leg<b.trip.leg) else decide (a.thing<b.thing)
theorem ZlT (a b:Zc):ZdO a b=some (befB a b):=by
 unfold ZdO befB
 by_cases h1:a.trip.day=b.trip.day
 ·by_cases h2:a.trip.leg=b.trip.leg <;> simp [h1,h2]
 ·simp [h1]
theorem ZmR (a b:Zc):∃ v,Za4 a b=some v∧decide (0≤v)=!befB a b:=by
 unfold Za4
 simp only [Zve,Option.bind_some,Zx8]
 refine ⟨_,rfl,?_⟩
 unfold befB cmpI
 rcases Int.lt_trichotomy a.trip.day b.trip.day with h1 | h1 | h1
 ·simp [h1,show a.trip.day≠b.trip.day by omega]
 ·rcases Int.lt_trichotomy a.trip.leg b.trip.leg with h2 | h2 | h2
  ·simp [h1,h2,show a.trip.leg≠b.trip.leg by omega]
  ·rcases Int.lt_trichotomy a.thing b.thing with h3 | h3 | h3
   ·simp [h1,h2,h3]
   ·simp [h1,h2,h3]
   ·simp [h1,h2,h3,show ¬ a.thing<b.thing by omega]
  ·simp [h1,h2,show a.trip.leg≠b.trip.leg by omega,show ¬ a.trip.leg<b.trip.leg by omega]
 ·simp [h1,show a.trip.day≠b.trip.day by omega,show ¬ a.trip.day<b.trip.day by omega]
theorem Zg1 {l:List Zc} (h:l.length≤1048576) (t:Ze):∃ v,Zap l t=some v:=by
 have hh:∃ o,Zj (Zal l t) NN (0,0)=some o:=by
  refine Zjz (fun k s=>∃ i:Nat,i+k=l.length∧s.2=(i:Int)) ?_ NN l.length (0,0) ⟨0,by omega,rfl⟩ (by unfold NN; omega)
  rintro k ⟨a,s⟩ ⟨i,hi,hs⟩
  simp only at hs
  subst hs
  rcases Nat.lt_or_ge i l.length with hlt | hge
  ·have hw:=ZR hlt (by omega)
   have hg:getI l (i:Int)=some l[i]:=by rw [Zn]; exact List.getElem?_eq_getElem hlt
   cases hc:decide (l[i].trip=t) with
   | true=>
    refine ⟨_,by simp only [Zal,decide_eq_true (show (i:Int)<l.length by omega),cond_true,hg,Option.bind_some,hc,hw]; rfl,?_⟩
    rintro s' e; cases e; exact ⟨k-1,by omega,i+1,by omega,rfl⟩
   | false=>
    refine ⟨_,by simp only [Zal,decide_eq_true (show (i:Int)<l.length by omega),cond_true,cond_false,hg,Option.bind_some,hc,hw]; rfl,?_⟩
    rintro s' e; cases e; exact ⟨k-1,by omega,i+1,by omega,rfl⟩
  ·have:i=l.length:=by omega
   subst this
   refine ⟨_,by simp only [Zal,decide_eq_false (show ¬ ((l.length:Int)<l.length) by omega),cond_false]; rfl,?_⟩
   rintro s' e; cases e
 obtain ⟨o,ho⟩:=hh
 exact ⟨o,by unfold Zap; rw [ho]; rfl⟩
theorem ZiD {n:Za} (h:Z0 n) {leg day:Int} (hr:ZX n leg day=some true):∃ y,getI n.legs leg=some y:=by
 have hl:=h.legs
 have hw:w64 ((n.legs.length:Int)-1)=n.legs.length-1:=Zo (by omega)
 unfold ZX at hr
 rw [hw,ZbH] at hr
 simp only [Option.bind_some] at hr
 by_cases h1:0≤leg∧leg≤(n.legs.length:Int)-1
 ·exact ⟨n.legs[leg.toNat]'(by omega),by unfold getI; rw [if_pos h1.1]; exact List.getElem?_eq_getElem _⟩
 ·rw [← Bool.decide_and,decide_eq_false h1] at hr
  cases hr
def bk1 (n:Za) (l:List Zc) (i:Nat):Bool:=match l[i]? with
 | none=>true
 | some y=>(ZX n y.trip.leg y.trip.day).getD false && (decide (1≤y.thing) && decide (y.thing≤9999)) && (decide (1≤y.weight) && decide (y.weight≤1000000)) && (decide (i=0) || match l[i-1]? with
  | none=>true
  | some x=>befB x y)
def bk2 (n:Za) (l:List Zc) (i:Nat):Bool:=match l[i]? with
 | none=>true
 | some y=>match getI n.legs y.trip.leg,Zap l y.trip with
  | some g,some v=>!decide (g.room<v)
  | _,_=>false
def ZZ (n:Za) (l:List Zc):Bool:=(Zi n).getD false && decide ((l.length:Int)≤120) && (List.range l.length).all fun i=>bk1 n l i && bk2 n l i
theorem Zcu {n:Za} (h:Z0 n) {l:List Zc} (hl:l.length≤1048576):ZaG n l=some (ZZ n l):=by
 obtain ⟨_,b,hb⟩:=Zb2 h
 unfold ZaG ZZ
 rw [hb]
 simp only [Option.bind_some,Option.getD_some]
 cases b with
 | false=>rfl
 | true=>
  by_cases h120:120<(l.length:Int)
  ·simp [h120,show ¬ ((l.length:Int)≤120) by omega]
  simp only [Bool.not_true,cond_false,decide_eq_false h120,decide_eq_true (show (l.length:Int)≤120 by omega),Bool.true_and]
  have e0:Zj (Zb6 n l) NN 0=some (if (List.range l.length).all (bk1 n l)=true then .inl () else .inr false):=by
   refine ZhG (fun i hi _=>?_) (fun _=>by simp [Zb6]) (by unfold NN; omega)
   have hw:=ZR hi (by omega)
   have hg:getI l (i:Int)=some l[i]:=by rw [Zn]; exact List.getElem?_eq_getElem hi
   obtain ⟨_,rb,hrb⟩:=Zf1 h l[i].trip.leg l[i].trip.day
   simp only [Zb6,decide_eq_true (show (i:Int)<l.length by omega),cond_true,hg,Option.bind_some,hrb,ZbH,bk1,List.getElem?_eq_getElem hi,Option.getD_some]
   cases rb with
   | false=>simp
   | true=>
    cases decide (1≤l[i].thing) && decide (l[i].thing≤9999) with
    | false=>simp
    | true=>
     cases decide (1≤l[i].weight) && decide (l[i].weight≤1000000) with
     | false=>simp
     | true=>
      by_cases hi0:i=0
      ·subst hi0
       have hw':w64 1=1:=Zo (by omega)
       simp [hw']
      ·have hw2:w64 ((i:Int)-1)=((i-1:Nat):Int):=by rw [Zo (by omega)]; omega
       have hg2:getI l ((i-1:Nat):Int)=some l[i-1]:=by rw [Zn]; exact List.getElem?_eq_getElem (by omega)
       simp only [decide_eq_true (show 0<(i:Int) by omega),hw2,hg2,Option.bind_some,ZlT,hw,List.getElem?_eq_getElem (show i-1<l.length by omega),decide_eq_false hi0,Bool.not_true,cond_false,cond_true,Bool.true_and,Bool.false_or]
       cases befB l[i-1] l[i] <;> rfl
  rw [e0]
  by_cases hall:(List.range l.length).all (bk1 n l)=true
  ·rw [if_pos hall]
   have e1:Zj (Zb7 n l) NN 0=some (if (List.range l.length).all (bk2 n l)=true then .inl () else .inr false):=by
    refine ZhG (fun i hi _=>?_) (fun _=>by simp [Zb7]) (by unfold NN; omega)
    have hw:=ZR hi (by omega)
    have hg:getI l (i:Int)=some l[i]:=by rw [Zn]; exact List.getElem?_eq_getElem hi
    obtain ⟨v,hv⟩:=Zg1 hl l[i].trip
    have hb1:=List.all_eq_true.1 hall i (List.mem_range.2 hi)
    obtain ⟨_,rb,hrb⟩:=Zf1 h l[i].trip.leg l[i].trip.day
    have hrt:rb=true:=by
     simp only [bk1,List.getElem?_eq_getElem hi,hrb,Option.getD_some,Bool.and_eq_true] at hb1
     exact hb1.1.1.1
    subst hrt
    obtain ⟨g,hgl⟩:=ZiD h hrb
    simp only [Zb7,decide_eq_true (show (i:Int)<l.length by omega),cond_true,hg,Option.bind_some,hv,hgl,bk2,List.getElem?_eq_getElem hi,hw]
    cases decide (g.room<v) <;> rfl
   simp only [Option.bind_some]
   rw [e1]
   have:(List.range l.length).all (fun i=>bk1 n l i && bk2 n l i)=(List.range l.length).all (bk2 n l):=by
    rw [Bool.eq_iff_iff,List.all_eq_true,List.all_eq_true]
    exact ⟨fun H i hi=>by have:=H i hi; simp only [Bool.and_eq_true] at this; exact this.2,fun H i hi=>by rw [List.all_eq_true.1 hall i hi,H i hi]; rfl⟩
   rw [this]
   cases (List.range l.length).all (bk2 n l) <;> rfl
  ·rw [if_neg hall]
   have:(List.range l.length).all (fun i=>bk1 n l i && bk2 n l i)=false:=by
    rw [Bool.eq_false_iff]
    intro H
    exact hall (List.all_eq_true.2 fun i hi=>by have:=List.all_eq_true.1 H i hi; simp only [Bool.and_eq_true] at this; exact this.1)
   rw [this]; rfl
theorem ZhF {n:Za} (h:Z0 n) (hn:Zi n=some true) (t:Ze):Zad n t=ZX n t.leg t.day:=by
 rw [(Zgl h t).1]
 unfold Zan Zdh
 rw [hn]
 obtain ⟨_,b,hb⟩:=Zf1 h t.leg t.day
 simp only [Option.bind_some,cond_true,hb]
theorem Zh5 {n:Za} (h:Z0 n) {l:List Zc} (hl:l.length≤1048576):Zcd n l=some (ZZ n l):=by
 obtain ⟨en,b,hb⟩:=Zb2 h
 unfold Zcd ZZ
 rw [en,hb]
 simp only [Option.bind_some,Option.getD_some]
 cases b with
 | false=>rfl
 | true=>
  by_cases h120:120<(l.length:Int)
  ·simp [h120,show ¬ ((l.length:Int)≤120) by omega]
  simp only [Bool.not_true,cond_false,decide_eq_false h120,decide_eq_true (show (l.length:Int)≤120 by omega),Bool.true_and]
  have e0:Zj (Zbk n l) NN 0=some (if (List.range l.length).all (fun i=>bk1 n l i && bk2 n l i)=true then .inl () else .inr false):=by
   refine ZhG (fun i hi _=>?_) (fun _=>by simp [Zbk]) (by unfold NN; omega)
   have hw:=ZR hi (by omega)
   have hg:getI l (i:Int)=some l[i]:=by rw [Zn]; exact List.getElem?_eq_getElem hi
   obtain ⟨_,rb,hrb⟩:=Zf1 h l[i].trip.leg l[i].trip.day
   have ht:=ZhF h hb l[i].trip
   rw [hrb] at ht
   obtain ⟨v,hv⟩:=Zg1 hl l[i].trip
   have hrest:∀ {X:Option (Int ⊕ (Unit ⊕ Bool))} {pre:Bool},pre=(decide (i=0) || match l[i-1]? with
    | none=>true
    | some x=>befB x l[i])→
    X=(cond (!pre) (some (.inr (.inr false))) ((some rb).bind fun y10=>cond (!y10) (some (.inr (.inr false))) ((ZJ l[i].thing 1 9999).bind fun y11=>cond (!y11) (some (.inr (.inr false))) ((ZJ l[i].weight 1 1000000).bind fun y12=>cond (!y12) (some (.inr (.inr false))) ((some v).bind fun y13=>(getI n.legs l[i].trip.leg).bind fun y14=>cond (decide (y14.room<y13)) (some (.inr (.inr false))) (some (.inl ((i+1:Nat):Int))))))))→
    X=some (if (bk1 n l i && bk2 n l i)=true then .inl ((i+1:Nat):Int) else .inr (.inr false)):=by
    rintro X pre hpre rfl
    simp only [bk1,bk2,List.getElem?_eq_getElem hi,hrb,hv,Option.getD_some,ZbH,Option.bind_some,← hpre]
    cases pre with
    | false=>simp
    | true=>
     cases rb with
     | false=>simp
     | true=>
      obtain ⟨g,hgl⟩:=ZiD h hrb
      simp only [hgl,Option.bind_some]
      cases decide (1≤l[i].thing) && decide (l[i].thing≤9999) with
      | false=>simp
      | true=>
       cases decide (1≤l[i].weight) && decide (l[i].weight≤1000000) with
       | false=>simp
       | true=>cases decide (g.room<v) <;> simp
   by_cases hi0:i=0
   ·refine hrest (pre:=true) (by simp [hi0]) ?_
    simp only [Zbk,decide_eq_true (show (i:Int)<l.length by omega),decide_eq_false (show ¬ 0<(i:Int) by omega),cond_true,cond_false,hg,Option.bind_some,ht,Zej,Zis,hv,hw,Bool.not_true]
   ·have hw2:w64 ((i:Int)-1)=((i-1:Nat):Int):=by rw [Zo (by omega)]; omega
    have hg2:getI l ((i-1:Nat):Int)=some l[i-1]:=by rw [Zn]; exact List.getElem?_eq_getElem (by omega)
    obtain ⟨cv,hcv,hc0⟩:=ZmR l[i-1] l[i]
    refine hrest (pre:=befB l[i-1] l[i]) (by simp [hi0,List.getElem?_eq_getElem (show i-1<l.length by omega)]) ?_
    simp only [Zbk,decide_eq_true (show (i:Int)<l.length by omega),decide_eq_true (show 0<(i:Int) by omega),cond_true,cond_false,hg,hw2,hg2,hcv,hc0,Option.bind_some,ht,Zej,Zis,hv,hw]
  rw [e0]
  cases (List.range l.length).all (fun i=>bk1 n l i && bk2 n l i) <;> rfl
set_option maxHeartbeats 16000000
def Ze6 (w:Zd) (o:Zf):Option Bool:=
 cond (decide (0<o.gone))
 ((getI o.way (w64 (o.gone-1))).bind fun y1=>
 (ZO w.network y1).bind fun y2=>
 cond (decide (w.now<y2))
 (some false)
 ((getI w.network.legs y1.leg).bind fun y3=>
 cond (decide (o.state=1))
 (cond (decide (o.place=y3.to_))
 (cond (!decide (y3.to_=o.to_))
 (cond (decide (o.ended=0))
 (cond (decide (o.gone=(o.way.length:Int)))
 (some true)
 ((getI o.way o.gone).bind fun y4=>
 (ZH w.network y4).bind fun y5=>
 some (decide (w.now<y5))))
 (some false))
 (some false))
 (some false))
 (cond (decide (o.state=2))
 (cond (decide (o.place=⟨#[]⟩))
 (cond (decide (o.ended=0))
 (cond (decide (o.gone<(o.way.length:Int)))
 ((getI o.way o.gone).bind fun y6=>
 (ZH w.network y6).bind fun y7=>
 cond (decide (y7≤w.now))
 ((getI o.way o.gone).bind fun y8=>
 (ZO w.network y8).bind fun y9=>
 some (decide (w.now<y9)))
 (some false))
 (some false))
 (some false))
 (some false))
 (cond (decide (o.state=3))
 (cond (decide (o.gone=(o.way.length:Int)))
 (cond (decide (0<o.gone))
 (cond (decide (o.place=o.to_))
 (cond (decide (y3.to_=o.to_))
 ((getI o.way (w64 (o.gone-1))).bind fun y10=>
 (ZO w.network y10).bind fun y11=>
 some (decide (o.ended=y11)))
 (some false))
 (some false))
 (some false))
 (some false))
 (some false)))))
 (cond (decide (o.state=1))
 (cond (decide (o.place=o.from_))
 (cond (!decide (o.from_=o.to_))
 (cond (decide (o.ended=0))
 (cond (decide (o.gone=(o.way.length:Int)))
 (some true)
 ((getI o.way o.gone).bind fun y12=>
 (ZH w.network y12).bind fun y13=>
 some (decide (w.now<y13))))
 (some false))
 (some false))
 (some false))
 (cond (decide (o.state=2))
 (cond (decide (o.place=⟨#[]⟩))
 (cond (decide (o.ended=0))
 (cond (decide (o.gone<(o.way.length:Int)))
 ((getI o.way o.gone).bind fun y14=>
 (ZH w.network y14).bind fun y15=>
 cond (decide (y15≤w.now))
 ((getI o.way o.gone).bind fun y16=>
 (ZO w.network y16).bind fun y17=>
 some (decide (w.now<y17)))
 (some false))
 (some false))
 (some false))
 (some false))
 (cond (decide (o.state=3))
 (cond (decide (o.gone=(o.way.length:Int)))
 (cond (decide (0<o.gone))
 (cond (decide (o.place=o.to_))
 (cond (decide (o.from_=o.to_))
 ((getI o.way (w64 (o.gone-1))).bind fun y18=>
 (ZO w.network y18).bind fun y19=>
 some (decide (o.ended=y19)))
 (some false))
 (some false))
 (some false))
 (some false))
 (some false))))
instance (w:Zd) (o:Zf):CT Tryz.prog (Ze6 w o):=⟨209,[.ag (Zbt w),.ag (Zw o)],[],fun r=>vb r,fun r=>[],fun H=>by replace H:=H0 H; unfold Ze6 at H; exact Zh Tryz.func209 rfl Tryz.ntmps209 Tryz.results209 fun Q hQ hQn=>wk3⟩
def ZC (n:Za) (x:Zf) (now:Int):Option Bool:=
 cond (decide (0<x.gone))
 ((getI x.way (w64 (x.gone-1))).bind fun y1=>
 (getI n.legs y1.leg).bind fun y2=>
 (getI x.way (w64 (x.gone-1))).bind fun y3=>
 (Zq n y3).bind fun y4=>
 cond (decide (now<y4))
 (some false)
 (cond (decide (x.state=1))
 (cond (decide (x.place=y2.to_))
 (cond (!decide (y2.to_=x.to_))
 (cond (decide (x.ended=0))
 (cond (decide (x.gone=(x.way.length:Int)))
 (some true)
 ((getI x.way x.gone).bind fun y5=>
 (Zp n y5).bind fun y6=>
 some (decide (now<y6))))
 (some false))
 (some false))
 (some false))
 (cond (decide (x.state=2))
 (cond (decide (x.place=⟨#[]⟩))
 (cond (decide (x.ended=0))
 (cond (decide (x.gone<(x.way.length:Int)))
 ((getI x.way x.gone).bind fun y7=>
 (Zp n y7).bind fun y8=>
 cond (decide (y8≤now))
 ((getI x.way x.gone).bind fun y9=>
 (Zq n y9).bind fun y10=>
 some (decide (now<y10)))
 (some false))
 (some false))
 (some false))
 (some false))
 (cond (decide (x.state=3))
 (cond (decide (x.place=x.to_))
 (cond (decide (y2.to_=x.to_))
 (cond (decide (x.gone=(x.way.length:Int)))
 (cond (decide (0<x.gone))
 ((getI x.way (w64 (x.gone-1))).bind fun y11=>
 (Zq n y11).bind fun y12=>
 some (decide (x.ended=y12)))
 (some false))
 (some false))
 (some false))
 (some false))
 (some false)))))
 (cond (decide (x.state=1))
 (cond (decide (x.place=x.from_))
 (cond (!decide (x.from_=x.to_))
 (cond (decide (x.ended=0))
 (cond (decide (x.gone=(x.way.length:Int)))
 (some true)
 ((getI x.way x.gone).bind fun y13=>
 (Zp n y13).bind fun y14=>
 some (decide (now<y14))))
 (some false))
 (some false))
 (some false))
 (cond (decide (x.state=2))
 (cond (decide (x.place=⟨#[]⟩))
 (cond (decide (x.ended=0))
 (cond (decide (x.gone<(x.way.length:Int)))
 ((getI x.way x.gone).bind fun y15=>
 (Zp n y15).bind fun y16=>
 cond (decide (y16≤now))
 ((getI x.way x.gone).bind fun y17=>
 (Zq n y17).bind fun y18=>
 some (decide (now<y18)))
 (some false))
 (some false))
 (some false))
 (some false))
 (cond (decide (x.state=3))
 (cond (decide (x.place=x.to_))
 (cond (decide (x.from_=x.to_))
 (cond (decide (x.gone=(x.way.length:Int)))
 (cond (decide (0<x.gone))
 ((getI x.way (w64 (x.gone-1))).bind fun y19=>
 (Zq n y19).bind fun y20=>
 some (decide (x.ended=y20)))
 (some false))
 (some false))
 (some false))
 (some false))
 (some false))))
instance (n:Za) (x:Zf) (now:Int):CT Tryz.prog (ZC n x now):=⟨188,[.ag (Zr n),.ag (Zw x),vi now],[],fun r=>vb r,fun r=>[],fun H=>by replace H:=H0 H; unfold ZC at H; exact Zh Tryz.func188 rfl Tryz.ntmps188 Tryz.results188 fun Q hQ hQn=>wk3⟩
def ZbY (o:Zf):Option Int:=
 cond (decide (o.state=2))
 (some (if (o.way.length:Int)<(w64 (o.gone+1)) then (o.way.length:Int) else (w64 (o.gone+1))))
 (some o.gone)
instance (o:Zf):CT Tryz.prog (ZbY o):=⟨127,[.ag (Zw o)],[],fun r=>vi r,fun r=>[],fun H=>by replace H:=H0 H; unfold ZbY at H; exact Zh Tryz.func127 rfl Tryz.ntmps127 Tryz.results127 fun Q hQ hQn=>wk3⟩
def Zez (w:Zd) (o:Zf):Option ByteArray:=
 cond (decide (o.state=2))
 ((getI o.way o.gone).bind fun y1=>
 (getI w.network.legs y1.leg).bind fun y2=>
 some y2.to_)
 (some o.place)
instance (w:Zd) (o:Zf):CT Tryz.prog (Zez w o):=⟨189,[.ag (Zbt w),.ag (Zw o)],[],fun r=>vs r,fun r=>[],fun H=>by replace H:=H0 H; unfold Zez at H; exact Zh Tryz.func189 rfl Tryz.ntmps189 Tryz.results189 fun Q hQ hQn=>wk3⟩
def Zbl (w:Zd) (o:Zf):Option Bool:=
 cond (!decide (o.state=3))
 ((ZbY o).bind fun y1=>
 cond (decide (y1=(o.way.length:Int)))
 ((Zez w o).bind fun y2=>
 some (!decide (y2=o.to_)))
 (some false))
 (some false)
instance (w:Zd) (o:Zf):CT Tryz.prog (Zbl w o):=⟨120,[.ag (Zbt w),.ag (Zw o)],[],fun r=>vb r,fun r=>[],fun H=>by replace H:=H0 H; unfold Zbl at H; exact Zh Tryz.func120 rfl Tryz.ntmps120 Tryz.results120 fun Q hQ hQn=>wk3⟩
def ZaS (x:Zf):Option Int:=
 cond (decide (x.state=2))
 (some (w64 (x.gone+1)))
 (some x.gone)
instance (x:Zf):CT Tryz.prog (ZaS x):=⟨122,[.ag (Zw x)],[],fun r=>vi r,fun r=>[],fun H=>by replace H:=H0 H; unfold ZaS at H; exact Zh Tryz.func122 rfl Tryz.ntmps122 Tryz.results122 fun Q hQ hQn=>wk3⟩
def ZaT (n:Za) (x:Zf):Option ByteArray:=
 cond (decide (x.state=2))
 ((getI x.way x.gone).bind fun y1=>
 (getI n.legs y1.leg).bind fun y2=>
 some y2.to_)
 (some x.place)
instance (n:Za) (x:Zf):CT Tryz.prog (ZaT n x):=⟨192,[.ag (Zr n),.ag (Zw x)],[],fun r=>vs r,fun r=>[],fun H=>by replace H:=H0 H; unfold ZaT at H; exact Zh Tryz.func192 rfl Tryz.ntmps192 Tryz.results192 fun Q hQ hQn=>wk3⟩
def Zcq (w:Zd) (i:Int):Option Bool:=
 (getI w.orders i).bind fun y1=>
 cond (!decide (y1.state=3))
 ((ZaS y1).bind fun y2=>
 cond (decide (y2=(y1.way.length:Int)))
 ((ZaT w.network y1).bind fun y3=>
 some (!decide (y3=y1.to_)))
 (some false))
 (some false)
instance (w:Zd) (i:Int):CT Tryz.prog (Zcq w i):=⟨194,[.ag (Zbt w),vi i],[],fun r=>vb r,fun r=>[],fun H=>by replace H:=H0 H; unfold Zcq at H; exact Zh Tryz.func194 rfl Tryz.ntmps194 Tryz.results194 fun Q hQ hQn=>wk3⟩
def ZgL (places:List ByteArray) (s:ByteArray) (s0:Int):Option (Int ⊕ (Unit ⊕ Int)):=
 cond (decide (s0<(places.length:Int)))
 ((getI places s0).bind fun y1=>
 cond (decide (y1=s))
 (some (.inr (.inr s0)))
 (some (.inl (w64 (s0+1)))))
 (some (.inr (.inl ())))
instance (places:List ByteArray) (s:ByteArray):ZP (ZgL places s):=⟨fun s0=>(.un::vs s::(U 5 (.sl (places.map cStr)::vi (places.length:Int)::vi s0::(U 9 [])))),fun s0=>[]⟩
def Zz (places:List ByteArray) (s:ByteArray):Option Int:=
 (Zj (ZgL places s) NN 0).bind (ZY (fun o0=>
 some (-1)) (fun r=>some r))
instance (places:List ByteArray) (s:ByteArray):CT Tryz.prog (Zz places s):=⟨205,[.sl (places.map cStr),vs s],[],fun r=>vi r,fun r=>[],fun H=>by replace H:=H0 H; unfold Zz at H; exact Zh Tryz.func205 rfl Tryz.ntmps205 Tryz.results205 fun Q hQ hQn=>wk3⟩
def ZeQ (l:List ByteArray) (p:ByteArray) (s0:Int):Option (Int ⊕ (Unit ⊕ Int)):=
 cond (decide (s0<(l.length:Int)))
 ((getI l s0).bind fun y1=>
 cond (decide (y1=p))
 (some (.inr (.inr s0)))
 (some (.inl (w64 (s0+1)))))
 (some (.inr (.inl ())))
instance (l:List ByteArray) (p:ByteArray):ZP (ZeQ l p):=⟨fun s0=>(.sl (l.map cStr)::vs p::(U 3 (vi s0::(U 13 [])))),fun s0=>[]⟩
def ZG (l:List ByteArray) (p:ByteArray):Option Int:=
 (Zj (ZeQ l p) NN 0).bind (ZY (fun o0=>
 some (-1)) (fun r=>some r))
instance (l:List ByteArray) (p:ByteArray):CT Tryz.prog (ZG l p):=⟨185,[.sl (l.map cStr),vs p],[],fun r=>vi r,fun r=>[],fun H=>by replace H:=H0 H; unfold ZG at H; exact Zh Tryz.func185 rfl Tryz.ntmps185 Tryz.results185 fun Q hQ hQn=>wk3⟩
theorem ZdT:@Zz=@ZG:=rfl
theorem Zr3 (w:Zd) (o:Zf):Zez w o=ZaT w.network o:=rfl
theorem ZrO {n:Za} {t:Ze} (h:getI n.legs t.leg=none):Zq n t=none:=by
 unfold Zq Zp; rw [h]; rfl
theorem Zfr {n:Za} {t:Ze} {y:YLeg} (h:getI n.legs t.leg=some y):∃ v,Zq n t=some v:=by
 unfold Zq Zp; rw [h]; exact ⟨_,rfl⟩
theorem Zu2 (w:Zd) (o:Zf):Ze6 w o=ZC w.network o w.now:=by
 unfold Ze6 ZC
 rw [ZfG,Zei]
 cases decide (0<o.gone) with
 | false=>
  simp only [cond_false]
  cases decide (o.state=1) <;> cases decide (o.state=2) <;> cases decide (o.state=3) <;> try rfl
  all_goals cases decide (o.gone=(o.way.length:Int)) <;> cases decide (o.place=o.to_) <;> cases decide (o.from_=o.to_) <;> rfl
 | true=>
  simp only [cond_true]
  cases hg:getI o.way (w64 (o.gone-1)) with
  | none=>rfl
  | some y1=>
   simp only [Option.bind_some,hg]
   cases hl:getI w.network.legs y1.leg with
   | none=>rw [ZrO hl]; rfl
   | some y2=>
    obtain ⟨v,hv⟩:=Zfr hl
    simp only [hv,Option.bind_some]
    cases decide (w.now<v) <;> try rfl
    simp only [cond_false]
    cases decide (o.state=1) <;> cases decide (o.state=2) <;> cases decide (o.state=3) <;> try rfl
    all_goals cases decide (o.gone=(o.way.length:Int)) <;> cases decide (o.place=o.to_) <;> cases decide (y2.to_=o.to_) <;> rfl
def Zfz (n:Za) (s0:Int × (List ByteArray)) (y2:YLeg) (s1:Int):Option (Int ⊕ Int):=
 cond (decide (s1<(s0.2.length:Int)))
 ((getI s0.2 s1).bind fun y3=>
 cond (sLt y3 y2.to_)
 (some (.inl (w64 (s1+1))))
 (some (.inr s1)))
 (some (.inr s1))
instance (n:Za) (s0:Int × (List ByteArray)) (y2:YLeg):ZP (Zfz n s0 y2):=⟨fun s1=>(.un::.be 0 0 0::.un::.ms 1::vi s0.1::vs y2.to_::vi s1::(U 65 [])),fun s1=>[some ⟨35,3,[[.sl (n.legs.map cLeg),.sl (n.off.map cInt),vi n.change]]⟩,some ⟨9,1,s0.2.map cStr⟩]⟩
def ZfA (n:Za) (s0:Int × (List ByteArray)) (y1:YLeg) (s2:Int):Option (Int ⊕ Int):=
 cond (decide (s2<(s0.2.length:Int)))
 ((getI s0.2 s2).bind fun y5=>
 cond (sLt y5 y1.from_)
 (some (.inl (w64 (s2+1))))
 (some (.inr s2)))
 (some (.inr s2))
instance (n:Za) (s0:Int × (List ByteArray)) (y1:YLeg):ZP (ZfA n s0 y1):=⟨fun s2=>(.un::.be 0 0 0::.un::.ms 1::vi s0.1::vs y1.from_::vi s2::(U 65 [])),fun s2=>[some ⟨35,3,[[.sl (n.legs.map cLeg),.sl (n.off.map cInt),vi n.change]]⟩,some ⟨9,1,s0.2.map cStr⟩]⟩
def Zco (n:Za) (s0:Int × (List ByteArray)):Option ((Int × (List ByteArray)) ⊕ (List ByteArray)):=
 cond (decide (s0.1<(w64 (2*(n.legs.length:Int)))))
 ((getI n.legs (IntKind.i64.wrap (Int.tdiv s0.1 2))).bind fun y1=>
 cond (decide ((Int.tmod s0.1 2)=1))
 ((getI n.legs (IntKind.i64.wrap (Int.tdiv s0.1 2))).bind fun y2=>
 (Zj (Zfz n s0 y2) NN 0).bind (fun o1=>
 cond (decide (o1=(s0.2.length:Int)))
 ((chk (slOk 0 o1 s0.2.length)).bind fun _=>
 (chk (ZQ ((([]:List ByteArray):List ByteArray).length+((subL s0.2 0 o1):List ByteArray).length) 16)).bind fun _=>
 (chk (ZQ ((((([]:List ByteArray):List ByteArray)++(subL s0.2 0 o1)):List ByteArray).length+([y2.to_]:List ByteArray).length) 16)).bind fun _=>
 (chk (slOk o1 (s0.2.length:Int) s0.2.length)).bind fun _=>
 (chk (ZQ ((((((([]:List ByteArray):List ByteArray)++(subL s0.2 0 o1)):List ByteArray)++[y2.to_]):List ByteArray).length+((subL s0.2 o1 (s0.2.length:Int)):List ByteArray).length) 16)).bind fun _=>
 some (.inl ((w64 (s0.1+1)),((((((([]:List ByteArray):List ByteArray)++(subL s0.2 0 o1)):List ByteArray)++[y2.to_]):List ByteArray)++(subL s0.2 o1 (s0.2.length:Int))))))
 ((getI s0.2 o1).bind fun y4=>
 cond (!decide (y4=y2.to_))
 ((chk (slOk 0 o1 s0.2.length)).bind fun _=>
 (chk (ZQ ((([]:List ByteArray):List ByteArray).length+((subL s0.2 0 o1):List ByteArray).length) 16)).bind fun _=>
 (chk (ZQ ((((([]:List ByteArray):List ByteArray)++(subL s0.2 0 o1)):List ByteArray).length+([y2.to_]:List ByteArray).length) 16)).bind fun _=>
 (chk (slOk o1 (s0.2.length:Int) s0.2.length)).bind fun _=>
 (chk (ZQ ((((((([]:List ByteArray):List ByteArray)++(subL s0.2 0 o1)):List ByteArray)++[y2.to_]):List ByteArray).length+((subL s0.2 o1 (s0.2.length:Int)):List ByteArray).length) 16)).bind fun _=>
 some (.inl ((w64 (s0.1+1)),((((((([]:List ByteArray):List ByteArray)++(subL s0.2 0 o1)):List ByteArray)++[y2.to_]):List ByteArray)++(subL s0.2 o1 (s0.2.length:Int))))))
 (some (.inl ((w64 (s0.1+1)),s0.2))))))
 ((Zj (ZfA n s0 y1) NN 0).bind (fun o2=>
 cond (decide (o2=(s0.2.length:Int)))
 ((chk (slOk 0 o2 s0.2.length)).bind fun _=>
 (chk (ZQ ((([]:List ByteArray):List ByteArray).length+((subL s0.2 0 o2):List ByteArray).length) 16)).bind fun _=>
 (chk (ZQ ((((([]:List ByteArray):List ByteArray)++(subL s0.2 0 o2)):List ByteArray).length+([y1.from_]:List ByteArray).length) 16)).bind fun _=>
 (chk (slOk o2 (s0.2.length:Int) s0.2.length)).bind fun _=>
 (chk (ZQ ((((((([]:List ByteArray):List ByteArray)++(subL s0.2 0 o2)):List ByteArray)++[y1.from_]):List ByteArray).length+((subL s0.2 o2 (s0.2.length:Int)):List ByteArray).length) 16)).bind fun _=>
 some (.inl ((w64 (s0.1+1)),((((((([]:List ByteArray):List ByteArray)++(subL s0.2 0 o2)):List ByteArray)++[y1.from_]):List ByteArray)++(subL s0.2 o2 (s0.2.length:Int))))))
 ((getI s0.2 o2).bind fun y6=>
 cond (!decide (y6=y1.from_))
 ((chk (slOk 0 o2 s0.2.length)).bind fun _=>
 (chk (ZQ ((([]:List ByteArray):List ByteArray).length+((subL s0.2 0 o2):List ByteArray).length) 16)).bind fun _=>
 (chk (ZQ ((((([]:List ByteArray):List ByteArray)++(subL s0.2 0 o2)):List ByteArray).length+([y1.from_]:List ByteArray).length) 16)).bind fun _=>
 (chk (slOk o2 (s0.2.length:Int) s0.2.length)).bind fun _=>
 (chk (ZQ ((((((([]:List ByteArray):List ByteArray)++(subL s0.2 0 o2)):List ByteArray)++[y1.from_]):List ByteArray).length+((subL s0.2 o2 (s0.2.length:Int)):List ByteArray).length) 16)).bind fun _=>
 some (.inl ((w64 (s0.1+1)),((((((([]:List ByteArray):List ByteArray)++(subL s0.2 0 o2)):List ByteArray)++[y1.from_]):List ByteArray)++(subL s0.2 o2 (s0.2.length:Int))))))
 (some (.inl ((w64 (s0.1+1)),s0.2)))))))
 (some (.inr s0.2))
instance (n:Za):ZP (Zco n):=⟨fun s0=>(.un::.be 0 0 0::.un::.ms 1::vi s0.1::(U 67 [])),fun s0=>[some ⟨35,3,[[.sl (n.legs.map cLeg),.sl (n.off.map cInt),vi n.change]]⟩,some ⟨9,1,s0.2.map cStr⟩]⟩
def Z5 (n:Za):Option (List ByteArray):=
 (Zj (Zco n) NN (0,([]:List ByteArray))).bind (fun o0=>
 some o0)
instance (n:Za):CT Tryz.prog (Z5 n):=⟨49,[.ag (Zr n)],[],fun r=>.ms 0,fun r=>[some ⟨9,1,r.map cStr⟩],fun H=>by replace H:=H0 H; unfold Z5 at H; exact Zh Tryz.func49 rfl Tryz.ntmps49 Tryz.results49 fun Q hQ hQn=>wk3⟩
theorem ZnH {α:Type} {r:α→α→Prop} (irr:∀ a,¬ r a a) (asy:∀ a b,r a b→¬ r b a):∀ {l1 l2:List α},l1.Pairwise r→l2.Pairwise r→(∀ x,x∈l1↔x∈l2)→l1=l2
 | [],[],_,_,_=>rfl
 | [],b::l2,_,_,h=>absurd ((h b).2 (List.mem_cons_self ..)) (by simp)
 | a::l1,[],_,_,h=>absurd ((h a).1 (List.mem_cons_self ..)) (by simp)
 | a::l1,b::l2,h1,h2,h=>by
  rw [List.pairwise_cons] at h1 h2
  have hab:a=b:=by
   rcases List.mem_cons.1 ((h a).1 (List.mem_cons_self ..)) with e | e
   ·exact e
   ·rcases List.mem_cons.1 ((h b).2 (List.mem_cons_self ..)) with e' | e'
    ·exact e'.symm
    ·exact absurd (h1.1 b e') (asy _ _ (h2.1 a e))
  subst hab
  congr 1
  refine ZnH irr asy h1.2 h2.2 fun x=>⟨fun hx=>?_,fun hx=>?_⟩
  ·rcases List.mem_cons.1 ((h x).1 (List.mem_cons_of_mem _ hx)) with e | e
   ·subst e; exact absurd (h1.1 x hx) (irr x)
   ·exact e
  ·rcases List.mem_cons.1 ((h x).2 (List.mem_cons_of_mem _ hx)) with e | e
   ·subst e; exact absurd (h2.1 x hx) (irr x)
   ·exact e
theorem ZkF (a b:ByteArray):sLt a b=true↔a.data.toList<b.data.toList:=by
 unfold sLt; rw [Go.Proofs.bytesLess_eq,ByteArray.toList_eq,ByteArray.toList_eq,decide_eq_true_iff]
theorem ZmF {a b:ByteArray} (h:a.data.toList=b.data.toList):a=b:=by
 obtain ⟨⟨x⟩⟩:=a; obtain ⟨⟨y⟩⟩:=b; simpa using h
theorem Zs4 (a:ByteArray):¬ sLt a a=true:=by rw [ZkF]; exact List.lt_irrefl _
theorem ZyA (a b:ByteArray) (h:sLt a b=true):¬ sLt b a=true:=by rw [ZkF] at *; exact List.lt_asymm h
theorem ZyB {a b c:ByteArray} (h:sLt a b=true) (h':sLt b c=true):sLt a c=true:=by rw [ZkF] at *; exact List.lt_trans h h'
theorem Zw7 {a b:ByteArray} (h:¬ sLt a b=true) (hn:a≠b):sLt b a=true:=by
 rw [ZkF] at *
 rcases List.le_total a.data.toList b.data.toList with e | e
 ·rcases (List.le_iff_lt_or_eq.1 e) with e' | e'
  ·exact absurd e' h
  ·exact absurd (ZmF e') hn
 ·rcases (List.le_iff_lt_or_eq.1 e) with e' | e'
  ·exact e'
  ·exact absurd (ZmF e'.symm) hn
def insS:List ByteArray→ByteArray→List ByteArray
 | [],p=>[p]
 | x::xs,p=>if sLt x p=true then x::insS xs p else if x=p then x::xs else p::x::xs
theorem Zl5 {p y:ByteArray}:∀ {xs:List ByteArray},y∈insS xs p↔y=p∨y∈xs
 | []=>by simp [insS]
 | x::xs=>by
  unfold insS
  split
  ·rw [List.mem_cons,Zl5,List.mem_cons]; grind
  ·split
   ·rename_i h; subst h; simp
   ·simp
theorem Zkl {p:ByteArray}:∀ {xs:List ByteArray},xs.Pairwise (fun a b=>sLt a b=true)→(insS xs p).Pairwise (fun a b=>sLt a b=true)
 | [],_=>by simp [insS]
 | x::xs,h=>by
  rw [List.pairwise_cons] at h
  unfold insS
  split
  ·rename_i h1
   rw [List.pairwise_cons]
   refine ⟨fun y hy=>?_,Zkl h.2⟩
   rcases Zl5.1 hy with e | e
   ·rw [e]; exact h1
   ·exact h.1 y e
  ·rename_i h1
   split
   ·rw [List.pairwise_cons]; exact h
   ·rename_i h2
    have h3:=Zw7 h1 h2
    rw [List.pairwise_cons,List.pairwise_cons]
    refine ⟨fun y hy=>?_,h⟩
    rcases List.mem_cons.1 hy with e | e
    ·rw [e]; exact h3
    ·exact ZyB h3 (h.1 y e)
theorem Zl4 {p:ByteArray}:∀ {xs:List ByteArray},(insS xs p).length≤xs.length+1
 | []=>by simp [insS]
 | x::xs=>by
  unfold insS
  split
  ·have:=Zl4 (p:=p) (xs:=xs); simp; omega
  ·split <;> simp
theorem Zhk {y:ByteArray}:∀ {l acc:List ByteArray},y∈l.foldl insS acc↔y∈l∨y∈acc
 | [],acc=>by simp
 | p::l,acc=>by rw [List.foldl_cons,Zhk,Zl5,List.mem_cons]; grind
theorem Zhl:∀ {l acc:List ByteArray},acc.Pairwise (fun a b=>sLt a b=true)→(l.foldl insS acc).Pairwise (fun a b=>sLt a b=true)
 | [],acc,h=>h
 | p::l,acc,h=>Zhl (l:=l) (Zkl h)
theorem ZmX:∀ {l acc:List ByteArray},(l.foldl insS acc).length≤l.length+acc.length
 | [],acc=>by simp
 | p::l,acc=>by
  have h1:=ZmX (l:=l) (acc:=insS acc p)
  have h2:=Zl4 (p:=p) (xs:=acc)
  simp only [List.foldl_cons,List.length_cons]; omega
/-! The program's: a list without repeats,sorted. -/
theorem Zvi {y:ByteArray}:∀ {l acc:List ByteArray},y∈l.foldl dd acc↔y∈l∨y∈acc
 | [],acc=>by simp
 | p::l,acc=>by
  rw [List.foldl_cons,Zvi,List.mem_cons]
  unfold dd
  split
  ·rename_i h
   have h:=Zr7.1 h
   constructor
   ·grind
   ·rintro ((rfl | h') | h') <;> grind
  ·simp; grind
theorem Zpj:∀ {l acc:List ByteArray},acc.Nodup→(l.foldl dd acc).Nodup
 | [],acc,h=>h
 | p::l,acc,h=>by
  rw [List.foldl_cons]
  refine Zpj ?_
  unfold dd
  split
  ·exact h
  ·rename_i h1
   rw [List.nodup_append]
   refine ⟨h,by simp,?_⟩
   intro a ha b hb
   simp at hb
   rintro rfl
   subst hb
   exact h1 (Zr7.2 ha)
theorem Zu0 {y:ByteArray} {xs:List ByteArray}:y∈srtS xs↔y∈xs:=by
 unfold srtS
 rw [List.mem_map]
 constructor
 ·rintro ⟨l,hl,rfl⟩
  rw [List.mem_mergeSort,List.mem_map] at hl
  obtain ⟨b,hb,rfl⟩:=hl
  have:(⟨b.data.toList.toArray⟩:ByteArray)=b:=ZmF (by simp)
  rw [this]; exact hb
 ·intro h
  exact ⟨y.data.toList,by rw [List.mem_mergeSort,List.mem_map]; exact ⟨y,h,rfl⟩,ZmF (by simp)⟩
theorem ZoW {xs:List ByteArray} (h:xs.Nodup):(srtS xs).Pairwise (fun a b=>sLt a b=true):=by
 unfold srtS
 rw [List.pairwise_map]
 have h1:((xs.map fun b:ByteArray=>b.data.toList).mergeSort fun x y=>decide (x≤y)).Pairwise (fun a b=>decide (a≤b)=true):=
  List.pairwise_mergeSort (fun a b c=>by simp only [decide_eq_true_iff]; exact List.le_trans) (fun a b=>by simp only [Bool.or_eq_true,decide_eq_true_iff]; exact List.le_total a b) _
 have h2:((xs.map fun b:ByteArray=>b.data.toList).mergeSort fun x y=>decide (x≤y)).Nodup:=by
  rw [(List.mergeSort_perm _ _).nodup_iff]
  unfold List.Nodup
  rw [List.pairwise_map]
  exact h.imp fun hne e=>hne (ZmF e)
 refine (h1.and h2).imp ?_
 rintro a b ⟨h3,h4⟩
 rw [ZkF]
 rcases (List.le_iff_lt_or_eq.1 (of_decide_eq_true h3)) with e | e
 ·simpa using e
 ·exact absurd e h4
def Zb (n:Za):List ByteArray:=(ZdQ n).foldl insS []
theorem Zkj {n:Za} (h:Z0 n):Z4 n=some (Zb n):=by
 unfold Z4
 rw [if_pos ⟨h.legs,List.all_eq_true.2 fun l hl=>decide_eq_true (by have:=h.leg l hl; unfold Zna B60 at this; unfold maxLen; omega)⟩]
 congr 1
 exact ZnH (r:=fun a b=>sLt a b=true) Zs4 ZyA (ZoW (Zpj List.nodup_nil)) (Zhl List.Pairwise.nil) fun x=>by
  rw [Zu0,Zvi]; unfold Zb; rw [Zhk]
theorem Zwm {α:Type} {xs:List α} {p:α→Bool} {body:Int→Option (Int ⊕ Int)} (h1:∀ i (hi:i<xs.length),body (i:Int)=some (if p xs[i]=true then .inl ((i+1:Nat):Int) else .inr (i:Int))) (h2:body (xs.length:Int)=some (.inr (xs.length:Int))) (hN:xs.length<NN):
 Zj body NN 0=some ((xs.takeWhile p).length:Int):=by
 have key:∀ (ys:List α) (i N:Nat),xs.drop i=ys→i≤xs.length→ys.length<N→Zj body N (i:Int)=some ((i+(ys.takeWhile p).length:Nat):Int):=by
  intro ys
  induction ys with
  | nil=>
   intro i N hd hi hN
   cases N with
   | zero=>omega
   | succ N=>
    have:i=xs.length:=by have:=congrArg List.length hd; simp at this; omega
    subst this
    simp only [Zj,h2]
    rfl
  | cons y ys ih=>
   intro i N hd hi hN
   cases N with
   | zero=>simp at hN
   | succ N=>
    have hy:xs[i]?=some y:=by
     have:=congrArg (fun l=>l[0]?) hd
     simpa using this
    have hlt:i<xs.length:=(List.getElem?_eq_some_iff.1 hy).1
    have hyv:xs[i]=y:=(List.getElem?_eq_some_iff.1 hy).2
    have hd':xs.drop (i+1)=ys:=by
     have:=congrArg (List.drop 1) hd
     simpa [List.drop_drop] using this
    simp only [Zj,h1 i hlt,hyv]
    cases hp:p y with
    | true=>
     simp only [if_true]
     have:=ih (i+1) N hd' hlt (by simp at hN; omega)
     refine this.trans ?_
     rw [List.takeWhile_cons_of_pos hp]
     congr 2
     simp; omega
    | false=>
     simp only [Bool.false_eq_true,if_false]
     rw [List.takeWhile_cons_of_neg (by simp [hp])]
     rfl
 simpa using key xs 0 NN rfl (Nat.zero_le _) hN
theorem Zr8 (p:ByteArray):∀ (xs:List ByteArray),insS xs p=
 if xs[(xs.takeWhile fun x=>sLt x p).length]?=some p then xs else xs.take (xs.takeWhile fun x=>sLt x p).length++[p]++xs.drop (xs.takeWhile fun x=>sLt x p).length
 | []=>by simp [insS]
 | x::xs=>by
  unfold insS
  cases h:sLt x p with
  | true=>
   simp only [if_true]
   rw [List.takeWhile_cons_of_pos (by exact h),Zr8 p xs]
   simp only [List.length_cons,List.getElem?_cons_succ,List.take_succ_cons,List.drop_succ_cons]
   split <;> simp
  | false=>
   rw [List.takeWhile_cons_of_neg (by simp [h])]
   simp only [List.length_nil,List.getElem?_cons_zero,List.take_zero,List.drop_zero,Option.some.injEq,Bool.false_eq_true,if_false]
   split <;> simp
theorem ZpZ {out:List ByteArray} {p:ByteArray} {i':Int} (hl:out.length≤4194304):
 (cond (decide (((out.takeWhile fun x=>sLt x p).length:Int)=(out.length:Int)))
  ((chk (slOk 0 ((out.takeWhile fun x=>sLt x p).length:Int) out.length)).bind fun _=>
  (chk (ZQ ((([]:List ByteArray):List ByteArray).length+((subL out 0 ((out.takeWhile fun x=>sLt x p).length:Int)):List ByteArray).length) 16)).bind fun _=>
  (chk (ZQ ((((([]:List ByteArray):List ByteArray)++(subL out 0 ((out.takeWhile fun x=>sLt x p).length:Int))):List ByteArray).length+([p]:List ByteArray).length) 16)).bind fun _=>
  (chk (slOk ((out.takeWhile fun x=>sLt x p).length:Int) (out.length:Int) out.length)).bind fun _=>
  (chk (ZQ ((((((([]:List ByteArray):List ByteArray)++(subL out 0 ((out.takeWhile fun x=>sLt x p).length:Int))):List ByteArray)++[p]):List ByteArray).length+((subL out ((out.takeWhile fun x=>sLt x p).length:Int) (out.length:Int)):List ByteArray).length) 16)).bind fun _=>
  (some (.inl (i',((((((([]:List ByteArray):List ByteArray)++(subL out 0 ((out.takeWhile fun x=>sLt x p).length:Int))):List ByteArray)++[p]):List ByteArray)++(subL out ((out.takeWhile fun x=>sLt x p).length:Int) (out.length:Int))))):Option ((Int × List ByteArray) ⊕ List ByteArray)))
  ((getI out ((out.takeWhile fun x=>sLt x p).length:Int)).bind fun y4=>
  cond (!decide (y4=p))
  ((chk (slOk 0 ((out.takeWhile fun x=>sLt x p).length:Int) out.length)).bind fun _=>
  (chk (ZQ ((([]:List ByteArray):List ByteArray).length+((subL out 0 ((out.takeWhile fun x=>sLt x p).length:Int)):List ByteArray).length) 16)).bind fun _=>
  (chk (ZQ ((((([]:List ByteArray):List ByteArray)++(subL out 0 ((out.takeWhile fun x=>sLt x p).length:Int))):List ByteArray).length+([p]:List ByteArray).length) 16)).bind fun _=>
  (chk (slOk ((out.takeWhile fun x=>sLt x p).length:Int) (out.length:Int) out.length)).bind fun _=>
  (chk (ZQ ((((((([]:List ByteArray):List ByteArray)++(subL out 0 ((out.takeWhile fun x=>sLt x p).length:Int))):List ByteArray)++[p]):List ByteArray).length+((subL out ((out.takeWhile fun x=>sLt x p).length:Int) (out.length:Int)):List ByteArray).length) 16)).bind fun _=>
  some (.inl (i',((((((([]:List ByteArray):List ByteArray)++(subL out 0 ((out.takeWhile fun x=>sLt x p).length:Int))):List ByteArray)++[p]):List ByteArray)++(subL out ((out.takeWhile fun x=>sLt x p).length:Int) (out.length:Int))))))
  (some (.inl (i',out)))))=some (.inl (i',insS out p)):=by
 have hk:(out.takeWhile fun x=>sLt x p).length≤out.length:=(List.takeWhile_sublist _).length_le
 rw [Zr8]
 generalize hkk:(out.takeWhile fun x=>sLt x p).length=k at *
 have e1:subL out 0 (k:Int)=out.take k:=by simp [subL]
 have e2:subL out (k:Int) (out.length:Int)=out.drop k:=by
  unfold subL
  rw [Int.toNat_natCast,Int.toNat_natCast,List.take_of_length_le (by simp)]
 have c1:chk (slOk 0 (k:Int) out.length)=some ():=Zjh (by unfold slOk; rw [decide_eq_true_iff]; omega)
 have c2:chk (slOk (k:Int) (out.length:Int) out.length)=some ():=Zjh (by unfold slOk; rw [decide_eq_true_iff]; omega)
 have ap:∀ n:Nat,n≤8388608→chk (ZQ n 16)=some ():=fun n hn=>Zjh (by unfold ZQ; rw [decide_eq_true_iff]; omega)
 simp only [e1,e2,c1,c2,Option.bind_some,List.nil_append]
 rw [ap _ (by simp; omega),ap _ (by simp; omega),ap _ (by simp; omega)]
 simp only [Option.bind_some]
 by_cases hke:(k:Int)=out.length
 ·have hke':k=out.length:=by omega
  rw [decide_eq_true hke,cond_true,if_neg (by rw [hke']; simp)]
 ·rw [decide_eq_false hke,cond_false,Zn]
  have hlt:k<out.length:=by omega
  rw [List.getElem?_eq_getElem hlt]
  simp only [Option.bind_some]
  by_cases he:out[k]=p
  ·rw [decide_eq_true he,if_pos (by rw [he])]; rfl
  ·rw [decide_eq_false he,if_neg (by simpa using he)]; rfl
theorem Znd {n:Za} {i:Nat} (h:i<n.legs.length):(ZdQ n)[2*i]?=some n.legs[i].from_∧(ZdQ n)[2*i+1]?=some n.legs[i].to_:=by
 unfold ZdQ
 have key:∀ (l:List YLeg) (i:Nat) (h:i<l.length),(l.flatMap fun x=>[x.from_,x.to_])[2*i]?=some l[i].from_∧(l.flatMap fun x=>[x.from_,x.to_])[2*i+1]?=some l[i].to_:=by
  intro l
  induction l with
  | nil=>intro i h; simp at h
  | cons a l ih=>
   intro i h
   cases i with
   | zero=>simp [List.flatMap_cons]
   | succ i=>
    have:=ih i (by simpa using h)
    simp only [List.flatMap_cons,List.getElem_cons_succ]
    rw [show 2*(i+1)=2*i+2 by omega,show 2*i+2+1=2*i+1+2 by omega]
    simpa using this
 exact key n.legs i h
theorem Zit (n:Za):(ZdQ n).length=2*n.legs.length:=by
 unfold ZdQ
 induction n.legs with
 | nil=>rfl
 | cons a l ih=>simp only [List.flatMap_cons,List.length_append,ih,List.length_cons,List.length_nil]; omega
theorem twL {out:List ByteArray} {p:ByteArray} (hl:out.length≤4194304) {body:Int→Option (Int ⊕ Int)} (hb:∀ i:Int,body i=cond (decide (i<(out.length:Int))) ((getI out i).bind fun y=>cond (sLt y p) (some (.inl (w64 (i+1)))) (some (.inr i))) (some (.inr i))):
 Zj body NN 0=some ((out.takeWhile fun x=>sLt x p).length:Int):=by
 refine Zwm (fun i hi=>?_) ?_ (by unfold NN; omega)
 ·have hw:=ZR hi (by omega)
  have hg:getI out (i:Int)=some out[i]:=by rw [Zn]; exact List.getElem?_eq_getElem hi
  rw [hb,decide_eq_true (show (i:Int)<out.length by omega),cond_true,hg]
  simp only [Option.bind_some,hw]
  cases sLt out[i] p <;> rfl
 ·rw [hb,decide_eq_false (by omega)]; rfl
theorem Zq2 {n:Za} (h:n.legs.length≤1048576) {i:Nat} {p:ByteArray} (hp:(ZdQ n)[i]?=some p) {out:List ByteArray} (ho:out.length≤4194304):
 Zco n ((i:Int),out)=some (.inl (((i+1:Nat):Int),insS out p)):=by
 have hi:i<2*n.legs.length:=by rw [← Zit]; exact (List.getElem?_eq_some_iff.1 hp).1
 have hw2:w64 (2*(n.legs.length:Int))=2*n.legs.length:=Zo (by omega)
 have hdiv:IntKind.i64.wrap (Int.tdiv (i:Int) 2)=((i / 2:Nat):Int):=by
  rw [show Int.tdiv (i:Int) 2=((i / 2:Nat):Int) from rfl]
  exact Zo (by omega)
 have hmod:Int.tmod (i:Int) 2=((i % 2:Nat):Int):=rfl
 have hw:w64 ((i:Int)+1)=((i+1:Nat):Int):=ZR hi (by omega)
 have hlt:i / 2<n.legs.length:=by omega
 have hg:getI n.legs ((i / 2:Nat):Int)=some n.legs[i / 2]:=by rw [Zn]; exact List.getElem?_eq_getElem hlt
 obtain ⟨n1,n2⟩:=Znd hlt
 unfold Zco
 simp only [hw2,hdiv,hmod,hw,hg,Option.bind_some]
 rw [decide_eq_true (show (i:Int)<2*(n.legs.length:Int) by omega),cond_true]
 rcases Nat.mod_two_eq_zero_or_one i with hm | hm
 ·rw [hm,decide_eq_false (show ¬ ((0:Nat):Int)=1 by omega),cond_false]
  have hp':p=n.legs[i / 2].from_:=by
   rw [show i=2*(i / 2) by omega,n1] at hp
   exact (Option.some.inj hp).symm
  rw [← hp']
  rw [twL ho (body:=ZfA n ((i:Int),out) n.legs[i / 2]) (p:=p) (fun j=>by rw [hp']; rfl)]
  exact ZpZ ho
 ·rw [hm,decide_eq_true (show ((1:Nat):Int)=1 by omega),cond_true]
  have hp':p=n.legs[i / 2].to_:=by
   rw [show i=2*(i / 2)+1 by omega] at hp
   rw [n2] at hp
   exact (Option.some.inj hp).symm
  rw [← hp']
  rw [twL ho (body:=Zfz n ((i:Int),out) n.legs[i / 2]) (p:=p) (fun j=>by rw [hp']; rfl)]
  exact ZpZ ho
theorem ZkN {n:Za} (h:n.legs.length≤1048576):Z5 n=some (Zb n):=by
 have key:∀ (ps:List ByteArray) (i N:Nat) (out:List ByteArray),(ZdQ n).drop i=ps→i≤(ZdQ n).length→ps.length<N→out.length≤i→Zj (Zco n) N ((i:Int),out)=some (ps.foldl insS out):=by
  have hnl:=Zit n
  intro ps
  induction ps with
  | nil=>
   intro i N out hd hi hN ho
   cases N with
   | zero=>omega
   | succ N=>
    have:i=(ZdQ n).length:=by have:=congrArg List.length hd; simp at this; omega
    subst this
    have hw2:w64 (2*(n.legs.length:Int))=2*n.legs.length:=Zo (by omega)
    simp only [Zj,Zco,hw2]
    rw [decide_eq_false (by rw [hnl]; omega)]
    rfl
  | cons p ps ih=>
   intro i N out hd hi hN ho
   cases N with
   | zero=>simp at hN
   | succ N=>
    have hp:(ZdQ n)[i]?=some p:=by
     have:=congrArg (fun l=>l[0]?) hd
     simpa using this
    have hlt:=(List.getElem?_eq_some_iff.1 hp).1
    have hd':(ZdQ n).drop (i+1)=ps:=by
     have:=congrArg (List.drop 1) hd
     simpa [List.drop_drop] using this
    simp only [Zj,Zq2 h hp (show out.length≤4194304 by omega)]
    exact ih (i+1) N (insS out p) hd' hlt (by simp at hN; omega) (by have:=Zl4 (p:=p) (xs:=out); omega)
 have hnl:=Zit n
 unfold Z5
 rw [show ((0:Int))=((0:Nat):Int) from rfl,key (ZdQ n) 0 NN [] rfl (Nat.zero_le _) (by unfold NN; omega) (by simp)]
 rfl
theorem Zac {n:Za} (h:Z0 n):Z4 n=Z5 n∧Z5 n=some (Zb n):=⟨(Zkj h).trans (ZkN h.legs).symm,ZkN h.legs⟩
theorem Zaz (n:Za):(Zb n).length≤2*n.legs.length:=by
 have:=ZmX (l:=ZdQ n) (acc:=[])
 rw [Zit] at this
 simpa [Zb] using this
def Zcy (w:Zd) (id:Int) (t:Ze) (s0:Int):Option (Int ⊕ (Unit ⊕ Bool)):=
 cond (decide (s0<(w.bookings.length:Int)))
 ((getI w.bookings s0).bind fun y1=>
 cond (decide (y1.thing=id))
 (cond (decide (y1.trip=t))
 ((getI w.orders (w64 (id-1))).bind fun y2=>
 some (.inr (.inr (decide (y1.weight=y2.weight)))))
 (some (.inl (w64 (s0+1)))))
 (some (.inl (w64 (s0+1)))))
 (some (.inr (.inl ())))
instance (w:Zd) (id:Int) (t:Ze):ZP (Zcy w id t):=⟨fun s0=>(.un::vi id::.un::.be 0 0 0::.un::.be 1 0 0::(U 4 (.sl (w.bookings.map Zg)::vi (w.bookings.length:Int)::vi s0::(U 24 [])))),fun s0=>[some ⟨41,10,[[.sl (w.network.legs.map cLeg),.sl (w.network.off.map cInt),vi w.network.change,.sl (w.orders.map Zw),.sl (w.bookings.map Zg),.sl (w.closed.map Zs),vi w.now,.sl (w.scans.map ZF),.sl (w.skip.map cInt),vi w.made]]⟩,some ⟨55,2,[[vi t.leg,vi t.day]]⟩]⟩
def ZdD (w:Zd) (id:Int) (t:Ze):Option Bool:=
 (Zj (Zcy w id t) NN 0).bind (ZY (fun o0=>
 some false) (fun r=>some r))
instance (w:Zd) (id:Int) (t:Ze):CT Tryz.prog (ZdD w id t):=⟨207,[.ag (Zbt w),vi id,.ag (Zs t)],[],fun r=>vb r,fun r=>[],fun H=>by replace H:=H0 H; unfold ZdD at H; exact Zh Tryz.func207 rfl Tryz.ntmps207 Tryz.results207 fun Q hQ hQn=>wk3⟩
def Zd7 (l:List Zc) (thing:Int) (t:Ze) (weight:Int) (s0:Int):Option (Int ⊕ (Unit ⊕ Bool)):=
 cond (decide (s0<(l.length:Int)))
 ((getI l s0).bind fun y1=>
 cond (decide (y1=(⟨thing,t,weight⟩:Zc)))
 (some (.inr (.inr true)))
 (some (.inl (w64 (s0+1)))))
 (some (.inr (.inl ())))
instance (l:List Zc) (thing:Int) (t:Ze) (weight:Int):ZP (Zd7 l thing t weight):=⟨fun s0=>(.sl (l.map Zg)::vi thing::.un::vi weight::.un::.un::.be 0 0 0::.un::.un::vi s0::(U 15 [])),fun s0=>[some ⟨55,2,[[vi t.leg,vi t.day]]⟩]⟩
def Zeh (l:List Zc) (thing:Int) (t:Ze) (weight:Int):Option Bool:=
 (Zj (Zd7 l thing t weight) NN 0).bind (ZY (fun o0=>
 some false) (fun r=>some r))
instance (l:List Zc) (thing:Int) (t:Ze) (weight:Int):CT Tryz.prog (Zeh l thing t weight):=⟨186,[.sl (l.map Zg),vi thing,.ag (Zs t),vi weight],[],fun r=>vb r,fun r=>[],fun H=>by replace H:=H0 H; unfold Zeh at H; exact Zh Tryz.func186 rfl Tryz.ntmps186 Tryz.results186 fun Q hQ hQn=>wk3⟩
theorem Zsc {α ο:Type} {xs:List α} {p:α→Bool} {body:Int→Option (Int ⊕ ο)} {f:Nat→ο} {e:ο} (h1:∀ i (hi:i<xs.length),body (i:Int)=some (if p xs[i]=true then .inr (f i) else .inl ((i+1:Nat):Int))) (h2:body (xs.length:Int)=some (.inr e)) (hN:xs.length<NN):
 Zj body NN 0=some ((xs.findIdx? p).elim e f):=by
 have key:∀ (ys:List α) (i N:Nat),xs.drop i=ys→i≤xs.length→ys.length<N→Zj body N (i:Int)=some ((ys.findIdx? p).elim e fun k=>f (i+k)):=by
  intro ys
  induction ys with
  | nil=>
   intro i N hd hi hN
   cases N with
   | zero=>omega
   | succ N=>
    have:i=xs.length:=by have:=congrArg List.length hd; simp at this; omega
    subst this
    simp only [Zj,h2]
    rfl
  | cons y ys ih=>
   intro i N hd hi hN
   cases N with
   | zero=>simp at hN
   | succ N=>
    have hy:xs[i]?=some y:=by
     have:=congrArg (fun l=>l[0]?) hd
     simpa using this
    have hlt:i<xs.length:=(List.getElem?_eq_some_iff.1 hy).1
    have hyv:xs[i]=y:=(List.getElem?_eq_some_iff.1 hy).2
    have hd':xs.drop (i+1)=ys:=by
     have:=congrArg (List.drop 1) hd
     simpa [List.drop_drop] using this
    simp only [Zj,h1 i hlt,hyv]
    rw [List.findIdx?_cons]
    cases hp:p y with
    | true=>simp
    | false=>
     simp only [Bool.false_eq_true,if_false]
     have:=ih (i+1) N hd' hlt (by simp at hN; omega)
     refine this.trans ?_
     cases ys.findIdx? p with
     | none=>rfl
     | some k=>simp only [Option.map_some,Option.elim_some]; congr 2; omega
 have:=key xs 0 NN rfl (Nat.zero_le _) hN
 simpa using this
def idxV (l:List ByteArray) (p:ByteArray):Int:=(l.findIdx? fun y=>decide (y=p)).elim (-1) fun k=>(k:Int)
theorem Zft {l:List ByteArray} (h:l.length≤4194304) (p:ByteArray):ZG l p=some (idxV l p):=by
 unfold ZG
 rw [Zsc (xs:=l) (p:=fun y=>decide (y=p)) (f:=fun i=>.inr (i:Int)) (e:=.inl ()) (fun i hi=>?_) (by simp [ZeQ]) (by unfold NN; omega)]
 ·unfold idxV
  cases l.findIdx? fun y=>decide (y=p) <;> rfl
 ·have hw:=ZR hi (by omega)
  have hg:getI l (i:Int)=some l[i]:=by rw [Zn]; exact List.getElem?_eq_getElem hi
  simp only [ZeQ,decide_eq_true (show (i:Int)<l.length by omega),cond_true,hg,Option.bind_some,hw]
  cases decide (l[i]=p) <;> rfl
/-! Bookings: one for a thing and a trip. -/
def ZxD (l:List Zc):Prop:=∀ x∈l,∀ y∈l,x.thing=y.thing→x.trip=y.trip→x=y
theorem ZvQ {a b c:Zc} (h:befB a b=true) (h':befB b c=true):befB a c=true:=by
 unfold befB at *
 split at h
 ·have h1:=of_decide_eq_true h
  split at h'
  ·have h2:=of_decide_eq_true h'
   rw [if_pos (by omega)]; exact decide_eq_true (by omega)
  ·rename_i h2
   rw [if_pos (by omega)]; exact decide_eq_true (by omega)
 ·rename_i h0
  split at h
  ·have h1:=of_decide_eq_true h
   split at h'
   ·have h2:=of_decide_eq_true h'
    rw [if_pos (by omega)]; exact decide_eq_true (by omega)
   ·rename_i h2
    rw [if_neg (by omega)]
    split at h'
    ·have h3:=of_decide_eq_true h'
     rw [if_pos (by omega)]; exact decide_eq_true (by omega)
    ·rename_i h3
     rw [if_pos (by omega)]; exact decide_eq_true (by omega)
  ·rename_i h00
   have h1:=of_decide_eq_true h
   split at h'
   ·have h2:=of_decide_eq_true h'
    rw [if_pos (by omega)]; exact decide_eq_true (by omega)
   ·rename_i h2
    rw [if_neg (by omega)]
    split at h'
    ·have h3:=of_decide_eq_true h'
     rw [if_pos (by omega)]; exact decide_eq_true (by omega)
    ·rename_i h3
     have h4:=of_decide_eq_true h'
     rw [if_neg (by omega)]; exact decide_eq_true (by omega)
theorem Zav {n:Za} {l:List Zc} (h:ZZ n l=true):Zi n=some true∧l.length≤120:=by
 unfold ZZ at h
 simp only [Bool.and_eq_true,decide_eq_true_iff] at h
 refine ⟨?_,by omega⟩
 cases hn:Zi n with
 | none=>rw [hn] at h; cases h.1.1
 | some b=>rw [hn] at h; have:=h.1.1; simp at this; rw [this]
theorem Zjr {n:Za} {l:List Zc} (h:ZZ n l=true) {i:Nat} (hi:i<l.length):bk1 n l i=true∧bk2 n l i=true:=by
 unfold ZZ at h
 simp only [Bool.and_eq_true] at h
 have:=List.all_eq_true.1 h.2 i (List.mem_range.2 hi)
 simpa only [Bool.and_eq_true] using this
theorem ZgU {n:Za} {l:List Zc} (h:ZZ n l=true):∀ (j i:Nat) (hj:j<l.length) (hij:i<j),befB (l[i]'(by omega)) l[j]=true:=by
 intro j
 induction j with
 | zero=>intro i hj hij; omega
 | succ j ih=>
  intro i hj hij
  have h1:=(Zjr h hj).1
  unfold bk1 at h1
  rw [List.getElem?_eq_getElem hj] at h1
  simp only [Nat.add_sub_cancel,List.getElem?_eq_getElem (show j<l.length by omega),Bool.and_eq_true,Bool.or_eq_true,decide_eq_true_iff] at h1
  have h2:befB l[j] l[j+1]=true:=by
   rcases h1.2 with h3 | h3
   ·omega
   ·exact h3
  rcases Nat.lt_or_ge i j with h3 | h3
  ·exact ZvQ (ih i (by omega) h3) h2
  ·have:i=j:=by omega
   subst this; exact h2
theorem ZlQ {a b:Zc} (h1:a.thing=b.thing) (h2:a.trip=b.trip):befB a b=false:=by
 unfold befB
 rw [h2,h1]
 simp
theorem Zld {n:Za} {l:List Zc} (h:ZZ n l=true):ZxD l:=by
 intro x hx y hy ht htr
 obtain ⟨i,hi,rfl⟩:=List.getElem_of_mem hx
 obtain ⟨j,hj,rfl⟩:=List.getElem_of_mem hy
 rcases Nat.lt_trichotomy i j with h1 | h1 | h1
 ·have:=ZgU h j i hj h1
  rw [ZlQ ht htr] at this; cases this
 ·subst h1; rfl
 ·have:=ZgU h i j hi h1
  rw [ZlQ ht.symm htr.symm] at this; cases this
def ZcD (l:List Zc) (thing:Int) (t:Ze) (wt:Int):Bool:=l.any fun y=>decide (y=(⟨thing,t,wt⟩:Zc))
theorem ZtU {l:List Zc} (h:l.length≤1048576) (thing:Int) (t:Ze) (wt:Int):Zeh l thing t wt=some (ZcD l thing t wt):=by
 unfold Zeh
 rw [Zhn (xs:=l) (p:=fun y=>decide (y=(⟨thing,t,wt⟩:Zc))) (r:=.inr true) (e:=.inl ()) (fun i hi=>?_) (by simp [Zd7]) (by unfold NN; omega)]
 ·unfold ZcD
  cases l.any fun y=>decide (y=(⟨thing,t,wt⟩:Zc)) <;> rfl
 ·have hw:=ZR hi (by omega)
  have hg:getI l (i:Int)=some l[i]:=by rw [Zn]; exact List.getElem?_eq_getElem hi
  simp only [Zd7,decide_eq_true (show (i:Int)<l.length by omega),cond_true,hg,Option.bind_some,hw]
  cases decide (l[i]=(⟨thing,t,wt⟩:Zc)) <;> rfl
theorem Zm1 {w:Zd} (h:w.bookings.length≤1048576) (hu:ZxD w.bookings) {id:Int} {o:Zf} (ho:getI w.orders (w64 (id-1))=some o) (t:Ze):ZdD w id t=some (ZcD w.bookings id t o.weight):=by
 unfold ZdD
 have e:Zj (Zcy w id t) NN 0=runL (fun _ (_:Unit) (x:Zc)=>some (if x.thing=id∧x.trip=t then .inr (.inr (decide (x.weight=o.weight))) else .inl ())) (fun _=>some (.inl ())) 0 w.bookings ():=by
  refine ZgI (A:=Unit) (fun _ i=>i) _ _ (fun _ i x hx=>?_) (fun _=>?_) (by unfold NN; omega) ()
  ·have hi:=(List.getElem?_eq_some_iff.1 hx).1
   have hw:=ZR hi (by omega)
   have hg:getI w.bookings (i:Int)=some x:=by rw [Zn]; exact hx
   simp only [Zcy,decide_eq_true (show (i:Int)<w.bookings.length by omega),cond_true,hg,Option.bind_some,hw,ho]
   by_cases h1:x.thing=id
   ·by_cases h2:x.trip=t
    ·simp [h1,h2]
    ·simp [h1,h2]
   ·simp [h1]
  ·simp [Zcy]
 have key:∀ (l:List Zc) (i:Nat),(∀ x∈l,x∈w.bookings)→runL (fun _ (_:Unit) (x:Zc)=>some (if x.thing=id∧x.trip=t then (.inr (.inr (decide (x.weight=o.weight))):Unit ⊕ (Unit ⊕ Bool)) else .inl ())) (fun _=>some (Sum.inl ():Unit ⊕ Bool)) i l ()=some (if l.any (fun y=>decide (y.thing=id∧y.trip=t))=true then Sum.inr (ZcD l id t o.weight) else Sum.inl ()):=by
  intro l
  induction l with
  | nil=>intro i _; rfl
  | cons x l ih=>
   intro i hm
   simp only [runL]
   by_cases hc:x.thing=id∧x.trip=t
   ·rw [if_pos hc]
    simp only [Option.bind_some,List.any_cons,decide_eq_true hc,Bool.true_or,if_true]
    show some (Sum.inr (decide (x.weight=o.weight)):Unit ⊕ Bool)=_
    congr 2
    unfold ZcD
    rw [List.any_cons]
    by_cases hw:x.weight=o.weight
    ·rw [decide_eq_true hw]
     have:x=(⟨id,t,o.weight⟩:Zc):=by obtain ⟨a,b,c⟩:=x; simp at hc hw ⊢; exact ⟨hc.1,hc.2,hw⟩
     rw [decide_eq_true this]; rfl
    ·rw [decide_eq_false hw]
     symm
     rw [Bool.or_eq_false_iff]
     refine ⟨decide_eq_false (fun e=>hw (by rw [e])),?_⟩
     rw [Bool.eq_false_iff]
     intro h3
     obtain ⟨y,hy,he⟩:=List.any_eq_true.1 h3
     have he:=of_decide_eq_true he
     have:=hu x (hm x (List.mem_cons_self ..)) y (hm y (List.mem_cons_of_mem _ hy)) (by rw [he]; exact hc.1) (by rw [he]; exact hc.2)
     exact hw (by rw [this,he])
   ·rw [if_neg hc]
    simp only [Option.bind_some,ZY]
    rw [ih (i+1) (fun y hy=>hm y (List.mem_cons_of_mem _ hy))]
    simp only [List.any_cons,decide_eq_false hc,Bool.false_or]
    have:ZcD (x::l) id t o.weight=ZcD l id t o.weight:=by
     unfold ZcD
     rw [List.any_cons,decide_eq_false (fun e=>hc (by rw [e]; exact ⟨rfl,rfl⟩)),Bool.false_or]
    rw [this]
 rw [e,key w.bookings 0 (fun x h=>h)]
 cases ha:w.bookings.any (fun y=>decide (y.thing=id∧y.trip=t)) with
 | true=>rfl
 | false=>
  show some false=_
  congr 1
  symm
  unfold ZcD
  rw [Bool.eq_false_iff]
  intro h3
  obtain ⟨y,hy,he⟩:=List.any_eq_true.1 h3
  have he:=of_decide_eq_true he
  have:=List.any_eq_false.1 ha y hy
  apply this
  rw [he]; simp
def Zfv (n:Za) (way:List Ze) (to_:ByteArray) (s0:Int × ByteArray × Int):Option ((Int × ByteArray × Int) ⊕ (ByteArray ⊕ Bool)):=
 cond (decide (s0.2.2<(way.length:Int)))
 ((getI way s0.2.2).bind fun y5=>
 (Zad n y5).bind fun y6=>
 cond (!y6)
 (some (.inr (.inr false)))
 ((getI n.legs y5.leg).bind fun y7=>
 cond (!decide (y7.from_=s0.2.1))
 (some (.inr (.inr false)))
 ((ZH n y5).bind fun y8=>
 cond (decide (y8<s0.1))
 (some (.inr (.inr false)))
 ((getI n.legs y5.leg).bind fun y9=>
 (getI way s0.2.2).bind fun y10=>
 (ZO n y10).bind fun y11=>
 some (.inl ((w64 (y11+n.change)),y9.to_,(w64 (s0.2.2+1))))))))
 (some (.inr (.inl s0.2.1)))
instance (n:Za) (way:List Ze) (to_:ByteArray):ZP (Zfv n way to_):=⟨fun s0=>(.un::.sl (way.map Zs)::.un::vs to_::vi s0.1::.be 0 0 0::(U 6 (vs s0.2.1::(U 20 (.sl (way.map Zs)::vi (way.length:Int)::vi s0.2.2::(U 46 [])))))),fun s0=>[some ⟨35,3,[[.sl (n.legs.map cLeg),.sl (n.off.map cInt),vi n.change]]⟩]⟩
def ZfU (n:Za) (way:List Ze) (from2_:ByteArray) (to_:ByteArray) (at4_:Int):Option Bool:=
 (Z4 n).bind fun y1=>
 (Z8 n).bind fun y2=>
 cond (!y2)
 (some false)
 ((Zz y1 from2_).bind fun y3=>
 cond (decide (y3<0))
 (some false)
 ((Zz y1 to_).bind fun y4=>
 cond (decide (y4<0))
 (some false)
 ((Zj (Zfv n way to_) NN (at4_,from2_,0)).bind (ZY (fun o0=>
 some (decide (o0=to_))) (fun r=>some r)))))
instance (n:Za) (way:List Ze) (from2_:ByteArray) (to_:ByteArray) (at4_:Int):CT Tryz.prog (ZfU n way from2_ to_ at4_):=⟨208,[.ag (Zr n),.sl (way.map Zs),vs from2_,vs to_,vi at4_],[],fun r=>vb r,fun r=>[],fun H=>by replace H:=H0 H; unfold ZfU at H; exact Zh Tryz.func208 rfl Tryz.ntmps208 Tryz.results208 fun Q hQ hQn=>wk3⟩
def Zao (n:Za) (way:List Ze) (to_:ByteArray) (s0:ByteArray × Int × Int):Option ((ByteArray × Int × Int) ⊕ (ByteArray ⊕ Bool)):=
 cond (decide (s0.2.2<(way.length:Int)))
 ((getI way s0.2.2).bind fun y5=>
 (Zan n y5).bind fun y6=>
 cond (!y6)
 (some (.inr (.inr false)))
 ((getI way s0.2.2).bind fun y7=>
 (getI n.legs y7.leg).bind fun y8=>
 cond (!decide (y8.from_=s0.1))
 (some (.inr (.inr false)))
 ((getI way s0.2.2).bind fun y9=>
 (Zp n y9).bind fun y10=>
 cond (decide (y10<s0.2.1))
 (some (.inr (.inr false)))
 ((getI way s0.2.2).bind fun y11=>
 (getI n.legs y11.leg).bind fun y12=>
 (getI way s0.2.2).bind fun y13=>
 (Zq n y13).bind fun y14=>
 some (.inl (y12.to_,(w64 (y14+n.change)),(w64 (s0.2.2+1))))))))
 (some (.inr (.inl s0.1)))
instance (n:Za) (way:List Ze) (to_:ByteArray):ZP (Zao n way to_):=⟨fun s0=>(.un::.sl (way.map Zs)::.un::vs to_::.un::.be 0 0 0::(U 6 (vs s0.1::vi s0.2.1::vi s0.2.2::(U 78 [])))),fun s0=>[some ⟨35,3,[[.sl (n.legs.map cLeg),.sl (n.off.map cInt),vi n.change]]⟩]⟩
def ZaN (n:Za) (way:List Ze) (from2_:ByteArray) (to_:ByteArray) (at4_:Int):Option Bool:=
 (Z5 n).bind fun y1=>
 (Zi n).bind fun y2=>
 cond (!y2)
 (some false)
 ((ZG y1 from2_).bind fun y3=>
 cond (decide (y3<0))
 (some false)
 ((ZG y1 to_).bind fun y4=>
 cond (decide (y4<0))
 (some false)
 ((Zj (Zao n way to_) NN (from2_,at4_,0)).bind (ZY (fun o0=>
 some (decide (o0=to_))) (fun r=>some r)))))
instance (n:Za) (way:List Ze) (from2_:ByteArray) (to_:ByteArray) (at4_:Int):CT Tryz.prog (ZaN n way from2_ to_ at4_):=⟨187,[.ag (Zr n),.sl (way.map Zs),vs from2_,vs to_,vi at4_],[],fun r=>vb r,fun r=>[],fun H=>by replace H:=H0 H; unfold ZaN at H; exact Zh Tryz.func187 rfl Tryz.ntmps187 Tryz.results187 fun Q hQ hQn=>wk3⟩
def Zbd (n:Za) (s:Zk):Option Bool:=
 (Z8 n).bind fun y1=>
 cond (!y1)
 (some false)
 ((Zx s.thing 1 9999).bind fun y2=>
 cond (!y2)
 (some false)
 ((Zx s.at_ 0 100000).bind fun y3=>
 cond (!y3)
 (some false)
 (cond (decide (s.kind=1))
 (cond (decide (s.kind=1))
 ((Z4 n).bind fun y4=>
 (Zz y4 s.place).bind fun y5=>
 cond (decide (0≤y5))
 (some (decide (s.trip=(⟨0,0⟩:Ze))))
 (some false))
 (cond (decide (s.kind=3))
 (cond (decide (s.place=⟨#[]⟩))
 ((Zad n s.trip).bind fun y6=>
 cond y6
 ((ZH n s.trip).bind fun y7=>
 some (decide (s.at_≤y7)))
 (some false))
 (some false))
 (cond (decide (s.kind=2))
 (cond (decide (s.place=⟨#[]⟩))
 ((Zad n s.trip).bind fun y8=>
 cond y8
 ((ZO n s.trip).bind fun y9=>
 some (decide (y9≤s.at_)))
 (some false))
 (some false))
 (some false))))
 (cond (decide (s.kind=4))
 ((Z4 n).bind fun y10=>
 (Zz y10 s.place).bind fun y11=>
 cond (decide (0≤y11))
 (some (decide (s.trip=(⟨0,0⟩:Ze))))
 (some false))
 (cond (decide (s.kind=3))
 (cond (decide (s.place=⟨#[]⟩))
 ((Zad n s.trip).bind fun y12=>
 cond y12
 ((ZH n s.trip).bind fun y13=>
 some (decide (s.at_≤y13)))
 (some false))
 (some false))
 (cond (decide (s.kind=2))
 (cond (decide (s.place=⟨#[]⟩))
 ((Zad n s.trip).bind fun y14=>
 cond y14
 ((ZO n s.trip).bind fun y15=>
 some (decide (y15≤s.at_)))
 (some false))
 (some false))
 (some false)))))))
instance (n:Za) (s:Zk):CT Tryz.prog (Zbd n s):=⟨140,[.ag (Zr n),.ag (ZF s)],[],fun r=>vb r,fun r=>[],fun H=>by replace H:=H0 H; unfold Zbd at H; exact Zh Tryz.func140 rfl Tryz.ntmps140 Tryz.results140 fun Q hQ hQn=>wk3⟩
def ZB (n:Za) (s:Zk):Option Bool:=
 (Zi n).bind fun y1=>
 cond (!y1)
 (some false)
 ((ZJ s.thing 1 9999).bind fun y2=>
 cond (!y2)
 (some false)
 ((ZJ s.at_ 0 100000).bind fun y3=>
 cond (!y3)
 (some false)
 (cond (decide (s.kind=1))
 (cond (decide (s.kind=1))
 ((Z5 n).bind fun y4=>
 (ZG y4 s.place).bind fun y5=>
 cond (decide (0≤y5))
 (some (decide (s.trip=(⟨0,0⟩:Ze))))
 (some false))
 (cond (decide (s.kind=3))
 (cond (decide (s.place=⟨#[]⟩))
 ((Zan n s.trip).bind fun y6=>
 cond y6
 ((Zp n s.trip).bind fun y7=>
 some (decide (s.at_≤y7)))
 (some false))
 (some false))
 (cond (decide (s.kind=2))
 (cond (decide (s.place=⟨#[]⟩))
 ((Zan n s.trip).bind fun y8=>
 cond y8
 ((Zq n s.trip).bind fun y9=>
 some (decide (y9≤s.at_)))
 (some false))
 (some false))
 (some false))))
 (cond (decide (s.kind=4))
 ((Z5 n).bind fun y10=>
 (ZG y10 s.place).bind fun y11=>
 cond (decide (0≤y11))
 (some (decide (s.trip=(⟨0,0⟩:Ze))))
 (some false))
 (cond (decide (s.kind=3))
 (cond (decide (s.place=⟨#[]⟩))
 ((Zan n s.trip).bind fun y12=>
 cond y12
 ((Zp n s.trip).bind fun y13=>
 some (decide (s.at_≤y13)))
 (some false))
 (some false))
 (cond (decide (s.kind=2))
 (cond (decide (s.place=⟨#[]⟩))
 ((Zan n s.trip).bind fun y14=>
 cond y14
 ((Zq n s.trip).bind fun y15=>
 some (decide (y15≤s.at_)))
 (some false))
 (some false))
 (some false)))))))
instance (n:Za) (s:Zk):CT Tryz.prog (ZB n s):=⟨110,[.ag (Zr n),.ag (ZF s)],[],fun r=>vb r,fun r=>[],fun H=>by replace H:=H0 H; unfold ZB at H; exact Zh Tryz.func110 rfl Tryz.ntmps110 Tryz.results110 fun Q hQ hQn=>wk3⟩
theorem Zpy {σ τ ο:Type} {f:σ→Option (σ ⊕ ο)} {g:τ→Option (τ ⊕ ο)} (φ:σ→τ) (h:∀ s,g (φ s)=(f s).bind (ZY (fun s'=>some (.inl (φ s'))) (fun r=>some (.inr r)))):∀ (N:Nat) (s:σ),Zj g N (φ s)=Zj f N s
 | 0,s=>rfl
 | N+1,s=>by
  simp only [Zj,h]
  cases f s with
  | none=>rfl
  | some o=>
   cases o with
   | inl s'=>exact Zpy φ h N s'
   | inr r=>rfl
theorem Zp6 {n:Za} (h:Z0 n) {t:Ze} (ht:Zan n t=some true):∃ y,getI n.legs t.leg=some y:=by
 unfold Zan Zdh at ht
 obtain ⟨_,b,hb⟩:=Zb2 h
 obtain ⟨_,b2,hb2⟩:=Zf1 h t.leg t.day
 rw [hb] at ht
 simp only [Option.bind_some,hb2] at ht
 cases b with
 | false=>simp at ht
 | true=>
  simp at ht
  subst ht
  exact ZiD h hb2
theorem ZfM {n:Za} {t:Ze} {y:YLeg} (h:getI n.legs t.leg=some y):∃ v,Zp n t=some v:=by
 unfold Zp; rw [h]; exact ⟨_,rfl⟩
theorem Zkn {n:Za} (h:Z0 n) (s:Zk):Zbd n s=ZB n s:=by
 unfold Zbd ZB
 rw [(Zb2 h).1,Zej,(Zac h).1,(Zgl h s.trip).1,Zei,ZfG,ZdT]
theorem ZgZ {n:Za} (h:Z0 n) (s:Zk):∃ b,ZB n s=some b:=by
 obtain ⟨_,b,hb⟩:=Zb2 h
 have hp:=(Zac h).2
 have hpl:=Zaz n
 have hl:=h.legs
 obtain ⟨_,b2,hb2⟩:=Zgl h s.trip
 unfold ZB
 rw [hb,hp,hb2]
 simp only [Option.bind_some,ZbH,Zft (show (Zb n).length≤4194304 by omega)]
 cases b with
 | false=>exact ⟨_,rfl⟩
 | true=>
  cases decide (1≤s.thing) && decide (s.thing≤9999) <;> try exact ⟨_,rfl⟩
  cases decide (0≤s.at_) && decide (s.at_≤100000) <;> try exact ⟨_,rfl⟩
  cases decide (0≤idxV (Zb n) s.place)
  all_goals
   cases b2 with
   | false=>cases decide (s.kind=1) <;> cases decide (s.kind=3) <;> cases decide (s.kind=2) <;> cases decide (s.kind=4) <;> cases decide (s.place=⟨#[]⟩) <;> exact ⟨_,rfl⟩
   | true=>
    obtain ⟨y,hy⟩:=Zp6 h hb2
    obtain ⟨v1,hv1⟩:=ZfM hy
    obtain ⟨v2,hv2⟩:=Zfr hy
    rw [hv1,hv2]
    cases decide (s.kind=1) <;> cases decide (s.kind=3) <;> cases decide (s.kind=2) <;> cases decide (s.kind=4) <;> cases decide (s.place=⟨#[]⟩) <;> exact ⟨_,rfl⟩
theorem Zuq {n:Za} (h:Z0 n) (way:List Ze) (a b:ByteArray) (t:Int):ZfU n way a b t=ZaN n way a b t:=by
 have e:Zj (Zfv n way b) NN (t,a,0)=Zj (Zao n way b) NN (a,t,0):=by
  refine Zpy (f:=Zao n way b) (fun s:ByteArray × Int × Int=>(s.2.1,s.1,s.2.2)) (fun s=>?_) NN (a,t,0)
  unfold Zfv Zao
  simp only
  cases decide (s.2.2<(way.length:Int)) with
  | false=>rfl
  | true=>
   simp only [cond_true]
   cases hg:getI way s.2.2 with
   | none=>rfl
   | some y=>
    simp only [Option.bind_some,(Zgl h y).1,Zei,ZfG]
    cases Zan n y with
    | none=>rfl
    | some c=>
     cases c with
     | false=>rfl
     | true=>
      simp only [Option.bind_some,Bool.not_true,cond_false]
      cases getI n.legs y.leg with
      | none=>rfl
      | some g=>
       simp only [Option.bind_some]
       cases decide (g.from_=s.1) with
       | false=>rfl
       | true=>
        simp only [Bool.not_true,cond_false]
        cases Zp n y with
        | none=>rfl
        | some v=>
         simp only [Option.bind_some]
         cases decide (v<s.2.1) with
         | true=>rfl
         | false=>
          simp only [cond_false]
          cases Zq n y <;> rfl
 unfold ZfU ZaN
 rw [(Zb2 h).1,(Zac h).1,ZdT,e]
theorem ZiR {n:Za} (h:Z0 n) {way:List Ze} (hw:way.length≤1048576) (a b:ByteArray) (t:Int):∃ r,ZaN n way a b t=some r:=by
 obtain ⟨_,b1,hb⟩:=Zb2 h
 have hp:=(Zac h).2
 have hpl:=Zaz n
 have hl:=h.legs
 have e:∃ o,Zj (Zao n way b) NN (a,t,0)=some o:=by
  refine Zjz (fun k s=>∃ i:Nat,i+k=way.length∧s.2.2=(i:Int)) ?_ NN way.length _ ⟨0,by omega,rfl⟩ (by unfold NN; omega)
  rintro k ⟨p,r,s⟩ ⟨i,hi,hs⟩
  simp only at hs
  subst hs
  unfold Zao
  rcases Nat.lt_or_ge i way.length with hlt | hge
  ·have hw:=ZR hlt (by omega)
   have hg:getI way (i:Int)=some way[i]:=by rw [Zn]; exact List.getElem?_eq_getElem hlt
   obtain ⟨_,c,hc⟩:=Zgl h way[i]
   simp only [decide_eq_true (show (i:Int)<way.length by omega),cond_true,hg,Option.bind_some,hc,hw]
   cases c with
   | false=>exact ⟨_,rfl,fun s' e=>by cases e⟩
   | true=>
    obtain ⟨y,hy⟩:=Zp6 h hc
    obtain ⟨v1,hv1⟩:=ZfM hy
    obtain ⟨v2,hv2⟩:=Zfr hy
    simp only [hy,hv1,hv2,Option.bind_some,Bool.not_true,cond_false]
    cases decide (y.from_=p) with
    | false=>exact ⟨_,rfl,fun s' e=>by cases e⟩
    | true=>
     simp only [Bool.not_true,cond_false]
     cases decide (v1<r) with
     | true=>exact ⟨_,rfl,fun s' e=>by cases e⟩
     | false=>exact ⟨_,rfl,fun s' e=>by cases e; exact ⟨k-1,by omega,i+1,by omega,rfl⟩⟩
  ·simp only [decide_eq_false (show ¬ (i:Int)<way.length by omega),cond_false]
   exact ⟨_,rfl,fun s' e=>by cases e⟩
 obtain ⟨o,ho⟩:=e
 unfold ZaN
 rw [hp,hb]
 simp only [Option.bind_some,Zft (show (Zb n).length≤4194304 by omega),ho]
 cases b1 with
 | false=>exact ⟨_,rfl⟩
 | true=>cases decide (idxV (Zb n) a<0) <;> cases decide (idxV (Zb n) b<0) <;> cases o <;> exact ⟨_,rfl⟩
def ZdE (w:Zd) (id:Int) (y1:Zf) (s0:ByteArray × Int):Option ((ByteArray × Int) ⊕ (ByteArray ⊕ Bool)):=
 cond (decide (s0.2<(y1.way.length:Int)))
 ((getI y1.way s0.2).bind fun y9=>
 (Zad w.network y9).bind fun y10=>
 cond (!y10)
 (some (.inr (.inr false)))
 ((ZdD w id y9).bind fun y11=>
 cond (!y11)
 (some (.inr (.inr false)))
 ((ZbY y1).bind fun y12=>
 cond (decide (y12≤s0.2))
 ((ZaQ w.closed y9).bind fun y13=>
 cond y13
 (some (.inr (.inr false)))
 ((getI w.network.legs y9.leg).bind fun y14=>
 cond (decide (y14.to_=y1.to_))
 (cond (decide (s0.2<(w64 ((y1.way.length:Int)-1))))
 (some (.inr (.inr false)))
 (some (.inl (y14.to_,(w64 (s0.2+1))))))
 (some (.inl (y14.to_,(w64 (s0.2+1)))))))
 ((getI w.network.legs y9.leg).bind fun y15=>
 cond (decide (y15.to_=y1.to_))
 (cond (decide (s0.2<(w64 ((y1.way.length:Int)-1))))
 (some (.inr (.inr false)))
 (some (.inl (y15.to_,(w64 (s0.2+1))))))
 (some (.inl (y15.to_,(w64 (s0.2+1)))))))))
 (some (.inr (.inl s0.1)))
instance (w:Zd) (id:Int) (y1:Zf):ZP (ZdE w id y1):=⟨fun s0=>(.un::vi id::.un::.be 0 0 0::(U 3 (.be 1 0 0::vs s0.1::(U 65 (.sl (y1.way.map Zs)::vi (y1.way.length:Int)::vi s0.2::(U 65 [])))))),fun s0=>[some ⟨41,10,[[.sl (w.network.legs.map cLeg),.sl (w.network.off.map cInt),vi w.network.change,.sl (w.orders.map Zw),.sl (w.bookings.map Zg),.sl (w.closed.map Zs),vi w.now,.sl (w.scans.map ZF),.sl (w.skip.map cInt),vi w.made]]⟩,some ⟨62,11,[[vs y1.from_,vs y1.to_,vi y1.service,vi y1.weight,vi y1.at_,vi y1.due,.sl (y1.way.map Zs),vi y1.gone,vi y1.state,vs y1.place,vi y1.ended]]⟩]⟩
def Ze5 (w:Zd) (id:Int) (places:List ByteArray):Option Bool:=
 (getI w.orders (w64 (id-1))).bind fun y1=>
 cond (decide (y1.from_=y1.to_))
 (some false)
 ((Zz places y1.from_).bind fun y2=>
 cond (decide (y2<0))
 (some false)
 ((Zz places y1.to_).bind fun y3=>
 cond (decide (y3<0))
 (some false)
 ((Zx y1.service 1 3).bind fun y4=>
 cond (!y4)
 (some false)
 ((Zx y1.weight 1 30000).bind fun y5=>
 cond (!y5)
 (some false)
 ((Zx y1.at_ 0 w.now).bind fun y6=>
 cond (!y6)
 (some false)
 ((Zx y1.due 0 200000).bind fun y7=>
 cond (!y7)
 (some false)
 ((Zx y1.gone 0 (y1.way.length:Int)).bind fun y8=>
 cond (!y8)
 (some false)
 ((Zj (ZdE w id y1) NN (y1.from_,0)).bind (ZY (fun o0=>
 (ZfU w.network y1.way y1.from_ o0 (w64 (y1.at_+1))).bind fun y16=>
 cond y16
 ((Ze6 w y1).bind fun y17=>
 some y17)
 (some false)) (fun r=>some r))))))))))
instance (w:Zd) (id:Int) (places:List ByteArray):CT Tryz.prog (Ze5 w id places):=⟨142,[.ag (Zbt w),vi id,.sl (places.map cStr)],[],fun r=>vb r,fun r=>[],fun H=>by replace H:=H0 H; unfold Ze5 at H; exact Zh Tryz.func142 rfl Tryz.ntmps142 Tryz.results142 fun Q hQ hQn=>wk3⟩
def Zdi (w:Zd) (i:Int) (y1:Zf) (s0:ByteArray × Int):Option ((ByteArray × Int) ⊕ (ByteArray ⊕ Bool)):=
 cond (decide (s0.2<(y1.way.length:Int)))
 ((getI y1.way s0.2).bind fun y10=>
 (getI y1.way s0.2).bind fun y11=>
 (ZX w.network y10.leg y11.day).bind fun y12=>
 cond (!y12)
 (some (.inr (.inr false)))
 ((getI y1.way s0.2).bind fun y13=>
 (Zeh w.bookings (w64 (i+1)) y13 y1.weight).bind fun y14=>
 cond (!y14)
 (some (.inr (.inr false)))
 ((getI y1.way s0.2).bind fun y15=>
 (getI w.network.legs y15.leg).bind fun y16=>
 cond (decide (y16.to_=y1.to_))
 (cond (decide ((w64 (s0.2+1))<(y1.way.length:Int)))
 (some (.inr (.inr false)))
 (some (.inl (y16.to_,(w64 (s0.2+1))))))
 (some (.inl (y16.to_,(w64 (s0.2+1))))))))
 (some (.inr (.inl s0.1)))
instance (w:Zd) (i:Int) (y1:Zf):ZP (Zdi w i y1):=⟨fun s0=>(.un::vi i::.be 0 0 0::.un::.un::.be 1 0 0::.be 2 0 0::.un::vs s0.1::vi s0.2::(U 162 [])),fun s0=>[some ⟨41,10,[[.sl (w.network.legs.map cLeg),.sl (w.network.off.map cInt),vi w.network.change,.sl (w.orders.map Zw),.sl (w.bookings.map Zg),.sl (w.closed.map Zs),vi w.now,.sl (w.scans.map ZF),.sl (w.skip.map cInt),vi w.made]]⟩,some ⟨35,3,[[.sl (w.network.legs.map cLeg),.sl (w.network.off.map cInt),vi w.network.change]]⟩,some ⟨62,11,[[vs y1.from_,vs y1.to_,vi y1.service,vi y1.weight,vi y1.at_,vi y1.due,.sl (y1.way.map Zs),vi y1.gone,vi y1.state,vs y1.place,vi y1.ended]]⟩]⟩
def Zcp (w:Zd) (y1:Zf) (s1:Int):Option (Int ⊕ (Unit ⊕ Bool)):=
 cond (decide (s1<(y1.way.length:Int)))
 ((getI y1.way s1).bind fun y20=>
 (Zaq w.closed y20).bind fun y21=>
 cond y21
 (some (.inr (.inr false)))
 (some (.inl (w64 (s1+1)))))
 (some (.inr (.inl ())))
instance (w:Zd) (y1:Zf):ZP (Zcp w y1):=⟨fun s1=>(.un::.un::.be 0 0 0::(U 3 (.be 1 0 0::(U 3 (vi s1::(U 161 [])))))),fun s1=>[some ⟨41,10,[[.sl (w.network.legs.map cLeg),.sl (w.network.off.map cInt),vi w.network.change,.sl (w.orders.map Zw),.sl (w.bookings.map Zg),.sl (w.closed.map Zs),vi w.now,.sl (w.scans.map ZF),.sl (w.skip.map cInt),vi w.made]]⟩,some ⟨62,11,[[vs y1.from_,vs y1.to_,vi y1.service,vi y1.weight,vi y1.at_,vi y1.due,.sl (y1.way.map Zs),vi y1.gone,vi y1.state,vs y1.place,vi y1.ended]]⟩]⟩
def ZeG (w:Zd) (i:Int):Option Bool:=
 (getI w.orders i).bind fun y1=>
 (Z5 w.network).bind fun y2=>
 (ZG y2 y1.from_).bind fun y3=>
 cond (decide (y3<0))
 (some false)
 ((ZG y2 y1.to_).bind fun y4=>
 cond (decide (y4<0))
 (some false)
 (cond (decide (y1.from_=y1.to_))
 (some false)
 ((ZJ y1.service 1 3).bind fun y5=>
 cond (!y5)
 (some false)
 ((ZJ y1.weight 1 30000).bind fun y6=>
 cond (!y6)
 (some false)
 ((ZJ y1.at_ 0 w.now).bind fun y7=>
 cond (!y7)
 (some false)
 ((ZJ y1.due 0 200000).bind fun y8=>
 cond (!y8)
 (some false)
 ((ZJ y1.gone 0 (y1.way.length:Int)).bind fun y9=>
 cond (!y9)
 (some false)
 ((Zj (Zdi w i y1) NN (y1.from_,0)).bind (ZY (fun o0=>
 (ZaN w.network y1.way y1.from_ o0 (w64 (y1.at_+1))).bind fun y17=>
 cond (!y17)
 (some false)
 ((ZC w.network y1 w.now).bind fun y18=>
 cond (!y18)
 (some false)
 ((ZaS y1).bind fun y19=>
 (Zj (Zcp w y1) NN y19).bind (ZY (fun o1=>
 some true) (fun r=>some r))))) (fun r=>some r))))))))))
instance (w:Zd) (i:Int):CT Tryz.prog (ZeG w i):=⟨111,[.ag (Zbt w),vi i],[],fun r=>vb r,fun r=>[],fun H=>by replace H:=H0 H; unfold ZeG at H; exact Zh Tryz.func111 rfl Tryz.ntmps111 Tryz.results111 fun Q hQ hQn=>wk3⟩
def Zdy (w:Zd) (s0:Int):Option (Int ⊕ (Unit ⊕ Bool)):=
 cond (decide (s0<(w.closed.length:Int)))
 ((getI w.closed s0).bind fun y4=>
 (Zad w.network y4).bind fun y5=>
 cond (!y5)
 (some (.inr (.inr false)))
 ((chk (slOk 0 s0 w.closed.length)).bind fun _=>
 (ZaQ (subL w.closed 0 s0) y4).bind fun y6=>
 cond y6
 (some (.inr (.inr false)))
 (some (.inl (w64 (s0+1))))))
 (some (.inr (.inl ())))
instance (w:Zd):ZP (Zdy w):=⟨fun s0=>(.un::.be 0 0 0::.un::.be 1 0 0::(U 55 (.sl (w.closed.map Zs)::vi (w.closed.length:Int)::vi s0::(U 63 [])))),fun s0=>[some ⟨41,10,[[.sl (w.network.legs.map cLeg),.sl (w.network.off.map cInt),vi w.network.change,.sl (w.orders.map Zw),.sl (w.bookings.map Zg),.sl (w.closed.map Zs),vi w.now,.sl (w.scans.map ZF),.sl (w.skip.map cInt),vi w.made]]⟩,some ⟨35,3,[[.sl (w.network.legs.map cLeg),.sl (w.network.off.map cInt),vi w.network.change]]⟩]⟩
def Zdz (w:Zd) (s1:Int):Option (Int ⊕ (Unit ⊕ Bool)):=
 cond (decide (s1<(w.scans.length:Int)))
 ((getI w.scans s1).bind fun y7=>
 (Zbd w.network y7).bind fun y8=>
 cond (!y8)
 (some (.inr (.inr false)))
 (cond (decide (w.now<y7.at_))
 (some (.inr (.inr false)))
 (some (.inl (w64 (s1+1))))))
 (some (.inr (.inl ())))
instance (w:Zd):ZP (Zdz w):=⟨fun s1=>(.un::.be 0 0 0::.un::.be 1 0 0::(U 76 (.sl (w.scans.map ZF)::vi (w.scans.length:Int)::vi s1::(U 42 [])))),fun s1=>[some ⟨41,10,[[.sl (w.network.legs.map cLeg),.sl (w.network.off.map cInt),vi w.network.change,.sl (w.orders.map Zw),.sl (w.bookings.map Zg),.sl (w.closed.map Zs),vi w.now,.sl (w.scans.map ZF),.sl (w.skip.map cInt),vi w.made]]⟩,some ⟨35,3,[[.sl (w.network.legs.map cLeg),.sl (w.network.off.map cInt),vi w.network.change]]⟩]⟩
def ZdA (w:Zd) (y9:List ByteArray) (s2:Int × Int):Option ((Int × Int) ⊕ (Int ⊕ Bool)):=
 cond (decide (s2.2<(w.orders.length:Int)))
 ((getI w.orders s2.2).bind fun y10=>
 (Ze5 w (w64 (s2.2+1)) y9).bind fun y11=>
 cond (!y11)
 (some (.inr (.inr false)))
 (some (.inl ((w64 (s2.1+(y10.way.length:Int))),(w64 (s2.2+1))))))
 (some (.inr (.inl s2.1)))
instance (w:Zd) (y9:List ByteArray):ZP (ZdA w y9):=⟨fun s2=>(.un::.be 0 0 0::(U 6 (.ms 1::vi s2.1::(U 91 (.sl (w.orders.map Zw)::vi (w.orders.length:Int)::vi s2.2::(U 21 [])))))),fun s2=>[some ⟨41,10,[[.sl (w.network.legs.map cLeg),.sl (w.network.off.map cInt),vi w.network.change,.sl (w.orders.map Zw),.sl (w.bookings.map Zg),.sl (w.closed.map Zs),vi w.now,.sl (w.scans.map ZF),.sl (w.skip.map cInt),vi w.made]]⟩,some ⟨9,1,y9.map cStr⟩]⟩
def Za8 (w:Zd):Option Bool:=
 (Zcd w.network w.bookings).bind fun y1=>
 cond (!y1)
 (some false)
 ((Zx w.now 0 100000).bind fun y2=>
 cond (!y2)
 (some false)
 (cond (decide (30<(w.orders.length:Int)))
 (some false)
 (cond (decide (20<(w.closed.length:Int)))
 (some false)
 (cond (decide (200<(w.scans.length:Int)))
 (some false)
 (cond (decide (50<(w.skip.length:Int)))
 (some false)
 ((Zx w.made (w.scans.length:Int) 1000000000).bind fun y3=>
 cond (!y3)
 (some false)
 ((Zj (Zdy w) NN 0).bind (ZY (fun o0=>
 (Zj (Zdz w) NN 0).bind (ZY (fun o1=>
 (Z4 w.network).bind fun y9=>
 (Zj (ZdA w y9) NN (0,0)).bind (ZY (fun o2=>
 some (decide (o2=(w.bookings.length:Int)))) (fun r=>some r))) (fun r=>some r))) (fun r=>some r)))))))))
instance (w:Zd):CT Tryz.prog (Za8 w):=⟨48,[.ag (Zbt w)],[],fun r=>vb r,fun r=>[],fun H=>by replace H:=H0 H; unfold Za8 at H; exact Zh Tryz.func48 rfl Tryz.ntmps48 Tryz.results48 fun Q hQ hQn=>wk3⟩
def ZdL (w:Zd) (s0:Int):Option (Int ⊕ (Unit ⊕ Bool)):=
 cond (decide (s0<(w.closed.length:Int)))
 ((getI w.closed s0).bind fun y4=>
 (getI w.closed s0).bind fun y5=>
 (ZX w.network y4.leg y5.day).bind fun y6=>
 cond (!y6)
 (some (.inr (.inr false)))
 ((chk (slOk 0 s0 w.closed.length)).bind fun _=>
 (getI w.closed s0).bind fun y7=>
 (Zaq (subL w.closed 0 s0) y7).bind fun y8=>
 cond y8
 (some (.inr (.inr false)))
 (some (.inl (w64 (s0+1))))))
 (some (.inr (.inl ())))
instance (w:Zd):ZP (ZdL w):=⟨fun s0=>(.un::.be 0 0 0::.un::vi s0::(U 135 [])),fun s0=>[some ⟨41,10,[[.sl (w.network.legs.map cLeg),.sl (w.network.off.map cInt),vi w.network.change,.sl (w.orders.map Zw),.sl (w.bookings.map Zg),.sl (w.closed.map Zs),vi w.now,.sl (w.scans.map ZF),.sl (w.skip.map cInt),vi w.made]]⟩]⟩
def ZdM (w:Zd) (s1:Int):Option (Int ⊕ (Unit ⊕ Bool)):=
 cond (decide (s1<(w.scans.length:Int)))
 ((getI w.scans s1).bind fun y9=>
 (ZB w.network y9).bind fun y10=>
 cond (!y10)
 (some (.inr (.inr false)))
 ((getI w.scans s1).bind fun y11=>
 cond (decide (w.now<y11.at_))
 (some (.inr (.inr false)))
 (some (.inl (w64 (s1+1))))))
 (some (.inr (.inl ())))
instance (w:Zd):ZP (ZdM w):=⟨fun s1=>(.un::.be 0 0 0::.un::.un::vi s1::(U 134 [])),fun s1=>[some ⟨41,10,[[.sl (w.network.legs.map cLeg),.sl (w.network.off.map cInt),vi w.network.change,.sl (w.orders.map Zw),.sl (w.bookings.map Zg),.sl (w.closed.map Zs),vi w.now,.sl (w.scans.map ZF),.sl (w.skip.map cInt),vi w.made]]⟩]⟩
def ZdN (w:Zd) (s2:Int × Int):Option ((Int × Int) ⊕ (Int ⊕ Bool)):=
 cond (decide (s2.2<(w.orders.length:Int)))
 ((ZeG w s2.2).bind fun y12=>
 cond (!y12)
 (some (.inr (.inr false)))
 ((getI w.orders s2.2).bind fun y13=>
 some (.inl ((w64 (s2.1+(y13.way.length:Int))),(w64 (s2.2+1))))))
 (some (.inr (.inl s2.1)))
instance (w:Zd):ZP (ZdN w):=⟨fun s2=>(.un::.be 0 0 0::(U 3 (vi s2.1::vi s2.2::(U 132 [])))),fun s2=>[some ⟨41,10,[[.sl (w.network.legs.map cLeg),.sl (w.network.off.map cInt),vi w.network.change,.sl (w.orders.map Zw),.sl (w.bookings.map Zg),.sl (w.closed.map Zs),vi w.now,.sl (w.scans.map ZF),.sl (w.skip.map cInt),vi w.made]]⟩]⟩
def Zbs (w:Zd):Option Bool:=
 (ZaG w.network w.bookings).bind fun y1=>
 cond (!y1)
 (some false)
 ((ZJ w.now 0 100000).bind fun y2=>
 cond (!y2)
 (some false)
 (cond (decide (30<(w.orders.length:Int)))
 (some false)
 (cond (decide (20<(w.closed.length:Int)))
 (some false)
 (cond (decide (200<(w.scans.length:Int)))
 (some false)
 (cond (decide (50<(w.skip.length:Int)))
 (some false)
 ((ZJ w.made (w.scans.length:Int) 1000000000).bind fun y3=>
 cond (!y3)
 (some false)
 ((Zj (ZdL w) NN 0).bind (ZY (fun o0=>
 (Zj (ZdM w) NN 0).bind (ZY (fun o1=>
 (Zj (ZdN w) NN (0,0)).bind (ZY (fun o2=>
 some (decide (o2=(w.bookings.length:Int)))) (fun r=>some r))) (fun r=>some r))) (fun r=>some r)))))))))
instance (w:Zd):CT Tryz.prog (Zbs w):=⟨24,[.ag (Zbt w)],[],fun r=>vb r,fun r=>[],fun H=>by replace H:=H0 H; unfold Zbs at H; exact Zh Tryz.func24 rfl Tryz.ntmps24 Tryz.results24 fun Q hQ hQn=>wk3⟩
set_option linter.unusedSectionVars false
def allI {α:Type} (c:Nat→α→Bool):Nat→List α→Bool
 | _,[]=>true
 | i,x::xs=>c i x && allI c (i+1) xs
theorem Zas {α:Type} {c:Nat→α→Bool}:∀ {xs:List α} {i:Nat},allI c i xs=true↔∀ (j:Nat) (x:α),xs[j]?=some x→c (i+j) x=true
 | [],i=>by simp [allI]
 | x::xs,i=>by
  simp only [allI,Bool.and_eq_true,Zas]
  constructor
  ·rintro ⟨h1,h2⟩ j y hj
   cases j with
   | zero=>obtain rfl:x=y:=by simpa using hj
           exact h1
   | succ j=>have:=h2 j y (by simpa using hj); rwa [Nat.add_right_comm] at this
  ·intro h
   exact ⟨h 0 x rfl,fun j y hj=>by have:=h (j+1) y (by simpa using hj); rwa [← Nat.add_assoc,Nat.add_right_comm] at this⟩
theorem Zo4 {α:Type} (c d:Nat→α→Bool):∀ (xs:List α) (i:Nat),allI (fun i x=>c i x && d i x) i xs=(allI c i xs && allI d i xs)
 | [],i=>rfl
 | x::xs,i=>by
  simp only [allI,Zo4 c d xs (i+1)]
  cases c i x <;> cases d i x <;> cases allI c (i+1) xs <;> cases allI d (i+1) xs <;> rfl
theorem Zqb {α:Type} {c d:Nat→α→Bool} {xs:List α} {i:Nat} (h:∀ (j:Nat) (x:α),xs[j]?=some x→c (i+j) x=d (i+j) x):allI c i xs=allI d i xs:=by
 rw [Bool.eq_iff_iff,Zas,Zas]
 exact ⟨fun H j x hx=>by rw [← h j x hx]; exact H j x hx,fun H j x hx=>by rw [h j x hx]; exact H j x hx⟩
theorem Zfs {A α σ γ:Type} {xs:List α} {body:σ→Option (σ ⊕ (γ ⊕ Bool))} (mk:A→Int→σ) (c:Nat→α→Bool) (f:A→α→A) (g:A→γ)
 (h1:∀ a (i:Nat) x,xs[i]?=some x→body (mk a i)=some (if c i x=true then .inl (mk (f a x) ((i+1:Nat):Int)) else .inr (.inr false)))
 (h2:∀ a,body (mk a (xs.length:Int))=some (.inr (.inl (g a)))) (hN:xs.length<NN) (a:A):Zj body NN (mk a 0)=some (if allI c 0 xs=true then .inl (g (xs.foldl f a)) else .inr false):=by
 rw [ZgI mk (fun i a x=>some (if c i x=true then .inl (f a x) else .inr (.inr false))) (fun a=>some (.inl (g a))) (fun a i x hx=>by rw [h1 a i x hx]; cases c i x <;> rfl) (fun a=>by rw [h2 a]; rfl) hN a]
 have key:∀ (xs:List α) (i:Nat) (a:A),runL (fun i a x=>some (if c i x=true then (.inl (f a x):A ⊕ (γ ⊕ Bool)) else .inr (.inr false))) (fun a=>some (.inl (g a))) i xs a=some (if allI c i xs=true then .inl (g (xs.foldl f a)) else .inr false):=by
  intro xs
  induction xs with
  | nil=>intro i a; rfl
  | cons x xs ih=>
   intro i a
   simp only [runL,allI]
   by_cases hcx:c i x=true
   ·simp only [hcx,if_true,Option.bind_some,ZY,ih,Bool.true_and,List.foldl_cons]
   ·simp only [Bool.not_eq_true] at hcx
    simp [hcx]
 exact key xs 0 a
/-! The parts of an order's test. -/
def ZbJ (n:Za) (t:Ze):Bool:=(ZX n t.leg t.day).getD false
def ZL (n:Za) (t:Ze):ByteArray:=((getI n.legs t.leg).map (·.to_)).getD ⟨#[]⟩
def Z2 (l:List Ze) (t:Ze):Bool:=l.any fun y=>decide (y=t)
theorem ZgB {n:Za} (h:Z0 n) (t:Ze):ZX n t.leg t.day=some (ZbJ n t):=by
 obtain ⟨_,b,hb⟩:=Zf1 h t.leg t.day
 unfold ZbJ; rw [hb]; rfl
theorem Zah {n:Za} (h:Z0 n) {t:Ze} (ht:ZbJ n t=true):∃ y,getI n.legs t.leg=some y∧y∈n.legs:=by
 have:=ZgB h t
 rw [ht] at this
 obtain ⟨y,hy⟩:=ZiD h this
 exact ⟨y,hy,ZgX hy⟩
def wayC (w:Zd) (id:Int) (o:Zf) (i:Nat) (t:Ze):Bool:=ZbJ w.network t && ZcD w.bookings id t o.weight && !(decide (ZL w.network t=o.to_) && decide (i+1<o.way.length))
def endV (n:Za) (o:Zf):ByteArray:=o.way.foldl (fun _ t=>ZL n t) o.from_
def Zm (o:Zf):Int:=if o.state=2 then o.gone+1 else o.gone
def ZcY (w:Zd) (i:Nat) (o:Zf):Bool:=
 !decide (idxV (Zb w.network) o.from_<0) && !decide (idxV (Zb w.network) o.to_<0) && !decide (o.from_=o.to_) && (decide (1≤o.service) && decide (o.service≤3)) && (decide (1≤o.weight) && decide (o.weight≤30000)) && (decide (0≤o.at_) && decide (o.at_≤w.now)) && (decide (0≤o.due) && decide (o.due≤200000)) && (decide (0≤o.gone) && decide (o.gone≤(o.way.length:Int))) &&
  allI (wayC w ((i+1:Nat):Int) o) 0 o.way && (ZaN w.network o.way o.from_ (endV w.network o) (w64 (o.at_+1))).getD false && (ZC w.network o w.now).getD false && !((o.way.drop (Zm o).toNat).any (Z2 w.closed))
structure WFit (w:Zd):Prop where
 net:Z0 w.network
 orders:w.orders.length≤1048576
 bookings:w.bookings.length≤1048576
 closed:w.closed.length≤1048576
 scans:w.scans.length≤1048576
 skip:w.skip.length≤1048576
 way:∀ o∈w.orders,o.way.length≤1048576
theorem ZlI {n:Za} {o:Zf} (hg:0≤o.gone∧o.gone≤o.way.length) (hl:o.way.length≤1048576) (hw:∀ t∈o.way,∃ y,getI n.legs t.leg=some y) (now:Int):∃ b,ZC n o now=some b:=by
 have hat:∀ (i:Int),0≤i→i<o.way.length→∃ t y,getI o.way i=some t∧getI n.legs t.leg=some y:=by
  intro i h0 h1
  have hlt:i.toNat<o.way.length:=by omega
  obtain ⟨y,hy⟩:=hw o.way[i.toNat] (List.getElem_mem hlt)
  exact ⟨o.way[i.toNat],y,by unfold getI; rw [if_pos h0]; exact List.getElem?_eq_getElem hlt,hy⟩
 have hw1:w64 (o.gone-1)=o.gone-1:=Zo (by omega)
 have hend:o.gone<o.way.length→∃ t s e,getI o.way o.gone=some t∧Zp n t=some s∧Zq n t=some e:=by
  intro h1
  obtain ⟨t,y,ht,hy⟩:=hat o.gone hg.1 h1
  obtain ⟨s,hs⟩:=ZfM hy
  obtain ⟨e,he⟩:=Zfr hy
  exact ⟨t,s,e,ht,hs,he⟩
 unfold ZC
 rw [hw1]
 by_cases h0:0<o.gone
 ·rw [decide_eq_true h0,cond_true]
  obtain ⟨t,y,ht,hy⟩:=hat (o.gone-1) (by omega) (by omega)
  obtain ⟨e,he⟩:=Zfr hy
  simp only [ht,hy,he,Option.bind_some]
  cases decide (now<e) with
  | true=>exact ⟨_,rfl⟩
  | false=>
   simp only [cond_false]
   by_cases h1:o.gone<o.way.length
   ·obtain ⟨t2,s2,e2,ht2,hs2,he2⟩:=hend h1
    simp only [ht2,hs2,he2,Option.bind_some]
    cases decide (o.state=1) <;> cases decide (o.state=2) <;> cases decide (o.state=3) <;> cases decide (o.place=y.to_) <;> cases decide (y.to_=o.to_) <;> cases decide (o.ended=0) <;> cases decide (o.gone=(o.way.length:Int)) <;> cases decide (o.place=⟨#[]⟩) <;> cases decide (o.gone<(o.way.length:Int)) <;> cases decide (s2≤now) <;> cases decide (o.place=o.to_) <;> exact ⟨_,rfl⟩
   ·rw [decide_eq_true (show o.gone=(o.way.length:Int) by omega),decide_eq_false h1]
    cases decide (o.state=1) <;> cases decide (o.state=2) <;> cases decide (o.state=3) <;> cases decide (o.place=y.to_) <;> cases decide (y.to_=o.to_) <;> cases decide (o.ended=0) <;> cases decide (o.place=⟨#[]⟩) <;> cases decide (o.place=o.to_) <;> exact ⟨_,rfl⟩
 ·rw [decide_eq_false h0,cond_false]
  by_cases h1:o.gone<o.way.length
  ·obtain ⟨t2,s2,e2,ht2,hs2,he2⟩:=hend h1
   simp only [ht2,hs2,he2,Option.bind_some]
   cases decide (o.state=1) <;> cases decide (o.state=2) <;> cases decide (o.state=3) <;> cases decide (o.place=o.from_) <;> cases decide (o.from_=o.to_) <;> cases decide (o.ended=0) <;> cases decide (o.gone=(o.way.length:Int)) <;> cases decide (o.place=⟨#[]⟩) <;> cases decide (o.gone<(o.way.length:Int)) <;> cases decide (s2≤now) <;> cases decide (o.place=o.to_) <;> exact ⟨_,rfl⟩
  ·rw [decide_eq_true (show o.gone=(o.way.length:Int) by omega),decide_eq_false h1]
   cases decide (o.state=1) <;> cases decide (o.state=2) <;> cases decide (o.state=3) <;> cases decide (o.place=o.from_) <;> cases decide (o.from_=o.to_) <;> cases decide (o.ended=0) <;> cases decide (o.place=⟨#[]⟩) <;> cases decide (o.place=o.to_) <;> exact ⟨_,rfl⟩
theorem Zoh {w:Zd} (hc:w.closed.length≤1048576) {o:Zf} (hl:o.way.length≤1048576) {k:Int} (h0:0≤k):Zj (Zcp w o) NN k=some (if (o.way.drop k.toNat).any (Z2 w.closed)=true then .inr false else .inl ()):=by
 have key:∀ (ts:List Ze) (i N:Nat),o.way.drop i=ts→ts.length<N→Zj (Zcp w o) N (i:Int)=some (if ts.any (Z2 w.closed)=true then .inr false else .inl ()):=by
  intro ts
  induction ts with
  | nil=>
   intro i N hd hN
   cases N with
   | zero=>omega
   | succ N=>
    have:o.way.length≤i:=by have:=congrArg List.length hd; simp at this; omega
    simp only [Zj,Zcp]
    rw [decide_eq_false (show ¬ (i:Int)<o.way.length by omega)]
    rfl
  | cons t ts ih=>
   intro i N hd hN
   cases N with
   | zero=>simp at hN
   | succ N=>
    have ht:o.way[i]?=some t:=by
     have:=congrArg (fun l:List Ze=>l[0]?) hd
     simpa using this
    have hlt:=(List.getElem?_eq_some_iff.1 ht).1
    have hd':o.way.drop (i+1)=ts:=by
     have:=congrArg (List.drop 1) hd
     simpa [List.drop_drop] using this
    have hg:getI o.way (i:Int)=some t:=by rw [Zn]; exact ht
    simp only [Zj,Zcp]
    rw [decide_eq_true (show (i:Int)<o.way.length by omega),cond_true,hg]
    simp only [Option.bind_some]
    rw [Zcs,Zb1 hc,ZR hlt (by omega)]
    have hcd:(w.closed.any fun y=>decide (y=t))=Z2 w.closed t:=rfl
    rw [hcd]
    by_cases hcl:Z2 w.closed t=true
    ·simp [hcl,List.any_cons]
    ·simp only [Bool.not_eq_true] at hcl
     simp only [hcl,List.any_cons,Option.bind_some,cond_false,ZY,Bool.false_or]
     exact ih (i+1) N hd' (by simp at hN; omega)
 have:=key (o.way.drop k.toNat) k.toNat NN rfl (by simp; unfold NN; omega)
 rw [show ((k.toNat:Nat):Int)=k by omega] at this
 exact this
theorem Zj2 (cl:Ze→Bool) (k:Int):∀ (ts:List Ze) (i:Nat),allI (fun i t=>!(decide (k≤(i:Int)) && cl t)) i ts=!((ts.drop (k-i).toNat).any cl)
 | [],i=>by simp [allI]
 | t::ts,i=>by
  simp only [allI,Zj2 cl k ts (i+1)]
  by_cases h:k≤(i:Int)
  ·rw [decide_eq_true h,show (k-(i:Int)).toNat=0 by omega,show (k-((i+1:Nat):Int)).toNat=0 by omega]
   simp
  ·rw [decide_eq_false h]
   obtain ⟨m,hm⟩:∃ m,(k-(i:Int)).toNat=m+1:=⟨(k-(i:Int)).toNat-1,by omega⟩
   rw [hm,show (k-((i+1:Nat):Int)).toNat=m by omega]
   simp
theorem Zhh {o:Zf} (h:0≤o.gone∧o.gone≤o.way.length) (hl:o.way.length≤1048576):ZaS o=some (Zm o)∧0≤Zm o∧ZbY o=some (if (o.way.length:Int)<Zm o then (o.way.length:Int) else Zm o):=by
 unfold ZaS ZbY Zm
 have hw:w64 (o.gone+1)=o.gone+1:=Zo (by omega)
 simp only [hw]
 by_cases h2:o.state=2
 ·rw [decide_eq_true h2,if_pos h2]; exact ⟨rfl,by omega,rfl⟩
 ·rw [decide_eq_false h2,if_neg h2]; exact ⟨rfl,by omega,by rw [if_neg (show ¬ (o.way.length:Int)<o.gone by omega)]; rfl⟩
section
variable {w:Zd} (hf:WFit w) (hb:ZZ w.network w.bookings=true)
include hf hb
theorem Zu5 {o:Zf} (hl:o.way.length≤1048576) (i:Nat) (hi:i<1048576):Zj (Zdi w (i:Int) o) NN (o.from_,0)=some (if allI (wayC w ((i+1:Nat):Int) o) 0 o.way=true then .inl (endV w.network o) else .inr false):=by
 refine Zfs (A:=ByteArray) (fun a i=>(a,i)) _ (fun _ t=>ZL w.network t) id (fun a j t ht=>?_) (fun a=>?_) (by unfold NN; omega) o.from_
 ·have hlt:=(List.getElem?_eq_some_iff.1 ht).1
  have hg:getI o.way (j:Int)=some t:=by rw [Zn]; exact ht
  have hj:w64 ((j:Int)+1)=((j+1:Nat):Int):=ZR hlt (by omega)
  have hi1:w64 ((i:Int)+1)=((i+1:Nat):Int):=by rw [Zo (by omega)]; omega
  unfold Zdi
  simp only [decide_eq_true (show (j:Int)<o.way.length by omega),cond_true,hg,Option.bind_some,hj,hi1,ZgB hf.net,ZtU hf.bookings]
  unfold wayC
  cases ht':ZbJ w.network t with
  | false=>simp
  | true=>
   obtain ⟨y,hy,_⟩:=Zah hf.net ht'
   have hlt':ZL w.network t=y.to_:=by unfold ZL; rw [hy]; rfl
   simp only [hy,Option.bind_some,hlt',Bool.not_true,cond_false]
   cases ZcD w.bookings ((i+1:Nat):Int) t o.weight with
   | false=>simp
   | true=>
    simp only [Bool.not_true,cond_false,Bool.true_and]
    by_cases h1:y.to_=o.to_
    ·by_cases h2:j+1<o.way.length
     ·simp [h1,h2,show ((j:Int)+1)<o.way.length by omega]
     ·simp [h1,h2,show ¬ ((j:Int)+1)<o.way.length by omega]
    ·simp [h1]
 ·unfold Zdi
  simp
theorem Zu4 {o:Zf} (hl:o.way.length≤1048576) (i:Nat) (hi:i<1048576) (ho:getI w.orders (i:Int)=some o) (hg0:0≤o.gone∧o.gone≤o.way.length):
 Zj (ZdE w ((i+1:Nat):Int) o) NN (o.from_,0)=some (if (allI (wayC w ((i+1:Nat):Int) o) 0 o.way && !((o.way.drop (Zm o).toNat).any (Z2 w.closed)))=true then .inl (endV w.network o) else .inr false):=by
 obtain ⟨c1,c2,c3⟩:=Zhh hg0 hl
 have hcl:(!((o.way.drop (Zm o).toNat).any (Z2 w.closed)))=allI (fun j t=>!(decide ((if (o.way.length:Int)<Zm o then (o.way.length:Int) else Zm o)≤(j:Int)) && Z2 w.closed t)) 0 o.way:=by
  rw [Zj2]
  congr 2
  split
  ·rename_i h
   rw [List.drop_eq_nil_of_le (by omega),List.drop_eq_nil_of_le (by omega)]
  ·congr 1; omega
 rw [hcl,← Zo4]
 have hnet:=(Zav hb).1
 refine Zfs (A:=ByteArray) (fun a i=>(a,i)) _ (fun _ t=>ZL w.network t) id (fun a j t ht=>?_) (fun a=>?_) (by unfold NN; omega) o.from_
 ·have hlt:=(List.getElem?_eq_some_iff.1 ht).1
  have hg:getI o.way (j:Int)=some t:=by rw [Zn]; exact ht
  have hj:w64 ((j:Int)+1)=((j+1:Nat):Int):=ZR hlt (by omega)
  have hw1:w64 ((o.way.length:Int)-1)=(o.way.length:Int)-1:=Zo (by omega)
  have ho':getI w.orders (w64 (((i+1:Nat):Int)-1))=some o:=by rw [Zo (by omega),show ((i+1:Nat):Int)-1=(i:Int) by omega]; exact ho
  unfold ZdE
  simp only [decide_eq_true (show (j:Int)<o.way.length by omega),cond_true,hg,Option.bind_some,hj,hw1,ZhF hf.net hnet,ZgB hf.net,Zm1 hf.bookings (Zld hb) ho',c3,Zb1 hf.closed]
  unfold wayC
  cases ht':ZbJ w.network t with
  | false=>simp
  | true=>
   obtain ⟨y,hy,_⟩:=Zah hf.net ht'
   have hlt':ZL w.network t=y.to_:=by unfold ZL; rw [hy]; rfl
   simp only [hy,Option.bind_some,hlt',Bool.not_true,cond_false]
   cases ZcD w.bookings ((i+1:Nat):Int) t o.weight with
   | false=>simp
   | true=>
    simp only [Bool.not_true,cond_false,Bool.true_and]
    generalize (if (o.way.length:Int)<Zm o then (o.way.length:Int) else Zm o)=k
    have hcc:Z2 w.closed t=w.closed.any fun y=>decide (y=t):=rfl
    rw [hcc]
    by_cases h3:k≤(j:Int)
    ·rw [decide_eq_true h3,cond_true]
     cases w.closed.any fun y=>decide (y=t) with
     | true=>simp
     | false=>
      simp only [cond_false]
      by_cases h1:y.to_=o.to_
      ·by_cases h2:j+1<o.way.length
       ·simp [h1,h2,show (j:Int)<(o.way.length:Int)-1 by omega]
       ·simp [h1,h2,show ¬ (j:Int)<(o.way.length:Int)-1 by omega]
      ·simp [h1]
    ·rw [decide_eq_false h3,cond_false]
     by_cases h1:y.to_=o.to_
     ·by_cases h2:j+1<o.way.length
      ·simp [h1,h2,show (j:Int)<(o.way.length:Int)-1 by omega]
      ·simp [h1,h2,show ¬ (j:Int)<(o.way.length:Int)-1 by omega]
     ·simp [h1]
 ·unfold ZdE
  simp
theorem ZnZ {o:Zf} (hl:o.way.length≤1048576) {i:Nat} (hg0:0≤o.gone∧o.gone≤o.way.length) (h:allI (wayC w ((i+1:Nat):Int) o) 0 o.way=true):ZC w.network o w.now=some ((ZC w.network o w.now).getD false):=by
 obtain ⟨b,hb'⟩:=ZlI (n:=w.network) hg0 hl (fun t ht=>by
  obtain ⟨j,hj,rfl⟩:=List.getElem_of_mem ht
  have:=Zas.1 h j _ (List.getElem?_eq_getElem hj)
  unfold wayC at this
  simp only [Bool.and_eq_true] at this
  obtain ⟨y,hy,_⟩:=Zah hf.net this.1.1
  exact ⟨y,hy⟩) w.now
 rw [hb']; rfl
theorem Zq1 {o:Zf} {i:Nat} (ho:getI w.orders (i:Int)=some o):ZeG w (i:Int)=some (ZcY w i o):=by
 have hl:=hf.way o (ZgX ho)
 have hi:i<1048576:=by have:=(List.getElem?_eq_some_iff.1 (by rw [← Zn]; exact ho)).1; have:=hf.orders; omega
 have hp:=(Zac hf.net).2
 have hpl:=Zaz w.network
 have hll:=hf.net.legs
 unfold ZeG ZcY
 rw [ho,hp]
 simp only [Option.bind_some,ZbH,Zft (show (Zb w.network).length≤4194304 by omega)]
 cases decide (idxV (Zb w.network) o.from_<0) with
 | true=>rfl
 | false=>
 cases decide (idxV (Zb w.network) o.to_<0) with
 | true=>rfl
 | false=>
 cases decide (o.from_=o.to_) with
 | true=>rfl
 | false=>
 simp only [cond_false,Bool.not_false,Bool.true_and]
 cases decide (1≤o.service) && decide (o.service≤3) with
 | false=>rfl
 | true=>
 cases decide (1≤o.weight) && decide (o.weight≤30000) with
 | false=>rfl
 | true=>
 cases decide (0≤o.at_) && decide (o.at_≤w.now) with
 | false=>rfl
 | true=>
 cases decide (0≤o.due) && decide (o.due≤200000) with
 | false=>rfl
 | true=>
 simp only [cond_false,Bool.not_true,Bool.true_and]
 cases hg:decide (0≤o.gone) && decide (o.gone≤(o.way.length:Int)) with
 | false=>rfl
 | true=>
 simp only [Bool.and_eq_true,decide_eq_true_iff] at hg
 obtain ⟨c1,c2,c3⟩:=Zhh hg hl
 simp only [Bool.not_true,cond_false,Bool.true_and]
 rw [Zu5 hf hb hl i hi]
 cases hal:allI (wayC w ((i+1:Nat):Int) o) 0 o.way with
 | false=>rfl
 | true=>
 have hst:=ZnZ hf hb hl hg hal
 obtain ⟨r,hr⟩:=ZiR hf.net hl o.from_ (endV w.network o) (w64 (o.at_+1))
 simp only [if_true,Option.bind_some,ZY,hr,Option.getD_some,Bool.true_and]
 cases r with
 | false=>rfl
 | true=>
 rw [hst]
 simp only [Option.getD_some]
 cases (ZC w.network o w.now).getD false with
 | false=>rfl
 | true=>
 simp only [Bool.not_true,cond_false,Option.bind_some,c1,Zoh hf.closed hl c2,Bool.true_and]
 cases (o.way.drop (Zm o).toNat).any (Z2 w.closed) <;> rfl
theorem Zqn {o:Zf} {i:Nat} (ho:getI w.orders (i:Int)=some o):Ze5 w ((i+1:Nat):Int) (Zb w.network)=some (ZcY w i o):=by
 have hl:=hf.way o (ZgX ho)
 have hi:i<1048576:=by have:=(List.getElem?_eq_some_iff.1 (by rw [← Zn]; exact ho)).1; have:=hf.orders; omega
 have hpl:=Zaz w.network
 have hll:=hf.net.legs
 have ho':getI w.orders (w64 (((i+1:Nat):Int)-1))=some o:=by rw [Zo (by omega),show ((i+1:Nat):Int)-1=(i:Int) by omega]; exact ho
 unfold Ze5 ZcY
 rw [ho',Zej,ZdT]
 simp only [Option.bind_some,ZbH,Zft (show (Zb w.network).length≤4194304 by omega)]
 cases decide (o.from_=o.to_) with
 | true=>simp only [cond_true,Bool.not_true,Bool.and_false,Bool.false_and]
 | false=>
 cases decide (idxV (Zb w.network) o.from_<0) with
 | true=>rfl
 | false=>
 cases decide (idxV (Zb w.network) o.to_<0) with
 | true=>rfl
 | false=>
 simp only [cond_false,Bool.not_false,Bool.true_and]
 cases decide (1≤o.service) && decide (o.service≤3) with
 | false=>rfl
 | true=>
 cases decide (1≤o.weight) && decide (o.weight≤30000) with
 | false=>rfl
 | true=>
 cases decide (0≤o.at_) && decide (o.at_≤w.now) with
 | false=>rfl
 | true=>
 cases decide (0≤o.due) && decide (o.due≤200000) with
 | false=>rfl
 | true=>
 simp only [cond_false,Bool.not_true,Bool.true_and]
 cases hg:decide (0≤o.gone) && decide (o.gone≤(o.way.length:Int)) with
 | false=>rfl
 | true=>
 simp only [Bool.and_eq_true,decide_eq_true_iff] at hg
 simp only [Bool.not_true,cond_false,Bool.true_and]
 rw [Zu4 hf hb hl i hi ho hg]
 cases hal:allI (wayC w ((i+1:Nat):Int) o) 0 o.way with
 | false=>rfl
 | true=>
 have hst:=ZnZ hf hb hl hg hal
 obtain ⟨r,hr⟩:=ZiR hf.net hl o.from_ (endV w.network o) (w64 (o.at_+1))
 simp only [Bool.true_and]
 rw [hr]
 cases (o.way.drop (Zm o).toNat).any (Z2 w.closed) with
 | true=>simp
 | false=>
 simp only [Bool.not_false,if_true,Option.bind_some,ZY,Zuq hf.net,hr,Option.getD_some,Bool.true_and,Zu2,Bool.and_true]
 cases r with
 | false=>rfl
 | true=>
 rw [hst]
 rfl
end
def ZgV (w:Zd) (i:Nat) (t:Ze):Bool:=ZbJ w.network t && !Z2 (w.closed.take i) t
def Zk0 (w:Zd) (i:Nat) (s:Zk):Bool:=(ZB w.network s).getD false && !decide (w.now<s.at_)
def Zjg (w:Zd):Int:=w.orders.foldl (fun a o=>w64 (a+(o.way.length:Int))) 0
def ZcB (w:Zd):Bool:=
 ZZ w.network w.bookings && (decide (0≤w.now) && decide (w.now≤100000)) && !decide (30<(w.orders.length:Int)) && !decide (20<(w.closed.length:Int)) && !decide (200<(w.scans.length:Int)) && !decide (50<(w.skip.length:Int)) && (decide ((w.scans.length:Int)≤w.made) && decide (w.made≤1000000000)) &&
  allI (ZgV w) 0 w.closed && allI (Zk0 w) 0 w.scans && allI (ZcY w) 0 w.orders && decide (Zjg w=(w.bookings.length:Int))
theorem ZnO {α:Type} (xs:List α) (i:Nat):subL xs 0 (i:Int)=xs.take i:=by simp [subL]
section
variable {w:Zd} (hf:WFit w) (hb:ZZ w.network w.bookings=true)
include hf
theorem ZvA (s:Zk):ZB w.network s=some ((ZB w.network s).getD false):=by
 obtain ⟨b,h⟩:=ZgZ hf.net s
 rw [h]; rfl
theorem Zoi:Zj (ZdL w) NN 0=some (if allI (ZgV w) 0 w.closed=true then .inl () else .inr false):=by
 refine Zfs (A:=Unit) (fun _ i=>i) _ (fun a _=>a) id (fun a i t ht=>?_) (fun a=>?_) (by have:=hf.closed; unfold NN; omega) ()
 ·have hlt:=(List.getElem?_eq_some_iff.1 ht).1
  have hcl:=hf.closed
  have hg:getI w.closed (i:Int)=some t:=by rw [Zn]; exact ht
  have hi:w64 ((i:Int)+1)=((i+1:Nat):Int):=ZR hlt (by omega)
  have hs:chk (slOk 0 (i:Int) w.closed.length)=some ():=Zjh (by unfold slOk; rw [decide_eq_true_iff]; omega)
  unfold ZdL
  simp only [decide_eq_true (show (i:Int)<w.closed.length by omega),cond_true,hg,Option.bind_some,hi,hs,ZgB hf.net,ZnO,Zcs,Zb1 (show (w.closed.take i).length≤1048576 by simp; omega)]
  unfold ZgV
  have hcd:((w.closed.take i).any fun y=>decide (y=t))=Z2 (w.closed.take i) t:=rfl
  rw [hcd]
  cases ZbJ w.network t <;> cases Z2 (w.closed.take i) t <;> rfl
 ·unfold ZdL
  simp
theorem Zog (hb:ZZ w.network w.bookings=true):Zj (Zdy w) NN 0=some (if allI (ZgV w) 0 w.closed=true then .inl () else .inr false):=by
 have hnet:=(Zav hb).1
 refine Zfs (A:=Unit) (fun _ i=>i) _ (fun a _=>a) id (fun a i t ht=>?_) (fun a=>?_) (by have:=hf.closed; unfold NN; omega) ()
 ·have hlt:=(List.getElem?_eq_some_iff.1 ht).1
  have hcl:=hf.closed
  have hg:getI w.closed (i:Int)=some t:=by rw [Zn]; exact ht
  have hi:w64 ((i:Int)+1)=((i+1:Nat):Int):=ZR hlt (by omega)
  have hs:chk (slOk 0 (i:Int) w.closed.length)=some ():=Zjh (by unfold slOk; rw [decide_eq_true_iff]; omega)
  unfold Zdy
  simp only [decide_eq_true (show (i:Int)<w.closed.length by omega),cond_true,hg,Option.bind_some,hi,hs,ZhF hf.net hnet,ZgB hf.net,ZnO,Zb1 (show (w.closed.take i).length≤1048576 by simp; omega)]
  unfold ZgV
  have hcd:((w.closed.take i).any fun y=>decide (y=t))=Z2 (w.closed.take i) t:=rfl
  rw [hcd]
  cases ZbJ w.network t <;> cases Z2 (w.closed.take i) t <;> rfl
 ·unfold Zdy
  simp
theorem ZqZ:Zj (ZdM w) NN 0=some (if allI (Zk0 w) 0 w.scans=true then .inl () else .inr false):=by
 refine Zfs (A:=Unit) (fun _ i=>i) _ (fun a _=>a) id (fun a i s hs=>?_) (fun a=>?_) (by have:=hf.scans; unfold NN; omega) ()
 ·have hlt:=(List.getElem?_eq_some_iff.1 hs).1
  have hcl:=hf.scans
  have hg:getI w.scans (i:Int)=some s:=by rw [Zn]; exact hs
  have hi:w64 ((i:Int)+1)=((i+1:Nat):Int):=ZR hlt (by omega)
  unfold ZdM
  rw [decide_eq_true (show (i:Int)<w.scans.length by omega),cond_true,hg]
  simp only [Option.bind_some]
  rw [ZvA hf s]
  simp only [Option.bind_some,hi]
  unfold Zk0
  cases (ZB w.network s).getD false <;> cases decide (w.now<s.at_) <;> rfl
 ·unfold ZdM
  simp
theorem ZqY:Zj (Zdz w) NN 0=some (if allI (Zk0 w) 0 w.scans=true then .inl () else .inr false):=by
 refine Zfs (A:=Unit) (fun _ i=>i) _ (fun a _=>a) id (fun a i s hs=>?_) (fun a=>?_) (by have:=hf.scans; unfold NN; omega) ()
 ·have hlt:=(List.getElem?_eq_some_iff.1 hs).1
  have hcl:=hf.scans
  have hg:getI w.scans (i:Int)=some s:=by rw [Zn]; exact hs
  have hi:w64 ((i:Int)+1)=((i+1:Nat):Int):=ZR hlt (by omega)
  unfold Zdz
  rw [decide_eq_true (show (i:Int)<w.scans.length by omega),cond_true,hg]
  simp only [Option.bind_some]
  rw [Zkn hf.net,ZvA hf s]
  simp only [Option.bind_some,hi]
  unfold Zk0
  cases (ZB w.network s).getD false <;> cases decide (w.now<s.at_) <;> rfl
 ·unfold Zdz
  simp
include hb
theorem Zoy:Zj (ZdN w) NN (0,0)=some (if allI (ZcY w) 0 w.orders=true then .inl (Zjg w) else .inr false):=by
 refine Zfs (A:=Int) (fun a i=>(a,i)) _ (fun a (o:Zf)=>w64 (a+(o.way.length:Int))) id (fun a i o ho=>?_) (fun a=>?_) (by have:=hf.orders; unfold NN; omega) 0
 ·have hlt:=(List.getElem?_eq_some_iff.1 ho).1
  have hcl:=hf.orders
  have hg:getI w.orders (i:Int)=some o:=by rw [Zn]; exact ho
  have hi:w64 ((i:Int)+1)=((i+1:Nat):Int):=ZR hlt (by omega)
  unfold ZdN
  simp only [decide_eq_true (show (i:Int)<w.orders.length by omega),cond_true,hg,Option.bind_some,hi,Zq1 hf hb hg]
  cases ZcY w i o <;> rfl
 ·unfold ZdN
  simp
theorem Zox:Zj (ZdA w (Zb w.network)) NN (0,0)=some (if allI (ZcY w) 0 w.orders=true then .inl (Zjg w) else .inr false):=by
 refine Zfs (A:=Int) (fun a i=>(a,i)) _ (fun a (o:Zf)=>w64 (a+(o.way.length:Int))) id (fun a i o ho=>?_) (fun a=>?_) (by have:=hf.orders; unfold NN; omega) 0
 ·have hlt:=(List.getElem?_eq_some_iff.1 ho).1
  have hcl:=hf.orders
  have hg:getI w.orders (i:Int)=some o:=by rw [Zn]; exact ho
  have hi:w64 ((i:Int)+1)=((i+1:Nat):Int):=ZR hlt (by omega)
  unfold ZdA
  simp only [decide_eq_true (show (i:Int)<w.orders.length by omega),cond_true,hg,Option.bind_some,hi,Zqn hf hb hg]
  cases ZcY w i o <;> rfl
 ·unfold ZdA
  simp
end
theorem ZiS {γ:Type} {b:Bool} {x:γ} {K:γ→Option Bool} {r:Bool} (h:b=true→K x=some r) (h':b=false→r=false):(some (if b=true then (Sum.inl x:γ ⊕ Bool) else .inr false)).bind (ZY K (fun r=>some r))=some r:=by
 cases b with
 | true=>exact h rfl
 | false=>rw [h' rfl]; rfl
theorem Zge {w:Zd} (hf:WFit w):Zbs w=some (ZcB w):=by
 unfold Zbs ZcB
 rw [Zcu hf.net hf.bookings]
 simp only [Option.bind_some,ZbH]
 cases hb:ZZ w.network w.bookings with
 | false=>rfl
 | true=>
 cases decide (0≤w.now) && decide (w.now≤100000) with
 | false=>rfl
 | true=>
 cases decide (30<(w.orders.length:Int)) with
 | true=>rfl
 | false=>
 cases decide (20<(w.closed.length:Int)) with
 | true=>rfl
 | false=>
 cases decide (200<(w.scans.length:Int)) with
 | true=>rfl
 | false=>
 cases decide (50<(w.skip.length:Int)) with
 | true=>rfl
 | false=>
 cases decide ((w.scans.length:Int)≤w.made) && decide (w.made≤1000000000) with
 | false=>rfl
 | true=>
 simp only [Bool.not_true,Bool.not_false,cond_false,Bool.true_and]
 rw [Zoi hf,ZqZ hf,Zoy hf hb]
 refine ZiS (fun h1=>?_) (fun h1=>by rw [h1]; rfl)
 refine ZiS (fun h2=>?_) (fun h2=>by rw [h1,h2]; rfl)
 refine ZiS (fun h3=>?_) (fun h3=>by rw [h1,h2,h3]; rfl)
 rw [h1,h2,h3]; rfl
theorem ZeM {w:Zd} (hf:WFit w):Za8 w=some (ZcB w):=by
 unfold Za8 ZcB
 rw [Zh5 hf.net hf.bookings,Zej]
 simp only [Option.bind_some,ZbH]
 cases hb:ZZ w.network w.bookings with
 | false=>rfl
 | true=>
 cases decide (0≤w.now) && decide (w.now≤100000) with
 | false=>rfl
 | true=>
 cases decide (30<(w.orders.length:Int)) with
 | true=>rfl
 | false=>
 cases decide (20<(w.closed.length:Int)) with
 | true=>rfl
 | false=>
 cases decide (200<(w.scans.length:Int)) with
 | true=>rfl
 | false=>
 cases decide (50<(w.skip.length:Int)) with
 | true=>rfl
 | false=>
 cases decide ((w.scans.length:Int)≤w.made) && decide (w.made≤1000000000) with
 | false=>rfl
 | true=>
 simp only [Bool.not_true,Bool.not_false,cond_false,Bool.true_and]
 rw [Zog hf hb,ZqY hf,Zkj hf.net]
 simp only [Option.bind_some]
 rw [Zox hf hb]
 refine ZiS (fun h1=>?_) (fun h1=>by rw [h1]; rfl)
 refine ZiS (fun h2=>?_) (fun h2=>by rw [h1,h2]; rfl)
 refine ZiS (fun h3=>?_) (fun h3=>by rw [h1,h2,h3]; rfl)
 rw [h1,h2,h3]; rfl
theorem Zd8 {w:Zd} (h:ZcB w=true) {i:Nat} {o:Zf} (ho:w.orders[i]?=some o):ZcY w i o=true:=by
 unfold ZcB at h
 simp only [Bool.and_eq_true] at h
 have:=Zas.1 h.1.2 i o ho
 rwa [Nat.zero_add] at this
theorem ZkT {w:Zd} (h:ZcB w=true):ZZ w.network w.bookings=true:=by
 unfold ZcB at h
 simp only [Bool.and_eq_true] at h
 exact h.1.1.1.1.1.1.1.1.1.1
def ZaK (w:Zd) (s0:Int × Int):Option ((Int × Int) ⊕ Int):=
 cond (decide (s0.2<(w.orders.length:Int)))
 ((getI w.orders s0.2).bind fun y1=>
 cond (decide (y1.state=2))
 ((getI y1.way y1.gone).bind fun y2=>
 (ZO w.network y2).bind fun y3=>
 cond (decide (0≤y3))
 (cond (decide (s0.1<0))
 (some (.inl (y3,(w64 (s0.2+1)))))
 (cond (decide (y3<s0.1))
 (some (.inl (y3,(w64 (s0.2+1)))))
 (some (.inl (s0.1,(w64 (s0.2+1)))))))
 (some (.inl (s0.1,(w64 (s0.2+1))))))
 (cond (decide (y1.state=1))
 (cond (decide (y1.gone<(y1.way.length:Int)))
 ((getI y1.way y1.gone).bind fun y4=>
 (ZH w.network y4).bind fun y5=>
 cond (decide (0≤y5))
 (cond (decide (s0.1<0))
 (some (.inl (y5,(w64 (s0.2+1)))))
 (cond (decide (y5<s0.1))
 (some (.inl (y5,(w64 (s0.2+1)))))
 (some (.inl (s0.1,(w64 (s0.2+1)))))))
 (some (.inl (s0.1,(w64 (s0.2+1))))))
 (cond (decide (0≤(-1)))
 (cond (decide (s0.1<0))
 (some (.inl ((-1),(w64 (s0.2+1)))))
 (cond (decide ((-1)<s0.1))
 (some (.inl ((-1),(w64 (s0.2+1)))))
 (some (.inl (s0.1,(w64 (s0.2+1)))))))
 (some (.inl (s0.1,(w64 (s0.2+1)))))))
 (cond (decide (0≤(-1)))
 (cond (decide (s0.1<0))
 (some (.inl ((-1),(w64 (s0.2+1)))))
 (cond (decide ((-1)<s0.1))
 (some (.inl ((-1),(w64 (s0.2+1)))))
 (some (.inl (s0.1,(w64 (s0.2+1)))))))
 (some (.inl (s0.1,(w64 (s0.2+1))))))))
 (some (.inr s0.1))
instance (w:Zd):ZP (ZaK w):=⟨fun s0=>(.un::.be 0 0 0::.un::vi s0.1::(U 4 (.sl (w.orders.map Zw)::vi (w.orders.length:Int)::vi s0.2::(U 51 [])))),fun s0=>[some ⟨41,10,[[.sl (w.network.legs.map cLeg),.sl (w.network.off.map cInt),vi w.network.change,.sl (w.orders.map Zw),.sl (w.bookings.map Zg),.sl (w.closed.map Zs),vi w.now,.sl (w.scans.map ZF),.sl (w.skip.map cInt),vi w.made]]⟩]⟩
def ZbC (w:Zd):Option Int:=
 (Zj (ZaK w) NN ((-1),0)).bind (fun o0=>
 some o0)
instance (w:Zd):CT Tryz.prog (ZbC w):=⟨82,[.ag (Zbt w)],[],fun r=>vi r,fun r=>[],fun H=>by replace H:=H0 H; unfold ZbC at H; exact Zh Tryz.func82 rfl Tryz.ntmps82 Tryz.results82 fun Q hQ hQn=>wk3⟩
def ZbT (w:Zd) (s0:Int × Int):Option ((Int × Int) ⊕ Int):=
 cond (decide (s0.1<(w.orders.length:Int)))
 ((getI w.orders s0.1).bind fun y2=>
 cond (decide (y2.gone=(y2.way.length:Int)))
 (some (.inl ((w64 (s0.1+1)),s0.2)))
 ((getI y2.way y2.gone).bind fun y3=>
 (Zp w.network y3).bind fun y4=>
 cond (decide (y2.state=2))
 ((getI y2.way y2.gone).bind fun y5=>
 (Zq w.network y5).bind fun y6=>
 cond (decide (s0.2<0))
 (some (.inl ((w64 (s0.1+1)),y6)))
 (cond (decide (y6<s0.2))
 (some (.inl ((w64 (s0.1+1)),y6)))
 (some (.inl ((w64 (s0.1+1)),s0.2)))))
 (cond (decide (s0.2<0))
 (some (.inl ((w64 (s0.1+1)),y4)))
 (cond (decide (y4<s0.2))
 (some (.inl ((w64 (s0.1+1)),y4)))
 (some (.inl ((w64 (s0.1+1)),s0.2)))))))
 (some (.inr s0.2))
instance (w:Zd):ZP (ZbT w):=⟨fun s0=>(.un::.be 0 0 0::.un::vi s0.2::vi s0.1::(U 54 [])),fun s0=>[some ⟨41,10,[[.sl (w.network.legs.map cLeg),.sl (w.network.off.map cInt),vi w.network.change,.sl (w.orders.map Zw),.sl (w.bookings.map Zg),.sl (w.closed.map Zs),vi w.now,.sl (w.scans.map ZF),.sl (w.skip.map cInt),vi w.made]]⟩]⟩
def Zeg (w:Zd):Option Int:=
 (Zbs w).bind fun y1=>
 cond (!y1)
 (some (-1))
 ((Zj (ZbT w) NN (0,(-1))).bind (fun o0=>
 some o0))
instance (w:Zd):CT Tryz.prog (Zeg w):=⟨72,[.ag (Zbt w)],[],fun r=>vi r,fun r=>[],fun H=>by replace H:=H0 H; unfold Zeg at H; exact Zh Tryz.func72 rfl Tryz.ntmps72 Tryz.results72 fun Q hQ hQn=>wk3⟩
end Go.Proofs.YtmcdjilbkmhfoaaGreat
