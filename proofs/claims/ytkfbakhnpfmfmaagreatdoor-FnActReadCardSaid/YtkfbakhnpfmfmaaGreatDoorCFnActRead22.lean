/- A part of the proof of the statement in the last file of this claim: texts on the language of the program and on its functions. No condition. -/
import Derived.Test.YtkfbakhnpfmfmaaGreatDoorCFnActRead21
import Derived.Test.YtkfbakhnpfmfmaaGreatDoorCFnActRead13
import Derived.Test.YtkfbakhnpfmfmaaGreatDoorCFnActRead6
import Derived.Test.YtkfbakhnpfmfmaaGreatDoorCFnActRead10
import Derived.Test.YtkfbakhnpfmfmaaGreatDoorCFnActRead17
import Derived.Test.YtkfbakhnpfmfmaaGreatDoorCFnActRead11
import Derived.Test.YtkfbakhnpfmfmaaGreatDoorCFnActRead14
import Derived.Test.YtkfbakhnpfmfmaaGreatDoorCFnActRead19
set_option linter.unusedVariables false
set_option linter.unusedSimpArgs false
set_option linter.unusedSectionVars false
namespace Go.Proofs.YtkfbakhnpfmfmaaGreatDoor
set_option maxRecDepth 10000
open Go.RowKit
set_option linter.unusedVariables false
set_option linter.unusedSimpArgs false
set_option linter.unusedSectionVars false
structure Zwc (l:YLeg):Prop where
 start:0≤l.start∧l.start≤1439
 takes:1≤l.takes∧l.takes≤4320
 room:0≤l.room∧l.room≤1000000
theorem Zte {l:YLeg} (h:Zmn l) (hv:ZaD l=some true):Zwc l:=by
 obtain ⟨_,b1,s1⟩:=Zdq (s:=l.from_) h.1
 obtain ⟨_,b2,s2⟩:=Zdq (s:=l.to_) h.2
 unfold ZaD at hv
 rw [s1,s2] at hv
 simp only [Option.bind_some,Zac] at hv
 cases b1 with
 | false=>simp at hv
 | true=>
 cases b2 with
 | false=>simp at hv
 | true=>
 simp only [cond_true] at hv
 cases h1:decide (l.from_=l.to_) with
 | true=>rw [h1] at hv; simp at hv
 | false=>
 rw [h1] at hv
 cases h2:decide (0≤l.start) && decide (l.start≤1439) with
 | false=>rw [h2] at hv; simp at hv
 | true=>
 rw [h2] at hv
 cases h3:decide (1≤l.takes) && decide (l.takes≤4320) with
 | false=>rw [h3] at hv; simp at hv
 | true=>
 rw [h3] at hv
 cases h4:decide (1≤l.days) && decide (l.days≤127) with
 | false=>rw [h4] at hv; simp at hv
 | true=>
 rw [h4] at hv
 cases h5:decide (0≤l.room) && decide (l.room≤1000000) with
 | false=>rw [h5] at hv; simp at hv
 | true=>
 simp only [Bool.and_eq_true,decide_eq_true_iff] at h2 h3 h5
 exact ⟨h2,h3,h5⟩
theorem Zvs {n:Za} (h:ZbC n) (hn:Zm n=some true):∀ l∈n.legs,Zwc l:=by
 have e:Zj (Zz n) NN 0=some (if allI (fun _ l=>(ZaD l).getD false) 0 n.legs=true then .inl () else .inr false):=by
  refine Zex (A:=Unit) (fun _ i=>i) _ (fun a _=>a) id (fun a i l hl=>?_) (fun a=>?_) (by have:=h.legs; unfold NN; omega) ()
  ·have hlt:=(List.getElem?_eq_some_iff.1 hl).1
   have hcl:=h.legs
   have hg:getI n.legs (i:Int)=some l:=by rw [Zx]; exact hl
   have hi:w64 ((i:Int)+1)=((i+1:Nat):Int):=Z8 hlt (by omega)
   obtain ⟨_,b,hb⟩:=Zi1 (h.leg l (List.mem_of_getElem? hl))
   unfold Zz
   simp only [decide_eq_true (show (i:Int)<n.legs.length by omega),cond_true,hg,Option.bind_some,hb,hi,Option.getD_some]
   cases b <;> rfl
  ·unfold Zz
   simp
 unfold Zm at hn
 rw [e] at hn
 by_cases ha:allI (fun _ l=>(ZaD l).getD false) 0 n.legs=true
 ·intro l hl
  obtain ⟨i,hi,rfl⟩:=List.getElem_of_mem hl
  have:=Zcx.1 ha i _ (List.getElem?_eq_getElem hi)
  obtain ⟨_,b,hb⟩:=Zi1 (h.leg _ (List.getElem_mem hi))
  rw [hb] at this
  simp at this
  subst this
  exact Zte (h.leg _ (List.getElem_mem hi)) hb
 ·rw [if_neg ha] at hn
  simp at hn
theorem ZtX {n:Za} {t:Zg} (ht:Ze6 n t=true):0≤t.day∧t.day≤60:=by
 unfold Ze6 ZW at ht
 rw [Zac,Zac] at ht
 simp only [Option.bind_some] at ht
 cases h1:decide (0≤t.leg) && decide (t.leg≤w64 ((n.legs.length:Int)-1)) with
 | false=>rw [h1] at ht; simp at ht
 | true=>
 rw [h1] at ht
 simp only [cond_true] at ht
 cases h2:decide (0≤t.day) && decide (t.day≤60) with
 | false=>rw [h2] at ht; simp at ht
 | true=>simpa only [Bool.and_eq_true,decide_eq_true_iff] using h2
def Za5 (n:Za) (t:Zg):Int:=(Zt n t).getD 0
def Zdy (n:Za) (t:Zg):Int:=(Zv n t).getD 0
theorem ZcX {n:Za} (h:ZbC n) (hn:Zm n=some true) {t:Zg} (ht:Ze6 n t=true):
 Zt n t=some (Za5 n t)∧Zv n t=some (Zdy n t)∧0≤Za5 n t∧Za5 n t<Zdy n t∧Zdy n t≤100000:=by
 obtain ⟨y,hy,hm⟩:=Zdp h ht
 obtain ⟨d0,d1⟩:=ZtX ht
 have hl:=Zvs h hn y hm
 obtain ⟨a0,a1⟩:=hl.start
 obtain ⟨b0,b1⟩:=hl.takes
 have e1:Zt n t=some (t.day*1440+y.start):=by
  unfold Zt
  rw [hy]
  simp only [Option.bind_some]
  rw [Zn (n:=t.day*1440) (by omega),Zn (by omega)]
 have e2:Zv n t=some (t.day*1440+y.start+y.takes):=by
  unfold Zv
  rw [e1,hy]
  simp only [Option.bind_some]
  rw [Zn (by omega)]
 have s1:Za5 n t=t.day*1440+y.start:=by unfold Za5; rw [e1]; rfl
 have s2:Zdy n t=t.day*1440+y.start+y.takes:=by unfold Zdy; rw [e2]; rfl
 refine ⟨by rw [e1,s1],by rw [e2,s2],by omega,by omega,by omega⟩
theorem Zn4 {n:Za} {o:Zh} {now:Int} (h:ZP n o now=some true):(o.state=1∧¬ (o.place=o.to_))∨(o.state=2∧o.gone<o.way.length)∨(o.state=3∧o.gone=o.way.length∧0<o.gone):=by
 by_cases h1:o.state=1
 ·refine .inl ⟨h1,fun hp=>?_⟩
  unfold ZP at h
  rw [decide_eq_true h1] at h
  cases h0:decide (0<o.gone) with
  | false=>
   rw [h0] at h
   simp only [cond_false,cond_true] at h
   cases hq:decide (o.place=o.from_) with
   | false=>rw [hq] at h; cases h
   | true=>
    rw [hq,decide_eq_true (show o.from_=o.to_ from (of_decide_eq_true hq).symm.trans hp)] at h
    cases h
  | true=>
   rw [h0] at h
   simp only [cond_false,cond_true] at h
   cases hg:getI o.way (w64 (o.gone-1)) with
   | none=>rw [hg] at h; cases h
   | some y1=>
    rw [hg] at h
    simp only [Option.bind_some] at h
    cases hl:getI n.legs y1.leg with
    | none=>rw [hl] at h; cases h
    | some y2=>
     rw [hl] at h
     simp only [Option.bind_some] at h
     cases he:Zv n y1 with
     | none=>rw [he] at h; cases h
     | some v=>
      rw [he] at h
      simp only [Option.bind_some] at h
      cases hc:decide (now<v) with
      | true=>rw [hc] at h; cases h
      | false=>
       rw [hc] at h
       simp only [cond_false] at h
       cases hq:decide (o.place=y2.to_) with
       | false=>rw [hq] at h; cases h
       | true=>
        rw [hq,decide_eq_true (show y2.to_=o.to_ from (of_decide_eq_true hq).symm.trans hp)] at h
        cases h
 ·by_cases h2:o.state=2
  ·refine .inr (.inl ⟨h2,?_⟩)
   rcases Classical.em (o.gone<o.way.length) with hlt | hlt
   ·exact hlt
   exfalso
   unfold ZP at h
   rw [decide_eq_false h1,decide_eq_true h2,decide_eq_false hlt] at h
   cases h0:decide (0<o.gone) with
   | false=>
    rw [h0] at h
    simp only [cond_false,cond_true] at h
    revert h; cases decide (o.place=⟨#[]⟩) <;> cases decide (o.ended=0) <;> (intro h; cases h)
   | true=>
    rw [h0] at h
    simp only [cond_false,cond_true] at h
    cases hg:getI o.way (w64 (o.gone-1)) with
    | none=>rw [hg] at h; cases h
    | some y1=>
     rw [hg] at h
     simp only [Option.bind_some] at h
     cases hl:getI n.legs y1.leg with
     | none=>rw [hl] at h; cases h
     | some y2=>
      rw [hl] at h
      simp only [Option.bind_some] at h
      cases he:Zv n y1 with
      | none=>rw [he] at h; cases h
      | some v=>
       rw [he] at h
       simp only [Option.bind_some] at h
       revert h; cases decide (now<v) <;> cases decide (o.place=⟨#[]⟩) <;> cases decide (o.ended=0) <;> (intro h; cases h)
  ·by_cases h3:o.state=3
   ·refine .inr (.inr ⟨h3,?_⟩)
    rcases Classical.em (o.gone=o.way.length∧0<o.gone) with hlt | hlt
    ·exact hlt
    exfalso
    unfold ZP at h
    rw [decide_eq_false h1,decide_eq_false h2,decide_eq_true h3] at h
    cases h0:decide (0<o.gone) with
    | false=>
     rw [h0] at h
     simp only [cond_false,cond_true] at h
     revert h; cases decide (o.place=o.to_) <;> cases decide (o.from_=o.to_) <;> cases decide (o.gone=(o.way.length:Int)) <;> (intro h; cases h)
    | true=>
     have hne:¬ o.gone=(o.way.length:Int):=fun e=>hlt ⟨e,of_decide_eq_true h0⟩
     rw [h0,decide_eq_false hne] at h
     simp only [cond_false,cond_true] at h
     cases hg:getI o.way (w64 (o.gone-1)) with
     | none=>rw [hg] at h; cases h
     | some y1=>
      rw [hg] at h
      simp only [Option.bind_some] at h
      cases hl:getI n.legs y1.leg with
      | none=>rw [hl] at h; cases h
      | some y2=>
       rw [hl] at h
       simp only [Option.bind_some] at h
       cases he:Zv n y1 with
       | none=>rw [he] at h; cases h
       | some v=>
        rw [he] at h
        simp only [Option.bind_some] at h
        revert h; cases decide (now<v) <;> cases decide (o.place=o.to_) <;> cases decide (y2.to_=o.to_) <;> (intro h; cases h)
   ·exfalso
    unfold ZP at h
    rw [decide_eq_false h1,decide_eq_false h2,decide_eq_false h3] at h
    cases h0:decide (0<o.gone) with
    | false=>rw [h0] at h; cases h
    | true=>
     rw [h0] at h
     simp only [cond_false,cond_true] at h
     cases hg:getI o.way (w64 (o.gone-1)) with
     | none=>rw [hg] at h; cases h
     | some y1=>
      rw [hg] at h
      simp only [Option.bind_some] at h
      cases hl:getI n.legs y1.leg with
      | none=>rw [hl] at h; cases h
      | some y2=>
       rw [hl] at h
       simp only [Option.bind_some] at h
       cases he:Zv n y1 with
       | none=>rw [he] at h; cases h
       | some v=>
        rw [he] at h
        simp only [Option.bind_some] at h
        revert h; cases decide (now<v) <;> (intro h; cases h)
structure Zqg (w:Ze) (i:Nat) (o:Zh):Prop where
 gone:0≤o.gone∧o.gone≤o.way.length
 trip:∀ t∈o.way,Ze6 w.network t=true
 way:allI (wayC w ((i+1:Nat):Int) o) 0 o.way=true
 isWay:Zci w.network o.way o.from_ (endV w.network o) (w64 (o.at_+1))=some true
 st:ZP w.network o w.now=some true
 cases:(o.state=1∧¬ (o.place=o.to_))∨(o.state=2∧o.gone<o.way.length)∨(o.state=3∧o.gone=o.way.length∧0<o.gone)
 open_:((o.way.drop (ZO o).toNat).any (ZfH w.closed))=false
 fromto:¬ o.from_=o.to_
 at_:0≤o.at_∧o.at_≤w.now
 due:0≤o.due∧o.due≤200000
theorem Ztr {w:Ze} (hf:WFit w) {i:Nat} {o:Zh} (hl:o.way.length≤1048576) (h:ZfW w i o=true):Zqg w i o:=by
 unfold ZfW at h
 simp only [Bool.and_eq_true,Bool.not_eq_true',decide_eq_true_iff,decide_eq_false_iff_not] at h
 obtain ⟨⟨⟨⟨⟨⟨⟨⟨⟨⟨⟨h1,h2⟩,h3⟩,h4⟩,h5⟩,h6⟩,h7⟩,h8⟩,h9⟩,h10⟩,h11⟩,h12⟩:=h
 have ht:∀ t∈o.way,Ze6 w.network t=true:=by
  intro t ht
  obtain ⟨j,hj,rfl⟩:=List.getElem_of_mem ht
  have:=Zcx.1 h9 j _ (List.getElem?_eq_getElem hj)
  unfold wayC at this
  simp only [Bool.and_eq_true] at this
  exact this.1.1
 obtain ⟨r,hr⟩:=ZkD hf.net hl o.from_ (endV w.network o) (w64 (o.at_+1))
 obtain ⟨b,hb⟩:=ZkT (n:=w.network) h8 hl (fun t htt=>by obtain ⟨y,hy,_⟩:=Zdp hf.net (ht t htt); exact ⟨y,hy⟩) w.now
 rw [hr] at h10
 rw [hb] at h11
 simp only [Option.getD_some] at h10 h11
 subst h10 h11
 exact ⟨h8,ht,h9,hr,hb,Zn4 hb,h12,h3,h6,h7⟩
section
variable {w:Ze} (hf:WFit w) (hv:Zcw w=true)
include hf hv
theorem Zd0 {i:Nat} {o:Zh} (ho:w.orders[i]?=some o):Zqg w i o:=Ztr hf (hf.way o (List.mem_of_getElem? ho)) (Zhu hv ho)
theorem Zne:Zm w.network=some true:=(Zjc (Zj7 hv)).1
theorem Zpm {o:Zh} {i:Nat} (ho:w.orders[i]?=some o) {k:Int} (h0:0≤k) (h1:k<o.way.length):∃ t,getI o.way k=some t∧Ze6 w.network t=true:=by
 have hlt:k.toNat<o.way.length:=by omega
 exact ⟨o.way[k.toNat],by unfold getI; rw [if_pos h0]; exact List.getElem?_eq_getElem hlt,(Zd0 hf hv ho).trip _ (List.getElem_mem hlt)⟩
theorem Zvv:Zef w=(Zj (Zba w) NN (0,(-1))).bind (fun o0=>some o0):=by
 have hnet:=Zne hf hv
 have hor:=hf.orders
 let F:Nat→Int→Zh→Option (Int ⊕ Int):=fun _ a o=>
  if o.gone=o.way.length then some (.inl a) else (getI o.way o.gone).bind fun t=>
   let v:=if o.state=2 then Zdy w.network t else Za5 w.network t
   some (.inl (if a<0∨v<a then v else a))
 have e1:Zj (ZaN w) NN ((-1),0)=runL F some 0 w.orders (-1):=by
  refine Zgu (A:=Int) (fun a i=>(a,i)) F some (fun a i o ho=>?_) (fun a=>?_) (by unfold NN; omega) (-1)
  ·have hlt:=(List.getElem?_eq_some_iff.1 ho).1
   have hg:getI w.orders (i:Int)=some o:=by rw [Zx]; exact ho
   have hi:w64 ((i:Int)+1)=((i+1:Nat):Int):=Z8 hlt (by omega)
   have hok:=Zd0 hf hv ho
   unfold ZaN
   simp only [decide_eq_true (show (i:Int)<w.orders.length by omega),cond_true,hg,Option.bind_some,hi,Zj1,Znu]
   show _=(F i a o).bind _
   simp only [F]
   by_cases hgl:o.gone<o.way.length
   ·obtain ⟨t,htg,htb⟩:=Zpm hf hv ho hok.gone.1 hgl
    obtain ⟨t1,t2,t3,t4,t5⟩:=ZcX hf.net hnet htb
    rw [if_neg (show ¬ o.gone=(o.way.length:Int) by omega),htg]
    simp only [Option.bind_some,t1,t2,decide_eq_true hgl]
    rcases hok.cases with ⟨c1,_⟩ | ⟨c1,_⟩ | ⟨c1,c2,_⟩
    ·rw [c1]
     simp only [show decide ((1:Int)=2)=false from rfl,show decide ((1:Int)=1)=true from rfl,cond_true,cond_false,decide_eq_true t3,show ¬ ((1:Int)=2) by omega,if_false,Zu]
     by_cases ha:a<0
     ·simp [ha]
     ·by_cases hb:Za5 w.network t<a <;> simp [ha,hb]
    ·rw [c1]
     simp only [show decide ((2:Int)=2)=true from rfl,cond_true,decide_eq_true (show 0≤Zdy w.network t by omega),if_true,Zu]
     by_cases ha:a<0
     ·simp [ha]
     ·by_cases hb:Zdy w.network t<a <;> simp [ha,hb]
    ·omega
   ·have hge:=hok.gone.2
    rw [if_pos (show o.gone=(o.way.length:Int) by omega),decide_eq_false hgl]
    rcases hok.cases with ⟨c1,_⟩ | ⟨c1,_⟩ | ⟨c1,c2,_⟩
    ·rw [c1]; rfl
    ·omega
    ·rw [c1]; rfl
  ·unfold ZaN
   simp
 have e2:Zj (Zba w) NN (0,(-1))=runL F some 0 w.orders (-1):=by
  refine Zgu (A:=Int) (fun a i=>(i,a)) F some (fun a i o ho=>?_) (fun a=>?_) (by unfold NN; omega) (-1)
  ·have hlt:=(List.getElem?_eq_some_iff.1 ho).1
   have hg:getI w.orders (i:Int)=some o:=by rw [Zx]; exact ho
   have hi:w64 ((i:Int)+1)=((i+1:Nat):Int):=Z8 hlt (by omega)
   have hok:=Zd0 hf hv ho
   unfold Zba
   simp only [decide_eq_true (show (i:Int)<w.orders.length by omega),cond_true,hg,Option.bind_some,hi]
   show _=(F i a o).bind _
   simp only [F]
   by_cases hgl:o.gone<o.way.length
   ·obtain ⟨t,htg,htb⟩:=Zpm hf hv ho hok.gone.1 hgl
    obtain ⟨t1,t2,t3,t4,t5⟩:=ZcX hf.net hnet htb
    rw [if_neg (show ¬ o.gone=(o.way.length:Int) by omega),decide_eq_false (show ¬ o.gone=(o.way.length:Int) by omega),htg]
    simp only [Option.bind_some,t1,t2,cond_false]
    by_cases c1:o.state=2
    ·simp only [decide_eq_true c1,cond_true,if_pos c1,Zu]
     by_cases ha:a<0
     ·simp [ha]
     ·by_cases hb:Zdy w.network t<a <;> simp [ha,hb]
    ·simp only [decide_eq_false c1,cond_false,if_neg c1,Zu]
     by_cases ha:a<0
     ·simp [ha]
     ·by_cases hb:Za5 w.network t<a <;> simp [ha,hb]
   ·have hge:=hok.gone.2
    rw [if_pos (show o.gone=(o.way.length:Int) by omega),decide_eq_true (show o.gone=(o.way.length:Int) by omega)]
    rfl
  ·unfold Zba
   simp
 unfold Zef
 rw [e1,e2]
end
theorem Zn5 {w:Ze} (hf:WFit w) (hv:Zcw w=true) {i:Nat} {o:Zh} (ho:w.orders[i]?=some o):∃ b,ZfV w o=some b∧Zcn w (i:Int)=some b∧(b=false→0<o.way.length):=by
 have hok:=Zd0 hf hv ho
 have hl:=hf.way o (List.mem_of_getElem? ho)
 obtain ⟨c1,c2,c3⟩:=Zk2 hok.gone hl
 have hg:getI w.orders (i:Int)=some o:=by rw [Zx]; exact ho
 unfold ZfV Zcn
 rw [hg]
 simp only [Option.bind_some]
 rcases hok.cases with ⟨k1,k2⟩ | ⟨k1,k2⟩ | ⟨k1,k2,k3⟩
 ·have hcv:ZO o=o.gone:=by unfold ZO; rw [k1]; rfl
  have hge:=hok.gone
  have hh:Zao w.network o=some o.place:=by unfold Zao; rw [k1]; rfl
  rw [Zq5,hh,c1,c3,hcv,if_neg (show ¬ (o.way.length:Int)<o.gone by omega),k1]
  simp only [Option.bind_some]
  by_cases hgl:o.gone=o.way.length
  ·refine ⟨true,?_,?_,fun h=>by cases h⟩
   ·rw [decide_eq_true hgl,decide_eq_false k2]; rfl
   ·rw [decide_eq_true hgl,decide_eq_false k2]; rfl
  ·exact ⟨false,by rw [decide_eq_false hgl]; rfl,by rw [decide_eq_false hgl]; rfl,fun _=>by omega⟩
 ·have hcv:ZO o=o.gone+1:=by unfold ZO; rw [k1]; rfl
  have hge:=hok.gone
  obtain ⟨t,htg,htb⟩:=Zpm hf hv ho hok.gone.1 k2
  obtain ⟨y,hy,_⟩:=Zdp hf.net htb
  have hh:Zao w.network o=some y.to_:=by unfold Zao; rw [k1,htg]; simp [hy]
  rw [Zq5,hh,c1,c3,hcv,if_neg (show ¬ (o.way.length:Int)<o.gone+1 by omega),k1]
  simp only [Option.bind_some]
  cases decide (o.gone+1=(o.way.length:Int)) with
  | true=>exact ⟨_,rfl,rfl,fun _=>by omega⟩
  | false=>exact ⟨_,rfl,rfl,fun _=>by omega⟩
 ·rw [k1]
  exact ⟨false,rfl,rfl,fun _=>by omega⟩
theorem Zjz {σ ο:Type} {body:σ→Option (σ ⊕ ο)} {P:ο→Prop} (h:∀ s o,body s=some (.inr o)→P o):∀ (N:Nat) (s:σ) (o:ο),Zj body N s=some o→P o
 | 0,s,o,he=>by simp [Zj] at he
 | N+1,s,o,he=>by
  simp only [Zj] at he
  cases hb:body s with
  | none=>rw [hb] at he; cases he
  | some x=>
   rw [hb] at he
   cases x with
   | inl s'=>exact Zjz h N s' o he
   | inr r=>obtain rfl:r=o:=by simpa [Zu] using he
            exact h s r hb
theorem Zvr {n:Za} (hn:Zm n=some true):(0≤n.change∧n.change≤240)∧n.legs.length≤20∧n.off.length≤10:=by
 unfold Zm at hn
 have p0:∀ (N:Nat) (s:Int) (o:Unit ⊕ Bool),Zj (Zz n) N s=some o→o=.inl ()∨o=.inr false:=by
  refine Zjz fun s o h=>?_
  unfold Zz at h
  cases hd:decide (s<(n.legs.length:Int)) with
  | false=>rw [hd] at h; cases h; exact .inl rfl
  | true=>
   rw [hd,cond_true] at h
   cases hg:getI n.legs s with
   | none=>rw [hg] at h; cases h
   | some y=>
    rw [hg,Option.bind_some] at h
    cases hl:ZaD y with
    | none=>rw [hl] at h; cases h
    | some b=>rw [hl,Option.bind_some] at h; cases b <;> cases h; exact .inr rfl
 have p1:∀ (N:Nat) (s:Int) (o:Unit ⊕ Bool),Zj (ZA n) N s=some o→o=.inl ()∨o=.inr false:=by
  refine Zjz fun s o h=>?_
  unfold ZA at h
  cases hd:decide (s<(n.off.length:Int)) with
  | false=>rw [hd] at h; cases h; exact .inl rfl
  | true=>
   rw [hd,cond_true] at h
   cases hg:getI n.off s with
   | none=>rw [hg] at h; cases h
   | some y=>
    rw [hg,Option.bind_some,Zac,Option.bind_some] at h
    cases hb:decide (0≤y) && decide (y≤60) with
    | false=>rw [hb] at h; cases h; exact .inr rfl
    | true=>
     rw [hb] at h
     cases hs:decide (0<s) with
     | false=>rw [hs] at h; cases h
     | true=>
      rw [hs] at h
      simp only [Bool.not_true,cond_false,cond_true] at h
      cases hg2:getI n.off (w64 (s-1)) with
      | none=>rw [hg2] at h; cases h
      | some z=>
       rw [hg2] at h
       simp only [Option.bind_some] at h
       cases hz:decide (y≤z) with
       | false=>rw [hz] at h; cases h
       | true=>rw [hz] at h; cases h; exact .inr rfl
 cases h0:Zj (Zz n) NN 0 with
 | none=>rw [h0] at hn; cases hn
 | some r0=>
 rw [h0] at hn
 rcases p0 _ _ _ h0 with rfl | rfl
 ·simp only [Option.bind_some,Zu] at hn
  cases h1:Zj (ZA n) NN 0 with
  | none=>rw [h1] at hn; cases hn
  | some r1=>
  rw [h1] at hn
  rcases p1 _ _ _ h1 with rfl | rfl
  ·simp only [Option.bind_some,Zu,Zac] at hn
   cases h2:decide ((n.legs.length:Int)≤20) with
   | false=>rw [h2] at hn; cases hn
   | true=>
   cases h3:decide ((n.off.length:Int)≤10) with
   | false=>rw [h2,h3] at hn; cases hn
   | true=>
   rw [h2,h3] at hn
   simp only [cond_true] at hn
   have:=Option.some.inj hn
   have h2:=of_decide_eq_true h2
   have h3:=of_decide_eq_true h3
   exact ⟨by simpa only [Bool.and_eq_true,decide_eq_true_iff] using this,by omega,by omega⟩
  ·cases hn
 ·cases hn
theorem ZkG {n:Za} (hn:Zm n=some true):0≤n.change∧n.change≤240:=(Zvr hn).1
def Zhk (n:Za) (t:Zg):ByteArray:=((getI n.legs t.leg).map (·.from_)).getD ⟨#[]⟩
def Zol (n:Za):ByteArray→Int→List Zg→Prop
 | _,_,[]=>True
 | p,a,t::ts=>Ze6 n t=true∧Zhk n t=p∧a≤Za5 n t∧Zol n (ZcC n t) (Zdy n t+n.change) ts
theorem Zlc {n:Za} (h:ZbC n) (hn:Zm n=some true) (t:Zg):Zal n t=some (Ze6 n t):=by
 rw [← (ZhF h t).1,Ztf h hn,ZlL h]
theorem ZnC {n:Za} (hf:ZbC n) (hn:Zm n=some true) {way:List Zg} (hl:way.length≤1048576) {a b:ByteArray} {t:Int} (h:Zci n way a b t=some true):Zol n a t way:=by
 obtain ⟨ch0,ch1⟩:=ZkG hn
 have hpl:=ZdM n
 have hll:=hf.legs
 let F:Nat→ByteArray × Int→Zg→Option ((ByteArray × Int) ⊕ (ByteArray ⊕ Bool)):=fun _ p t=>
  some (if Ze6 n t=true∧Zhk n t=p.1∧p.2≤Za5 n t then .inl (ZcC n t,Zdy n t+n.change) else .inr (.inr false))
 have e1:Zj (ZbX n way b) NN (a,t,0)=runL F (fun p=>some (.inl p.1)) 0 way (a,t):=by
  refine Zgu (A:=ByteArray × Int) (fun p i=>(p.1,p.2,i)) F (fun p=>some (.inl p.1)) (fun p i x hx=>?_) (fun p=>?_) (by unfold NN; omega) (a,t)
  ·have hlt:=(List.getElem?_eq_some_iff.1 hx).1
   have hg:getI way (i:Int)=some x:=by rw [Zx]; exact hx
   have hi:w64 ((i:Int)+1)=((i+1:Nat):Int):=Z8 hlt (by omega)
   unfold ZbX
   simp only [decide_eq_true (show (i:Int)<way.length by omega),cond_true,hg,Option.bind_some,hi,Zlc hf hn,F]
   cases ht:Ze6 n x with
   | false=>simp [Zu]
   | true=>
    obtain ⟨y,hy,_⟩:=Zdp hf ht
    obtain ⟨t1,t2,t3,t4,t5⟩:=ZcX hf hn ht
    have f1:Zhk n x=y.from_:=by unfold Zhk; rw [hy]; rfl
    have f2:ZcC n x=y.to_:=by unfold ZcC; rw [hy]; rfl
    have hw:w64 (Zdy n x+n.change)=Zdy n x+n.change:=Zn (by omega)
    simp only [hy,Option.bind_some,t1,t2,f1,f2,hw,Bool.not_true,cond_false,true_and]
    by_cases h1:y.from_=p.1
    ·by_cases h2:Za5 n x<p.2
     ·rw [decide_eq_true h1,decide_eq_true h2,if_neg (show ¬ (y.from_=p.1∧p.2≤Za5 n x) by omega)]; rfl
     ·rw [decide_eq_true h1,decide_eq_false h2,if_pos ⟨h1,by omega⟩]; rfl
    ·rw [decide_eq_false h1,if_neg (fun h=>h1 h.1)]; rfl
  ·unfold ZbX
   simp
 have key:∀ (ts:List Zg) (i:Nat) (p:ByteArray × Int) (r:ByteArray),runL F (fun p=>some (.inl p.1)) i ts p=some (.inl r)→Zol n p.1 p.2 ts:=by
  intro ts
  induction ts with
  | nil=>intro i p r h; trivial
  | cons x ts ih=>
   intro i p r h
   simp only [runL,F] at h
   by_cases hc:Ze6 n x=true∧Zhk n x=p.1∧p.2≤Za5 n x
   ·rw [if_pos hc] at h
    exact ⟨hc.1,hc.2.1,hc.2.2,ih (i+1) (ZcC n x,Zdy n x+n.change) r h⟩
   ·rw [if_neg hc] at h; cases h
 unfold Zci at h
 rw [(ZdN hf).2,hn] at h
 simp only [Option.bind_some,ZfS (show (Zf n).length≤4194304 by omega),e1] at h
 cases h1:decide (idxV (Zf n) a<0) with
 | true=>rw [h1] at h; cases h
 | false=>
 cases h2:decide (idxV (Zf n) b<0) with
 | true=>rw [h1,h2] at h; cases h
 | false=>
 rw [h1,h2] at h
 simp only [Bool.not_true,cond_false] at h
 cases hr:runL F (fun p=>some (.inl p.1)) 0 way (a,t) with
 | none=>rw [hr] at h; cases h
 | some r=>
  cases r with
  | inl r=>exact key way 0 (a,t) r hr
  | inr v=>
   exfalso
   have:∀ (ts:List Zg) (i:Nat) (p:ByteArray × Int) (v:Bool),runL F (fun p=>some (.inl p.1)) i ts p=some (.inr v)→v=false:=by
    intro ts
    induction ts with
    | nil=>intro i p v h; cases h
    | cons x ts ih=>
     intro i p v h
     simp only [runL,F] at h
     by_cases hc:Ze6 n x=true∧Zhk n x=p.1∧p.2≤Za5 n x
     ·rw [if_pos hc] at h; exact ih _ _ _ h
     ·rw [if_neg hc] at h; cases h; rfl
   have hv:=this _ _ _ _ hr
   subst hv
   rw [hr] at h
   cases h
theorem Zom {n:Za}:∀ {ts:List Zg} {p:ByteArray} {a:Int} {i:Nat} {t:Zg},Zol n p a ts→ts[i]?=some t→Ze6 n t=true∧∀ t',ts[i+1]?=some t'→Zdy n t+n.change≤Za5 n t'∧Zhk n t'=ZcC n t
 | [],_,_,_,_,_,h=>by simp at h
 | x::ts,p,a,0,t,hc,h=>by
  obtain rfl:x=t:=by simpa using h
  refine ⟨hc.1,fun t' h'=>?_⟩
  cases ts with
  | nil=>simp at h'
  | cons y ts=>obtain rfl:y=t':=by simpa using h'
               exact ⟨hc.2.2.2.2.2.1,hc.2.2.2.2.1⟩
 | x::ts,p,a,i+1,t,hc,h=>by
  have h':ts[i]?=some t:=by simpa using h
  have:=Zom hc.2.2.2 h'
  simpa using this
def Zh9 (n:Za) (o:Zh):ByteArray:=if 0<o.gone then ((o.way[(o.gone-1).toNat]?).map (ZcC n)).getD ⟨#[]⟩ else o.from_
structure ZhZ (n:Za) (o:Zh) (now:Int):Prop where
 past:∀ t,0<o.gone→o.way[(o.gone-1).toNat]?=some t→Zdy n t≤now
 cases:(o.state=1∧o.place=Zh9 n o∧¬ Zh9 n o=o.to_∧o.ended=0∧∀ t,o.way[o.gone.toNat]?=some t→now<Za5 n t)∨
  (o.state=2∧o.place=⟨#[]⟩∧o.ended=0∧∃ t,o.way[o.gone.toNat]?=some t∧Za5 n t≤now∧now<Zdy n t)∨
  (o.state=3∧o.place=o.to_∧Zh9 n o=o.to_∧o.gone=o.way.length∧0<o.gone∧∀ t,o.way[(o.gone-1).toNat]?=some t→o.ended=Zdy n t)
theorem ZhA {c:Prop} [Decidable c] {a b:Option Bool}:cond (decide c) a b=some true↔(c∧a=some true)∨(¬ c∧b=some true):=by
 by_cases h:c <;> simp [h]
theorem ZgJ {c:Prop} [Decidable c] {a b:Option Bool}:cond (!decide c) a b=some true↔(¬ c∧a=some true)∨(c∧b=some true):=by
 by_cases h:c <;> simp [h]
theorem Zna {n:Za} (hf:ZbC n) (hn:Zm n=some true) {o:Zh} (hg:0≤o.gone∧o.gone≤o.way.length) (hl:o.way.length≤1048576) (ht:∀ t∈o.way,Ze6 n t=true) (now:Int):ZP n o now=some true↔ZhZ n o now:=by
 have hw1:w64 (o.gone-1)=o.gone-1:=Zn (by omega)
 have nx:(∃ t,o.gone<o.way.length∧getI o.way o.gone=some t∧o.way[o.gone.toNat]?=some t∧Zt n t=some (Za5 n t)∧Zv n t=some (Zdy n t))∨(o.gone=o.way.length∧o.way[o.gone.toNat]?=none):=by
  by_cases h:o.gone<o.way.length
  ·have hlt:o.gone.toNat<o.way.length:=by omega
   obtain ⟨t1,t2,_⟩:=ZcX hf hn (ht _ (List.getElem_mem hlt))
   exact .inl ⟨o.way[o.gone.toNat],h,by unfold getI; rw [if_pos hg.1]; exact List.getElem?_eq_getElem hlt,List.getElem?_eq_getElem hlt,t1,t2⟩
  ·exact .inr ⟨by omega,List.getElem?_eq_none (by omega)⟩
 unfold ZP
 rw [hw1]
 by_cases h0:0<o.gone
 ·have hlt:(o.gone-1).toNat<o.way.length:=by omega
  obtain ⟨p,hp,hp1⟩:∃ p,getI o.way (o.gone-1)=some p∧o.way[(o.gone-1).toNat]?=some p:=⟨o.way[(o.gone-1).toNat],by unfold getI; rw [if_pos (by omega)]; exact List.getElem?_eq_getElem hlt,List.getElem?_eq_getElem hlt⟩
  have hpt:=ht p (List.mem_of_getElem? hp1)
  obtain ⟨y,hy,_⟩:=Zdp hf hpt
  obtain ⟨t1,t2,t3,t4,t5⟩:=ZcX hf hn hpt
  have hh:Zh9 n o=y.to_:=by unfold Zh9; rw [if_pos h0,hp1]; simp [ZcC,hy]
  rcases nx with ⟨t,n1,n2,n3,n4,n5⟩ | ⟨n1,n3⟩
  ·have ng:¬ o.gone=o.way.length:=by omega
   simp only [decide_eq_true h0,cond_true,hp,hy,t2,n2,n4,n5,Option.bind_some,ZhA,ZgJ,Option.some.injEq,decide_eq_true_iff]
   constructor
   ·intro h
    refine ⟨fun q _ hq=>?_,?_⟩
    ·rw [hp1] at hq; obtain rfl:=Option.some.inj hq
     rcases h with ⟨_,h⟩ | ⟨h,_⟩
     ·simp at h
     ·omega
    ·rw [hh]; simp only [n3,hp1,Option.some.injEq,forall_eq',exists_eq_left']
     by_cases s1:o.state=1 <;> by_cases s2:o.state=2 <;> by_cases s3:o.state=3 <;> simp_all
   ·rintro ⟨k1,k2⟩
    have k1':=k1 p h0 hp1
    rw [hh] at k2; simp only [n3,hp1,Option.some.injEq,forall_eq',exists_eq_left'] at k2
    have:¬ now<Zdy n p:=by omega
    rcases k2 with k | k | k <;> simp_all
  ·simp only [decide_eq_true h0,cond_true,hp,hy,t2,Option.bind_some,ZhA,ZgJ,Option.some.injEq,decide_eq_true_iff]
   have ng:¬ o.gone<o.way.length:=by omega
   constructor
   ·intro h
    refine ⟨fun q _ hq=>?_,?_⟩
    ·rw [hp1] at hq; obtain rfl:=Option.some.inj hq
     rcases h with ⟨_,h⟩ | ⟨h,_⟩
     ·simp at h
     ·omega
    ·rw [hh]; simp only [n3,hp1,Option.some.injEq,forall_eq',exists_eq_left',reduceCtorEq,false_and,exists_false,false_implies,implies_true]
     by_cases s1:o.state=1 <;> by_cases s2:o.state=2 <;> by_cases s3:o.state=3 <;> simp_all
   ·rintro ⟨k1,k2⟩
    have k1':=k1 p h0 hp1
    rw [hh] at k2; simp only [n3,hp1,Option.some.injEq,forall_eq',exists_eq_left',reduceCtorEq,false_and,exists_false,false_implies,implies_true] at k2
    have:¬ now<Zdy n p:=by omega
    rcases k2 with k | k | k <;> simp_all
 ·have hh:Zh9 n o=o.from_:=by unfold Zh9; rw [if_neg h0]
  rcases nx with ⟨t,n1,n2,n3,n4,n5⟩ | ⟨n1,n3⟩
  ·have ng:¬ o.gone=o.way.length:=by omega
   simp only [decide_eq_false h0,cond_false,n2,n4,n5,Option.bind_some,ZhA,ZgJ,Option.some.injEq,decide_eq_true_iff]
   constructor
   ·intro h
    refine ⟨fun q hq=>absurd hq h0,?_⟩
    rw [hh]; simp only [n3,Option.some.injEq,forall_eq',exists_eq_left']
    by_cases s1:o.state=1 <;> by_cases s2:o.state=2 <;> by_cases s3:o.state=3 <;> simp_all
   ·rintro ⟨k1,k2⟩
    rw [hh] at k2; simp only [n3,Option.some.injEq,forall_eq',exists_eq_left'] at k2
    rcases k2 with k | k | k <;> simp_all
  ·have ng:¬ o.gone<o.way.length:=by omega
   simp only [decide_eq_false h0,cond_false,Option.bind_some,ZhA,ZgJ,Option.some.injEq,decide_eq_true_iff]
   constructor
   ·intro h
    refine ⟨fun q hq=>absurd hq h0,?_⟩
    rw [hh]; simp only [n3,reduceCtorEq,false_and,exists_false,false_implies,implies_true]
    by_cases s1:o.state=1 <;> by_cases s2:o.state=2 <;> by_cases s3:o.state=3 <;> simp_all
   ·rintro ⟨k1,k2⟩
    rw [hh] at k2; simp only [n3,reduceCtorEq,false_and,exists_false,false_implies,implies_true] at k2
    rcases k2 with k | k | k
    ·simp_all
    ·simp_all
    ·exact absurd k.2.2.2.2.1 h0
def ZaQ (n:Za) (o:Zh):Option Int:=(o.way[o.gone.toNat]?).map fun t=>if o.state=2 then Zdy n t else Za5 n t
def arr1 (n:Za) (at_:Int) (o:Zh) (t:Zg):Zh:=
 if ZcC n t=o.to_ then { o with gone:=o.gone+1,state:=3,place:=ZcC n t,ended:=at_ } else { o with gone:=o.gone+1,state:=1,place:=ZcC n t }
def ZR (n:Za) (at_:Int) (o:Zh):Zh:=match o.way[o.gone.toNat]? with
 | some t=>if o.state=2∧Zdy n t=at_ then arr1 n at_ o t else o
 | none=>o
def Zfj (n:Za) (at_:Int) (o:Zh):Zh:=match o.way[o.gone.toNat]? with
 | some t=>if o.state=1∧Za5 n t=at_ then { o with state:=2,place:=⟨#[]⟩ } else o
 | none=>o
structure Zi9 (n:Za) (o:Zh):Prop where
 gone:0≤o.gone∧o.gone≤o.way.length
 trip:∀ t∈o.way,0≤Za5 n t∧Za5 n t<Zdy n t∧Zdy n t≤100000
 next:∀ (i:Nat) t t',o.way[i]?=some t→o.way[i+1]?=some t'→Zdy n t≤Za5 n t'
 last:∀ (i:Nat) t,o.way[i]?=some t→ZcC n t=o.to_→i+1=o.way.length
structure Zfl (o o':Zh):Prop where
 from_:o'.from_=o.from_
 to_:o'.to_=o.to_
 service:o'.service=o.service
 weight:o'.weight=o.weight
 at_:o'.at_=o.at_
 due:o'.due=o.due
 way:o'.way=o.way
theorem Zfl.refl (o:Zh):Zfl o o:=⟨rfl,rfl,rfl,rfl,rfl,rfl,rfl⟩
theorem Zfl.trans {a b c:Zh} (h:Zfl a b) (k:Zfl b c):Zfl a c:=⟨k.1.trans h.1,k.2.trans h.2,k.3.trans h.3,k.4.trans h.4,k.5.trans h.5,k.6.trans h.6,k.7.trans h.7⟩
theorem Zhf (n:Za) (at_:Int) (o:Zh):Zfl o (ZR n at_ o):=by
 unfold ZR arr1
 split
 ·split
  ·split <;> exact ⟨rfl,rfl,rfl,rfl,rfl,rfl,rfl⟩
  ·exact .refl o
 ·exact .refl o
theorem Zri (n:Za) (at_:Int) (o:Zh):Zfl o (Zfj n at_ o):=by
 unfold Zfj
 split
 ·split
  ·exact ⟨rfl,rfl,rfl,rfl,rfl,rfl,rfl⟩
  ·exact .refl o
 ·exact .refl o
def ZfB (n:Za) (at_:Int) (o:Zh):Zh:=Zfj n at_ (ZR n at_ o)
theorem ZgG (n:Za) (at_:Int) (o:Zh):Zfl o (ZfB n at_ o):=(Zhf n at_ o).trans (Zri n at_ _)
theorem Zi9.same {n:Za} {o o':Zh} (h:Zi9 n o) (k:Zfl o o') (hg:0≤o'.gone∧o'.gone≤o.way.length):Zi9 n o':=
 ⟨by rw [k.way]; exact hg,by rw [k.way]; exact h.trip,by rw [k.way]; exact h.next,by rw [k.way,k.to_]; exact h.last⟩
def Zd6 (o:Zh):Nat:=2*(o.way.length-o.gone.toNat)-(if o.state=2 then 1 else 0)
structure Zoa (n:Za) (o:Zh) (at_:Int):Prop where
 ok:ZhZ n o at_
 gone:0≤o.gone∧o.gone≤o.way.length
 next:∀ e,ZaQ n o=some e→at_<e
theorem ZfA {n:Za} {o:Zh} {at_:Int} (h:ZhZ n o at_) (hg:0≤o.gone∧o.gone≤o.way.length):Zoa n o at_:=by
 refine ⟨h,hg,fun e he=>?_⟩
 unfold ZaQ at he
 rcases h.cases with ⟨c,_,_,_,k⟩ | ⟨c,_,_,t,k1,_,k3⟩ | ⟨c,_,_,k,_,_⟩
 ·cases ht:o.way[o.gone.toNat]? with
  | none=>rw [ht] at he; cases he
  | some t=>rw [ht] at he; simp [c] at he; subst he; exact k t ht
 ·rw [k1] at he; simp [c] at he; subst he; exact k3
 ·rw [List.getElem?_eq_none (by omega)] at he; cases he
theorem Zrh {n:Za} {o:Zh} {at_:Int} (hw:Zi9 n o) (hp:∀ t,0<o.gone→o.way[(o.gone-1).toNat]?=some t→Zdy n t≤at_)
 (hs:o.state=1) (h1:o.place=Zh9 n o) (h2:¬ Zh9 n o=o.to_) (h3:o.ended=0) (h4:∀ t,o.way[o.gone.toNat]?=some t→at_≤Za5 n t):
 Zoa n (Zfj n at_ o) at_∧Zd6 (Zfj n at_ o)≤Zd6 o∧((∃ t,o.way[o.gone.toNat]?=some t∧Za5 n t=at_)→Zd6 (Zfj n at_ o)<Zd6 o):=by
 unfold Zfj
 cases ht:o.way[o.gone.toNat]? with
 | none=>
  refine ⟨ZfA ⟨hp,.inl ⟨hs,h1,h2,h3,fun t h=>?_⟩⟩ hw.gone,Nat.le_refl _,fun ⟨t,h,_⟩=>?_⟩
  ·rw [ht] at h; cases h
  ·cases h
 | some t=>
  have hlt:=(List.getElem?_eq_some_iff.1 ht).1
  obtain ⟨a1,a2,a3⟩:=hw.trip t (List.mem_of_getElem? ht)
  have h4':=h4 t ht
  by_cases hst:Za5 n t=at_
  ·simp only [hs,hst,and_self,if_true]
   refine ⟨ZfA ⟨fun q hq=>?_,.inr (.inl ⟨rfl,rfl,h3,t,ht,by omega,by omega⟩)⟩ hw.gone,?_,fun _=>?_⟩
   ·exact hp q hq
   ·unfold Zd6; simp only [hs]; simp
   ·unfold Zd6; simp only [hs]; simp; omega
  ·have hng:¬ (o.state=1∧Za5 n t=at_):=fun h=>hst h.2
   simp only [if_neg hng]
   refine ⟨ZfA ⟨hp,.inl ⟨hs,h1,h2,h3,fun q hq=>?_⟩⟩ hw.gone,Nat.le_refl _,fun ⟨q,hq,hq2⟩=>?_⟩
   ·rw [ht] at hq; obtain rfl:=Option.some.inj hq; omega
   ·obtain rfl:=Option.some.inj hq; exact absurd hq2 hst
theorem Zid {n:Za} {o:Zh} {at_:Int} (hs:¬ o.state=1):Zfj n at_ o=o:=by
 unfold Zfj
 cases o.way[o.gone.toNat]? with
 | none=>rfl
 | some t=>simp [hs]
theorem Zst {n:Za} {o:Zh} {now at_:Int} (hw:Zi9 n o) (h:ZhZ n o now) (hn:now≤at_) (he:∀ e,ZaQ n o=some e→at_≤e):
 Zoa n (ZfB n at_ o) at_∧Zi9 n (ZfB n at_ o)∧Zd6 (ZfB n at_ o)≤Zd6 o∧(ZaQ n o=some at_→Zd6 (ZfB n at_ o)<Zd6 o):=by
 have hg:=hw.gone
 have main:Zoa n (ZfB n at_ o) at_∧Zd6 (ZfB n at_ o)≤Zd6 o∧(ZaQ n o=some at_→Zd6 (ZfB n at_ o)<Zd6 o):=by
  unfold ZfB
  rcases h.cases with ⟨c1,c2,c3,c4,c5⟩ | ⟨c1,c2,c3,t,c4,c5,c6⟩ | ⟨c1,c2,c3,c4,c5,c6⟩
  ·have e1:ZR n at_ o=o:=by
    unfold ZR
    cases o.way[o.gone.toNat]? with
    | none=>rfl
    | some t=>simp [c1]
   rw [e1]
   have h4:∀ t,o.way[o.gone.toNat]?=some t→at_≤Za5 n t:=fun t ht=>he _ (by unfold ZaQ; rw [ht]; simp [c1])
   obtain ⟨a,b,c⟩:=Zrh hw (fun t h1 h2=>by have:=h.past t h1 h2; omega) c1 c2 c3 c4 h4
   refine ⟨a,b,fun hev=>c ?_⟩
   unfold ZaQ at hev
   cases ht:o.way[o.gone.toNat]? with
   | none=>rw [ht] at hev; cases hev
   | some t=>rw [ht] at hev; simp [c1] at hev; exact ⟨t,rfl,hev⟩
  ·have hlt:=(List.getElem?_eq_some_iff.1 c4).1
   obtain ⟨a1,a2,a3⟩:=hw.trip t (List.mem_of_getElem? c4)
   have he':=he (Zdy n t) (by unfold ZaQ; rw [c4]; simp [c1])
   by_cases hx:Zdy n t=at_
   ·have e1:ZR n at_ o=arr1 n at_ o t:=by unfold ZR; rw [c4]; simp only [c1,hx,and_self,if_true]
    rw [e1]
    have hgn:(o.gone+1-1).toNat=o.gone.toNat:=by omega
    have hgs:(o.gone+1).toNat=o.gone.toNat+1:=by omega
    unfold arr1
    by_cases hd:ZcC n t=o.to_
    ·have hlen:=hw.last _ t c4 hd
     rw [if_pos hd,Zid (by simp)]
     have hh:Zh9 n { o with gone:=o.gone+1,state:=3,place:=ZcC n t,ended:=at_ }=ZcC n t:=by
      unfold Zh9; simp only [hgn,c4]; rw [if_pos (by omega)]; rfl
     refine ⟨ZfA ⟨fun q _ hq=>?_,.inr (.inr ⟨rfl,hd,hh.trans hd,by simp only; omega,by simp only; omega,fun q hq=>?_⟩)⟩ (by simp only; omega),?_,fun _=>?_⟩
     ·simp only [hgn,c4,Option.some.injEq] at hq; subst hq; omega
     ·simp only [hgn,c4,Option.some.injEq] at hq; subst hq; exact hx.symm
     ·unfold Zd6; simp only [hgs,c1]; simp; omega
     ·unfold Zd6; simp only [hgs,c1]; simp; omega
    ·rw [if_neg hd]
     have hh:Zh9 n { o with gone:=o.gone+1,state:=1,place:=ZcC n t }=ZcC n t:=by
      unfold Zh9; simp only [hgn,c4]; rw [if_pos (by omega)]; rfl
     have hw':Zi9 n { o with gone:=o.gone+1,state:=1,place:=ZcC n t }:=hw.same ⟨rfl,rfl,rfl,rfl,rfl,rfl,rfl⟩ (by simp only; omega)
     obtain ⟨a,b,c⟩:=Zrh (at_:=at_) hw' (fun q _ hq=>by simp only [hgn,c4,Option.some.injEq] at hq; subst hq; omega) rfl hh.symm (by rw [hh]; exact hd) c3 (fun q hq=>by
      simp only [hgs] at hq
      have:=hw.next _ t q c4 hq
      omega)
     have hb:Zd6 { o with gone:=o.gone+1,state:=1,place:=ZcC n t } < Zd6 o:=by unfold Zd6; simp only [hgs,c1]; simp; omega
     exact ⟨a,by omega,fun _=>by omega⟩
   ·have e1:ZR n at_ o=o:=by unfold ZR; rw [c4]; simp only [hx,and_false,if_false]
    rw [e1,Zid (by omega)]
    refine ⟨ZfA ⟨fun q h1 h2=>by have:=h.past q h1 h2; omega,.inr (.inl ⟨c1,c2,c3,t,c4,by omega,by omega⟩)⟩ hg,Nat.le_refl _,fun hev=>?_⟩
    unfold ZaQ at hev
    rw [c4] at hev; simp [c1] at hev; exact absurd hev hx
  ·have hnone:o.way[o.gone.toNat]?=none:=List.getElem?_eq_none (by omega)
   have e1:ZR n at_ o=o:=by unfold ZR; rw [hnone]
   rw [e1,Zid (by omega)]
   refine ⟨ZfA ⟨fun q h1 h2=>by have:=h.past q h1 h2; omega,.inr (.inr ⟨c1,c2,c3,c4,c5,c6⟩)⟩ hg,Nat.le_refl _,fun hev=>?_⟩
   unfold ZaQ at hev
   rw [hnone] at hev; cases hev
 have hs:=ZgG n at_ o
 exact ⟨main.1,hw.same hs (by have:=main.1.gone; rw [hs.way] at this; exact this),main.2⟩
theorem Zsz {n:Za} {o:Zh} (hw:Zi9 n o) {now:Int} (h:ZhZ n o now) (h0:Zd6 o=0):ZaQ n o=none:=by
 have hg:=hw.gone
 unfold ZaQ
 rcases h.cases with ⟨c,_⟩ | ⟨c,_,_,t,k1,_⟩ | ⟨c,_,_,k,_⟩
 ·unfold Zd6 at h0; rw [if_neg (by omega)] at h0
  rw [List.getElem?_eq_none (by omega)]; rfl
 ·have hlt:=(List.getElem?_eq_some_iff.1 k1).1
  unfold Zd6 at h0; rw [if_pos c] at h0; omega
 ·rw [List.getElem?_eq_none (by omega)]; rfl
theorem Zp8 {w:Ze} (hf:WFit w) (hv:Zcw w=true) {s:ZU} (hs:s∈w.scans):Z6 w.network s=some true∧s.at_≤w.now:=by
 unfold Zcw at hv
 simp only [Bool.and_eq_true] at hv
 obtain ⟨j,hj,rfl⟩:=List.getElem_of_mem hs
 have:=Zcx.1 hv.1.1.2 j _ (List.getElem?_eq_getElem hj)
 unfold Zsb at this
 simp only [Bool.and_eq_true,Bool.not_eq_true',decide_eq_false_iff_not] at this
 obtain ⟨b,hb⟩:=Zjy hf.net w.scans[j]
 rw [hb] at this ⊢
 simp only [Option.getD_some] at this
 exact ⟨by rw [this.1],by omega⟩
def ZeN (skip:List Int) (p:List ZU × Int) (s:ZU):List ZU × Int:=
 let m:=if p.2<1000000000 then p.2+1 else p.2
 (if (skip.any fun y=>decide (y=m))=false∧p.1.length<200 then p.1++[s] else p.1,m)
def Zb6 (n:Za) (at_:Int) (i:Nat) (o:Zh):List ZU:=match o.way[o.gone.toNat]? with
 | some t=>if o.state=2∧Zdy n t=at_ then ⟨((i+1:Nat):Int),at_,2,⟨#[]⟩,t⟩::(if ZcC n t=o.to_ then [⟨((i+1:Nat):Int),at_,4,ZcC n t,⟨0,0⟩⟩] else []) else []
 | none=>[]
def ZfD (n:Za) (at_:Int) (i:Nat) (o:Zh):List ZU:=match o.way[o.gone.toNat]? with
 | some t=>if o.state=1∧Za5 n t=at_ then [⟨((i+1:Nat):Int),at_,3,⟨#[]⟩,t⟩] else []
 | none=>[]
def Zfd (f:Nat→Zh→List ZU):Nat→List Zh→List ZU
 | _,[]=>[]
 | i,o::os=>f i o++Zfd f (i+1) os
theorem Zhr {f:Nat→Zh→List ZU} {s:ZU}:∀ {os:List Zh} {i:Nat},s∈Zfd f i os→∃ j o,os[j]?=some o∧s∈f (i+j) o
 | [],_,h=>by simp [Zfd] at h
 | o::os,i,h=>by
  simp only [Zfd,List.mem_append] at h
  rcases h with h | h
  ·exact ⟨0,o,rfl,h⟩
  ·obtain ⟨j,o',h1,h2⟩:=Zhr h
   exact ⟨j+1,o',by simpa using h1,by rwa [show i+(j+1)=i+1+j by omega]⟩
def ZkR (w:Ze) (at_:Int):List ZU:=Zfd (Zb6 w.network at_) 0 w.orders++Zfd (ZfD w.network at_) 0 (w.orders.map (ZR w.network at_))
def Za6 (w:Ze) (at_:Int):Ze:=
 { w with orders:=w.orders.map (ZfB w.network at_),now:=at_,scans:=((ZkR w at_).foldl (ZeN w.skip) (w.scans,w.made)).1,made:=((ZkR w at_).foldl (ZeN w.skip) (w.scans,w.made)).2 }
structure WOk (w:Ze):Prop where
 fit:WFit w
 ok:Zcw w=true
theorem WOk.net {w:Ze} (h:WOk w):Zm w.network=some true:=Zne h.fit h.ok
theorem WOk.way {w:Ze} (h:WOk w) {i:Nat} {o:Zh} (ho:w.orders[i]?=some o):Zi9 w.network o:=by
 have hok:=Zd0 h.fit h.ok ho
 have hl:=h.fit.way o (List.mem_of_getElem? ho)
 have hch:=ZnC h.fit.net h.net hl hok.isWay
 refine ⟨hok.gone,fun t ht=>?_,fun i t t' h1 h2=>?_,fun i t h1 h2=>?_⟩
 ·obtain ⟨_,_,a,b,c⟩:=ZcX h.fit.net h.net (hok.trip t ht)
  exact ⟨a,b,c⟩
 ·have:=((Zom hch h1).2 t' h2).1
  have:=(ZkG h.net).1
  omega
 ·have hw:=Zcx.1 hok.way i t h1
  unfold wayC at hw
  simp only [Nat.zero_add,Bool.and_eq_true,Bool.not_eq_true',Bool.and_eq_false_imp,decide_eq_true_iff,decide_eq_false_iff_not] at hw
  have h3:=hw.2 h2
  have:=(List.getElem?_eq_some_iff.1 h1).1
  omega
theorem WOk.state {w:Ze} (h:WOk w) {i:Nat} {o:Zh} (ho:w.orders[i]?=some o):ZhZ w.network o w.now:=by
 have hok:=Zd0 h.fit h.ok ho
 exact (Zna h.fit.net h.net hok.gone (h.fit.way o (List.mem_of_getElem? ho)) hok.trip _).1 hok.st
theorem WOk.parts {w:Ze} (h:WOk w):(0≤w.now∧w.now≤100000)∧w.orders.length≤30∧w.closed.length≤20∧w.scans.length≤200∧w.skip.length≤50∧(w.scans.length≤w.made∧w.made≤1000000000)∧w.bookings.length≤120:=by
 have hb:=Zjc (Zj7 h.ok)
 have hv:=h.ok
 unfold Zcw at hv
 simp only [Bool.and_eq_true,Bool.not_eq_true',decide_eq_true_iff,decide_eq_false_iff_not] at hv
 obtain ⟨⟨⟨⟨⟨⟨⟨⟨⟨⟨h1,h2⟩,h3⟩,h4⟩,h5⟩,h6⟩,h7⟩,h8⟩,h9⟩,h10⟩,h11⟩:=hv
 exact ⟨h2,by omega,by omega,by omega,by omega,h7,hb.2⟩
structure ZkX (n:Za) (at_:Int) (p:List ZU × Int):Prop where
 good:∀ s∈p.1,Z6 n s=some true∧s.at_≤at_
 len:p.1.length≤200
 made:p.1.length≤p.2∧p.2≤1000000000
theorem Zrm {n:Za} {at_:Int} {skip:List Int} {p:List ZU × Int} {s:ZU} (h:ZkX n at_ p) (hs:Z6 n s=some true∧s.at_≤at_):ZkX n at_ (ZeN skip p s):=by
 obtain ⟨h1,h2,h3⟩:=h
 unfold ZeN
 by_cases hm:p.2<1000000000
 ·simp only [if_pos hm]
  split
  ·rename_i hc
   exact ⟨fun x hx=>by rcases List.mem_append.1 hx with hx | hx
                       ·exact h1 x hx
                       ·obtain rfl:x=s:=by simpa using hx
                        exact hs,by simp; omega,by simp; omega⟩
  ·exact ⟨h1,h2,by simp only; omega⟩
 ·simp only [if_neg hm]
  split
  ·rename_i hc
   exact ⟨fun x hx=>by rcases List.mem_append.1 hx with hx | hx
                       ·exact h1 x hx
                       ·obtain rfl:x=s:=by simpa using hx
                        exact hs,by simp; omega,by simp; omega⟩
  ·exact ⟨h1,h2,by simp only; omega⟩
theorem ZkA {n:Za} {at_:Int} {skip:List Int}:∀ (l:List ZU) (p:List ZU × Int),ZkX n at_ p→(∀ s∈l,Z6 n s=some true∧s.at_≤at_)→ZkX n at_ (l.foldl (ZeN skip) p)
 | [],p,h,_=>h
 | s::l,p,h,hl=>ZkA l _ (Zrm h (hl s List.mem_cons_self)) fun x hx=>hl x (List.mem_cons_of_mem _ hx)
theorem ZlT {n:Za} {at_:Int} {o:Zh}:ZO o≤ZO (ZR n at_ o):=by
 unfold ZR
 split
 ·split
  ·rename_i t ht hc
   unfold arr1
   split <;> (unfold ZO; simp [hc.1])
  ·exact Int.le_refl _
 ·exact Int.le_refl _
theorem Zpz {n:Za} {at_:Int} {o:Zh}:ZO o≤ZO (Zfj n at_ o):=by
 unfold Zfj
 split
 ·split
  ·rename_i t ht hc
   unfold ZO
   simp [hc.1]
   omega
  ·exact Int.le_refl _
 ·exact Int.le_refl _
theorem ZkU {n:Za} {at_:Int} {o:Zh}:ZO o≤ZO (ZfB n at_ o):=Int.le_trans ZlT Zpz
theorem Zs2 {α:Type} {l:List α} {p:α→Bool} {a b:Nat} (h:a≤b) (hk:(l.drop a).any p=false):(l.drop b).any p=false:=by
 obtain ⟨c,rfl⟩:∃ c,b=a+c:=⟨b-a,by omega⟩
 rw [← List.drop_drop]
 rw [List.any_eq_false] at hk ⊢
 exact fun x hx=>hk x (List.mem_of_mem_drop hx)
section
variable {w:Ze} (h:WOk w) {at_:Int} (hn:w.now≤at_) (hm:at_≤100000) (he:∀ o∈w.orders,∀ e,ZaQ w.network o=some e→at_≤e)
include h hn hm he
theorem Zin {th:Int} {k:Int} {p:ByteArray} {t:Zg} (h1:1≤th∧th≤9999)
 (hk:(k=2∧p=⟨#[]⟩∧Ze6 w.network t=true∧Zdy w.network t≤at_)∨(k=3∧p=⟨#[]⟩∧Ze6 w.network t=true∧at_≤Za5 w.network t)∨(k=4∧¬ idxV (Zf w.network) p<0∧t=⟨0,0⟩)):
 Z6 w.network ⟨th,at_,k,p,t⟩=some true:=by
 have hnow:=h.parts.1
 have hpl:=ZdM w.network
 have hll:=h.fit.net.legs
 unfold Z6
 rw [h.net]
 simp only [Option.bind_some,Zac,Bool.not_true,cond_false,decide_eq_true h1.1,decide_eq_true h1.2,decide_eq_true (show 0≤at_ by omega),decide_eq_true hm,Bool.and_self,(ZdN h.fit.net).2,ZfS (show (Zf w.network).length≤4194304 by omega),Zlc h.fit.net h.net]
 rcases hk with ⟨rfl,rfl,h2,h3⟩ | ⟨rfl,rfl,h2,h3⟩ | ⟨rfl,h2,rfl⟩
 ·obtain ⟨a1,a2,_⟩:=ZcX h.fit.net h.net h2
  simp [h2,a1,a2,h3]
 ·obtain ⟨a1,a2,_⟩:=ZcX h.fit.net h.net h2
  simp [h2,a1,a2,h3]
 ·have:0≤idxV (Zf w.network) p:=by omega
  simp [this]
theorem Zse:∀ s∈ZkR w at_,Z6 w.network s=some true∧s.at_≤at_:=by
 have hlen:=h.parts.2.1
 intro s hs
 unfold ZkR at hs
 rcases List.mem_append.1 hs with hs | hs
 ·obtain ⟨j,o,ho,hj⟩:=Zhr hs
  have hlt:=(List.getElem?_eq_some_iff.1 ho).1
  have hok:=Zd0 h.fit h.ok ho
  rw [Nat.zero_add] at hj
  unfold Zb6 at hj
  split at hj
  ·rename_i t ht
   have htb:=hok.trip t (List.mem_of_getElem? ht)
   split at hj
   ·rename_i hc
    rcases List.mem_cons.1 hj with rfl | hj
    ·exact ⟨Zin h hn hm he (by omega) (.inl ⟨rfl,rfl,htb,by omega⟩),Int.le_refl _⟩
    ·split at hj
     ·rename_i hd
      obtain rfl:=List.mem_singleton.1 hj
      have hto:¬ idxV (Zf w.network) o.to_<0:=by
       have:=Zhu h.ok ho
       unfold ZfW at this
       simp only [Bool.and_eq_true,Bool.not_eq_true',decide_eq_false_iff_not] at this
       exact this.1.1.1.1.1.1.1.1.1.1.2
      exact ⟨Zin h hn hm he (by omega) (.inr (.inr ⟨rfl,by rw [hd]; exact hto,rfl⟩)),Int.le_refl _⟩
     ·cases hj
   ·cases hj
  ·cases hj
 ·obtain ⟨j,o,ho,hj⟩:=Zhr hs
  have hlt:=(List.getElem?_eq_some_iff.1 ho).1
  rw [List.length_map] at hlt
  rw [List.getElem?_map] at ho
  obtain ⟨o0,ho0,rfl⟩:=Option.map_eq_some_iff.1 ho
  have hok:=Zd0 h.fit h.ok ho0
  rw [Nat.zero_add] at hj
  unfold ZfD at hj
  split at hj
  ·rename_i t ht
   rw [(Zhf w.network at_ o0).way] at ht
   have htb:=hok.trip t (List.mem_of_getElem? ht)
   split at hj
   ·rename_i hc
    obtain rfl:=List.mem_singleton.1 hj
    exact ⟨Zin h hn hm he (by omega) (.inr (.inl ⟨rfl,rfl,htb,by omega⟩)),Int.le_refl _⟩
   ·cases hj
  ·cases hj
theorem Zmh {i:Nat} {o:Zh} (ho:w.orders[i]?=some o) (s:List ZU) (m:Int):ZfW { w with orders:=w.orders.map (ZfB w.network at_),now:=at_,scans:=s,made:=m } i (ZfB w.network at_ o)=true:=by
 have hv:=Zhu h.ok ho
 have hok:=Zd0 h.fit h.ok ho
 have hl:=h.fit.way o (List.mem_of_getElem? ho)
 have hs:=ZgG w.network at_ o
 obtain ⟨k1,k2,_⟩:=Zst (h.way ho) (h.state ho) hn (he o (List.mem_of_getElem? ho))
 have hst:=(Zna h.fit.net h.net k2.gone (by rw [hs.way]; exact hl) (by rw [hs.way]; exact hok.trip) at_).2 k1.ok
 have hcm:=ZkU (n:=w.network) (at_:=at_) (o:=o)
 have hgn:=k2.gone
 unfold ZfW at hv ⊢
 simp only [Bool.and_eq_true,Bool.not_eq_true',decide_eq_true_iff,decide_eq_false_iff_not] at hv ⊢
 obtain ⟨⟨⟨⟨⟨⟨⟨⟨⟨⟨⟨h1,h2⟩,h3⟩,h4⟩,h5⟩,h6⟩,h7⟩,h8⟩,h9⟩,h10⟩,h11⟩,h12⟩:=hv
 have hend:endV w.network (ZfB w.network at_ o)=endV w.network o:=by unfold endV; rw [hs.way,hs.from_]
 refine ⟨⟨⟨⟨⟨⟨⟨⟨⟨⟨⟨?_,?_⟩,?_⟩,?_⟩,?_⟩,?_⟩,?_⟩,?_⟩,?_⟩,?_⟩,?_⟩,?_⟩
 ·rw [hs.from_]; exact h1
 ·rw [hs.to_]; exact h2
 ·rw [hs.from_,hs.to_]; exact h3
 ·rw [hs.service]; exact h4
 ·rw [hs.weight]; exact h5
 ·rw [hs.at_]; exact ⟨h6.1,Int.le_trans h6.2 hn⟩
 ·rw [hs.due]; exact h7
 ·exact hgn
 ·rw [hs.way]
  refine (Zpq fun j x hx=>?_).trans h9
  unfold wayC
  simp only [hs.weight,hs.to_,hs.way]
 ·simp only [hend,hs.way,hs.from_,hs.at_]; exact h10
 ·rw [hst]; rfl
 ·rw [hs.way]
  exact Zs2 (by omega) h12
theorem Zmg:WOk (Za6 w at_):=by
 have hp:=h.parts
 have hv:=h.ok
 have hsc:=ZkA (skip:=w.skip) (ZkR w at_) (w.scans,w.made) (n:=w.network) (at_:=at_) ⟨fun s hs=>?_,hp.2.2.2.1,hp.2.2.2.2.2.1⟩ (Zse h hn hm he)
 ·refine ⟨⟨h.fit.net,by simp only [Za6,List.length_map]; exact h.fit.orders,h.fit.bookings,h.fit.closed,by have:=hsc.len; simp only [Za6]; omega,h.fit.skip,fun o ho=>?_⟩,?_⟩
  ·simp only [Za6,List.mem_map] at ho
   obtain ⟨o0,ho0,rfl⟩:=ho
   rw [(ZgG w.network at_ o0).way]
   exact h.fit.way o0 ho0
  ·unfold Zcw at hv ⊢
   simp only [Bool.and_eq_true,Bool.not_eq_true',decide_eq_true_iff,decide_eq_false_iff_not] at hv ⊢
   obtain ⟨⟨⟨⟨⟨⟨⟨⟨⟨⟨h1,h2⟩,h3⟩,h4⟩,h5⟩,h6⟩,h7⟩,h8⟩,h9⟩,h10⟩,h11⟩:=hv
   have hl:=hsc.len
   have hmd:=hsc.made
   refine ⟨⟨⟨⟨⟨⟨⟨⟨⟨⟨h1,?_⟩,?_⟩,h4⟩,?_⟩,h6⟩,?_⟩,h8⟩,?_⟩,?_⟩,?_⟩
   ·simp only [Za6]; omega
   ·simp only [Za6,List.length_map]; exact h3
   ·simp only [Za6]; omega
   ·simp only [Za6]; exact hmd
   ·refine Zcx.2 fun j s hj=>?_
    obtain ⟨a,b⟩:=hsc.good s (List.mem_of_getElem? hj)
    show ((Z6 w.network s).getD false && !decide (at_<s.at_))=true
    rw [a,decide_eq_false (show ¬ at_<s.at_ by omega)]; rfl
   ·refine Zcx.2 fun j o hj=>?_
    simp only [Za6,List.getElem?_map] at hj
    obtain ⟨o0,ho0,rfl⟩:=Option.map_eq_some_iff.1 hj
    rw [Nat.zero_add]
    exact Zmh h hn hm he ho0 _ _
   ·unfold ZkV at h11 ⊢
    simp only [Za6,List.foldl_map]
    rw [← h11]
    congr 1
    funext a o
    rw [(ZgG w.network at_ o).way]
 ·have:=Zp8 h.fit h.ok hs
  exact ⟨this.1,by have:=this.2; omega⟩
end
def Zgh (a:Int) (e:Option Int):Int:=match e with
 | some v=>if a<0∨v<a then v else a
 | none=>a
def ZcT (w:Ze):Int:=w.orders.foldl (fun a o=>Zgh a (ZaQ w.network o)) (-1)
theorem Zjo {n:Za}:∀ (os:List Zh) (a:Int),(∀ o∈os,∀ e,ZaQ n o=some e→0≤e)→a<0∨0≤a→
 (os.foldl (fun a o=>Zgh a (ZaQ n o)) a=a∧a<0∧∀ o∈os,ZaQ n o=none)∨
 (0≤os.foldl (fun a o=>Zgh a (ZaQ n o)) a∧(os.foldl (fun a o=>Zgh a (ZaQ n o)) a=a∨∃ o∈os,ZaQ n o=some (os.foldl (fun a o=>Zgh a (ZaQ n o)) a))∧(0≤a→os.foldl (fun a o=>Zgh a (ZaQ n o)) a≤a)∧∀ o∈os,∀ e,ZaQ n o=some e→os.foldl (fun a o=>Zgh a (ZaQ n o)) a≤e)
 | [],a,_,ha=>by
  rcases ha with ha | ha
  ·exact .inl ⟨rfl,ha,fun o h=>by cases h⟩
  ·exact .inr ⟨ha,.inl rfl,fun _=>Int.le_refl _,fun o h=>by cases h⟩
 | o::os,a,h,ha=>by
  simp only [List.foldl_cons]
  have h0:=h o List.mem_cons_self
  have hs:=fun x hx=>h x (List.mem_cons_of_mem o hx)
  cases ho:ZaQ n o with
  | none=>
   have e:Zgh a none=a:=rfl
   rw [e]
   rcases Zjo os a hs ha with ⟨k1,k2,k3⟩ | ⟨k1,k2,k3,k4⟩
   ·exact .inl ⟨k1,k2,fun x hx=>by rcases List.mem_cons.1 hx with rfl | hx
                                   ·exact ho
                                   ·exact k3 x hx⟩
   ·refine .inr ⟨k1,?_,k3,fun x hx e he=>?_⟩
    ·rcases k2 with k2 | ⟨x,hx,k2⟩
     ·exact .inl k2
     ·exact .inr ⟨x,List.mem_cons_of_mem _ hx,k2⟩
    ·rcases List.mem_cons.1 hx with rfl | hx
     ·rw [ho] at he; cases he
     ·exact k4 x hx e he
  | some v=>
   have hv:=h0 v ho
   have e:0≤Zgh a (some v)∧Zgh a (some v)≤v∧(0≤a→Zgh a (some v)≤a)∧(Zgh a (some v)=a∨Zgh a (some v)=v):=by
    unfold Zgh; simp only; split <;> omega
   obtain ⟨e1,e2,e3,e4⟩:=e
   rcases Zjo os (Zgh a (some v)) hs (.inr e1) with ⟨k1,k2,k3⟩ | ⟨k1,k2,k3,k4⟩
   ·omega
   ·have k3':=k3 e1
    refine .inr ⟨k1,?_,fun ha=>by have:=e3 ha; omega,fun x hx e he=>?_⟩
    ·rcases k2 with k2 | ⟨x,hx,k2⟩
     ·rcases e4 with e4 | e4
      ·exact .inl (by rw [k2,e4])
      ·exact .inr ⟨o,List.mem_cons_self,by rw [k2,e4,ho]⟩
     ·exact .inr ⟨x,List.mem_cons_of_mem _ hx,k2⟩
    ·rcases List.mem_cons.1 hx with rfl | hx
     ·rw [ho] at he; obtain rfl:=Option.some.inj he; omega
     ·exact k4 x hx e he
theorem ZqU {n:Za} {o:Zh} (h:Zi9 n o) {e:Int} (he:ZaQ n o=some e):0≤e∧e≤100000:=by
 unfold ZaQ at he
 cases ht:o.way[o.gone.toNat]? with
 | none=>rw [ht] at he; cases he
 | some t=>
  rw [ht] at he
  obtain ⟨a,b,c⟩:=h.trip t (List.mem_of_getElem? ht)
  simp only [Option.map_some,Option.some.injEq] at he
  subst he
  split <;> omega
theorem ZhL {w:Ze} (h:WOk w):(ZcT w=-1∧∀ o∈w.orders,ZaQ w.network o=none)∨
 (w.now<ZcT w∧ZcT w≤100000∧(∃ o∈w.orders,ZaQ w.network o=some (ZcT w))∧∀ o∈w.orders,∀ e,ZaQ w.network o=some e→ZcT w≤e):=by
 have hp:∀ o∈w.orders,∀ e,ZaQ w.network o=some e→0≤e∧e≤100000:=fun o ho e he=>by
  obtain ⟨i,hi,rfl⟩:=List.getElem_of_mem ho
  exact ZqU (h.way (List.getElem?_eq_getElem hi)) he
 rcases Zjo w.orders (-1) (fun o ho e he=>(hp o ho e he).1) (.inl (by omega)) with ⟨k1,_,k3⟩ | ⟨k1,k2,_,k4⟩
 ·exact .inl ⟨k1,k3⟩
 ·rcases k2 with k2 | ⟨o,ho,k2⟩
  ·exact absurd k1 (by rw [k2]; omega)
  ·refine .inr ⟨?_,(hp o ho _ k2).2,⟨o,ho,k2⟩,k4⟩
   obtain ⟨i,hi,rfl⟩:=List.getElem_of_mem ho
   have hs:=ZfA (h.state (List.getElem?_eq_getElem hi)) (h.way (List.getElem?_eq_getElem hi)).gone
   exact hs.next _ k2
theorem Zhj {w:Ze} (h:WOk w) (hn:0≤ZcT w):WOk (Za6 w (ZcT w))∧w.now<ZcT w∧ZcT w≤100000:=by
 rcases ZhL h with ⟨k,_⟩ | ⟨k1,k2,k3,k4⟩
 ·omega
 ·exact ⟨Zmg h (by omega) k2 k4,k1,k2⟩
def Zf2 (w:Ze):Nat:=(w.orders.map Zd6).sum
theorem ZuC {α:Type} {f g:α→Nat}:∀ {l:List α},(∀ x∈l,f x≤g x)→(∃ x∈l,f x<g x)→(l.map f).sum<(l.map g).sum
 | [],_,⟨x,h,_⟩=>by cases h
 | a::l,h,⟨x,hx,hlt⟩=>by
  have h1:=h a List.mem_cons_self
  have h2:(l.map f).sum≤(l.map g).sum:=sum_le fun x hx=>h x (List.mem_cons_of_mem _ hx)
  simp only [List.map_cons,List.sum_cons]
  rcases List.mem_cons.1 hx with rfl | hx
  ·omega
  ·have:=ZuC (fun x hx=>h x (List.mem_cons_of_mem _ hx)) ⟨x,hx,hlt⟩
   omega
where
 sum_le {α:Type} {f g:α→Nat}:∀ {l:List α},(∀ x∈l,f x≤g x)→(l.map f).sum≤(l.map g).sum
 | [],_=>Nat.le_refl _
 | a::l,h=>by
  have h1:=h a List.mem_cons_self
  have h2:=sum_le fun x hx=>h x (List.mem_cons_of_mem _ hx)
  simp only [List.map_cons,List.sum_cons]
  omega
theorem Zf4 {w:Ze} (h:WOk w) (hn:0≤ZcT w):Zf2 (Za6 w (ZcT w))<Zf2 w:=by
 rcases ZhL h with ⟨k,_⟩ | ⟨k1,k2,⟨o,ho,k3⟩,k4⟩
 ·omega
 ·have hstep:∀ x∈w.orders,Zd6 (ZfB w.network (ZcT w) x)≤Zd6 x∧(ZaQ w.network x=some (ZcT w)→Zd6 (ZfB w.network (ZcT w) x)<Zd6 x):=fun x hx=>by
   obtain ⟨i,hi,rfl⟩:=List.getElem_of_mem hx
   have hi':=List.getElem?_eq_getElem hi
   exact (Zst (h.way hi') (h.state hi') (by omega) (k4 _ hx)).2.2
  unfold Zf2 Za6
  simp only [List.map_map]
  exact ZuC (f:=Zd6 ∘ ZfB w.network (ZcT w)) (fun x hx=>(hstep x hx).1) ⟨o,ho,(hstep o ho).2 k3⟩
def runV:Nat→Ze→Int→Ze
 | 0,w,_=>w
 | k+1,w,u=>if ZcT w<0∨u<ZcT w then w else runV k (Za6 w (ZcT w)) u
theorem Znb {w:Ze} (h:WOk w) (h0:Zf2 w=0):ZcT w=-1:=by
 rcases ZhL h with ⟨k,_⟩ | ⟨k1,k2,⟨o,ho,k3⟩,k4⟩
 ·exact k
 ·exfalso
  have hz:Zd6 o=0:=by
   unfold Zf2 at h0
   have:=List.sum_eq_zero_iff_forall_eq_nat.1 h0 (Zd6 o) (List.mem_map_of_mem ho)
   exact this
  obtain ⟨i,hi,rfl⟩:=List.getElem_of_mem ho
  have hi':=List.getElem?_eq_getElem hi
  rw [Zsz (h.way hi') (h.state hi') hz] at k3
  cases k3
structure ZkW (w w':Ze):Prop where
 network:w'.network=w.network
 bookings:w'.bookings=w.bookings
 closed:w'.closed=w.closed
 skip:w'.skip=w.skip
 len:w'.orders.length=w.orders.length
 ord:∀ (i:Nat) (o o':Zh),w.orders[i]?=some o→w'.orders[i]?=some o'→Zfl o o'
theorem ZkW.refl (w:Ze):ZkW w w:=⟨rfl,rfl,rfl,rfl,rfl,fun i o o' h h'=>by rw [h] at h'; obtain rfl:=Option.some.inj h'; exact .refl o⟩
theorem ZkW.trans {a b c:Ze} (h:ZkW a b) (k:ZkW b c):ZkW a c:=by
 refine ⟨k.network.trans h.network,k.bookings.trans h.bookings,k.closed.trans h.closed,k.skip.trans h.skip,k.len.trans h.len,fun i o o' h1 h2=>?_⟩
 have hlt:=(List.getElem?_eq_some_iff.1 h1).1
 have hb:b.orders[i]?=some (b.orders[i]'(by rw [h.len]; exact hlt)):=List.getElem?_eq_getElem _
 exact (h.ord i o _ h1 hb).trans (k.ord i _ o' hb h2)
theorem Znz (w:Ze) (at_:Int):ZkW w (Za6 w at_):=by
 refine ⟨rfl,rfl,rfl,rfl,by simp [Za6],fun i o o' h h'=>?_⟩
 simp only [Za6,List.getElem?_map,h,Option.map_some,Option.some.injEq] at h'
 subst h'
 exact ZgG _ _ o
theorem Zuy:∀ (k:Nat) (w:Ze) (u:Int),WOk w→Zf2 w≤k→u≤100000→WOk (runV k w u)∧(ZcT (runV k w u)<0∨u<ZcT (runV k w u))∧ZkW w (runV k w u)∧(w.now≤u→(runV k w u).now≤u)
 | 0,w,u,h,h0,hu=>⟨h,.inl (by have:=Znb h (by omega); show ZcT w<0; omega),.refl w,fun h=>h⟩
 | k+1,w,u,h,h0,hu=>by
  unfold runV
  split
  ·rename_i hc
   exact ⟨h,hc,.refl w,fun h=>h⟩
  ·rename_i hc
   obtain ⟨a,b,c⟩:=Zhj h (by omega)
   have ht:=Zf4 h (by omega)
   obtain ⟨r1,r2,r3,r4⟩:=Zuy k (Za6 w (ZcT w)) u a (by omega) hu
   exact ⟨r1,r2,(Znz w _).trans r3,fun _=>r4 (by show ZcT w≤u; omega)⟩
theorem Zlx:∀ (k j:Nat) (w:Ze) (u:Int),WOk w→Zf2 w≤k→u≤100000→runV (k+j) w u=runV k w u
 | 0,j,w,u,h,h0,hu=>by
  have:=Znb h (by omega)
  cases j with
  | zero=>rfl
  | succ j=>show runV (0+j+1) w u=w
            unfold runV
            rw [if_pos (.inl (by omega))]
 | k+1,j,w,u,h,h0,hu=>by
  rw [show k+1+j=(k+j)+1 by omega]
  unfold runV
  split
  ·rfl
  ·rename_i hc
   obtain ⟨a,b,c⟩:=Zhj h (by omega)
   have ht:=Zf4 h (by omega)
   exact Zlx k j _ u a (by omega) hu
theorem ZvZ {k j:Nat} {w:Ze} {u:Int} (h:WOk w) (hk:Zf2 w≤k) (hj:Zf2 w≤j) (hu:u≤100000):runV k w u=runV j w u:=by
 obtain ⟨a,rfl⟩:∃ a,k=Zf2 w+a:=⟨k-Zf2 w,by omega⟩
 obtain ⟨b,rfl⟩:∃ b,j=Zf2 w+b:=⟨j-Zf2 w,by omega⟩
 rw [Zlx _ a w u h (Nat.le_refl _) hu,Zlx _ b w u h (Nat.le_refl _) hu]
theorem Zsg {w:Ze} (h:WOk w) {u:Int} (hu:w.now≤u) (hm:u≤100000) (hn:ZcT w<0∨u<ZcT w):WOk { w with now:=u }:=by
 have he:∀ o∈w.orders,∀ e,ZaQ w.network o=some e→u<e:=fun o ho e he=>by
  rcases ZhL h with ⟨_,k⟩ | ⟨k1,_,_,k4⟩
  ·rw [k o ho] at he; cases he
  ·have:=k4 o ho e he
   have:=h.parts.1
   omega
 have hst:∀ o∈w.orders,ZfB w.network u o=o:=fun o ho=>by
  have hev:=he o ho
  have e1:ZR w.network u o=o:=by
   unfold ZR
   cases ht:o.way[o.gone.toNat]? with
   | none=>rfl
   | some t=>
    simp only
    rw [if_neg]
    rintro ⟨c1,c2⟩
    have:=hev u (by unfold ZaQ; rw [ht]; simp [c1,c2])
    omega
  unfold ZfB
  rw [e1]
  unfold Zfj
  cases ht:o.way[o.gone.toNat]? with
  | none=>rfl
  | some t=>
   simp only
   rw [if_neg]
   rintro ⟨c1,c2⟩
   have:=hev u (by unfold ZaQ; rw [ht]; simp [c1,c2])
   omega
 have hmap:w.orders.map (ZfB w.network u)=w.orders:=by
  conv=>rhs; rw [← List.map_id w.orders]
  exact List.map_congr_left fun o ho=>hst o ho
 have hok:=Zmg h hu hm (fun o ho e h'=>by have:=he o ho e h'; omega)
 have hv:=h.ok
 have hk:=hok.ok
 refine ⟨⟨h.fit.net,h.fit.orders,h.fit.bookings,h.fit.closed,h.fit.scans,h.fit.skip,h.fit.way⟩,?_⟩
 unfold Zcw at hv hk ⊢
 simp only [Bool.and_eq_true,Bool.not_eq_true',decide_eq_true_iff,decide_eq_false_iff_not] at hv hk ⊢
 obtain ⟨⟨⟨⟨⟨⟨⟨⟨⟨⟨h1,h2⟩,h3⟩,h4⟩,h5⟩,h6⟩,h7⟩,h8⟩,h9⟩,h10⟩,h11⟩:=hv
 obtain ⟨⟨⟨⟨⟨⟨⟨⟨⟨⟨k1,k2⟩,k3⟩,k4⟩,k5⟩,k6⟩,k7⟩,k8⟩,k9⟩,k10⟩,k11⟩:=hk
 refine ⟨⟨⟨⟨⟨⟨⟨⟨⟨⟨h1,⟨by omega,hm⟩⟩,h3⟩,h4⟩,h5⟩,h6⟩,h7⟩,h8⟩,?_⟩,?_⟩,h11⟩
 ·refine Zcx.2 fun j s hj=>?_
  have:=Zcx.1 h9 j s hj
  unfold Zsb at this ⊢
  simp only [Bool.and_eq_true,Bool.not_eq_true',decide_eq_false_iff_not] at this ⊢
  exact ⟨this.1,by omega⟩
 ·refine Zcx.2 fun j o hj=>?_
  have hj':(Za6 w u).orders[j]?=some o:=by simp only [Za6,hmap]; exact hj
  have:=Zcx.1 k10 j o hj'
  have e:∀ i,ZfW (Za6 w u) i o=ZfW { w with now:=u } i o:=fun i=>rfl
  rw [← e]; exact this
def advV (w:Ze) (u:Int):Ze:={ runV (Zf2 w) w u with now:=u }
theorem Zt1 {w:Ze} (h:WOk w) {u:Int} (hu:w.now≤u) (hm:u≤100000):WOk (advV w u)∧ZkW w (advV w u)∧(ZcT (advV w u)<0∨u<ZcT (advV w u)):=by
 obtain ⟨a,b,c,d⟩:=Zuy _ w u h (Nat.le_refl _) hm
 exact ⟨Zsg a (d hu) hm b,⟨c.network,c.bookings,c.closed,c.skip,c.len,c.ord⟩,b⟩
theorem Zq4:@ZhJ=@ZcZ:=rfl
def ZcA (w:Ze) (s:ZU):Ze:={ w with scans:=(ZeN w.skip (w.scans,w.made) s).1,made:=(ZeN w.skip (w.scans,w.made) s).2 }
structure Ze7 (w:Ze):Prop where
 skip:w.skip.length≤1048576
 len:w.scans.length≤200
 made:0≤w.made∧w.made≤1000000000
theorem ZkY {a b c:Nat} (h:a+b≤1048576) (hc:c≤1024):chk (Z9 (a+b) c)=some ():=by
 refine Zff ?_
 unfold Z9
 refine decide_eq_true ⟨by omega,?_⟩
 have:(a+b)*c≤1048576*1024:=Nat.mul_le_mul h hc
 omega
theorem Zvj {α:Type} {c:Prop} [Decidable c] {l:List α} {s:α} (h:c→l.length<200) (h2:l.length≤200):(if c then l++[s] else l).length≤200:=by
 by_cases hc:c
 ·have:=h hc; rw [if_pos hc]; simp; omega
 ·rw [if_neg hc]; exact h2
theorem Zhd {w:Ze} (h:Ze7 w) (s:ZU):Ze7 (ZcA w s):=by
 obtain ⟨h1,h2,h3⟩:=h
 unfold ZcA ZeN
 refine ⟨h1,?_,?_⟩
 ·exact Zvj (fun h=>h.2) h2
 ·simp only
  split <;> omega
theorem Zsc {w:Ze} (h:Ze7 w) (s:ZU):Zca w s=some (ZcA w s):=by
 obtain ⟨h1,h2,h3⟩:=h
 have hw:w64 (w.made+1)=w.made+1:=Zn (by omega)
 have hm:(if 1000000000<w.made+1 then 1000000000 else w.made+1)=(if w.made<1000000000 then w.made+1 else w.made):=by split <;> split <;> omega
 have ha:=ZkY (a:=w.scans.length) (b:=1) (c:=56) (by omega) (by omega)
 unfold Zca ZcA ZeN
 rw [hw,hm,Zq4,Zld h1]
 simp only [Option.bind_some,List.length_cons,List.length_nil,Nat.zero_add,ha]
 cases hb:w.skip.any fun y=>decide (y=if w.made<1000000000 then w.made+1 else w.made) with
 | true=>simp
 | false=>
  by_cases hl:w.scans.length<200
  ·rw [decide_eq_true (show (w.scans.length:Int)<200 by omega)]; simp [hl]
  ·rw [decide_eq_false (show ¬ (w.scans.length:Int)<200 by omega)]; simp [hl]
theorem Zsd {w:Ze} (h:Ze7 w) (s:ZU):Zan w s=some (ZcA w s):=by
 obtain ⟨h1,h2,h3⟩:=h
 have hw:w64 (w.made+1)=w.made+1:=Zn (by omega)
 have ha:=ZkY (a:=w.scans.length) (b:=1) (c:=56) (by omega) (by omega)
 unfold Zan ZcA ZeN
 rw [hw]
 simp only [Zld h1,Option.bind_some,List.length_cons,List.length_nil,Nat.zero_add,ha]
 by_cases hm:w.made<1000000000
 ·rw [decide_eq_true hm,cond_true]
  simp only [if_pos hm]
  cases hb:w.skip.any fun y=>decide (y=w.made+1) with
  | true=>simp
  | false=>
   by_cases hl:w.scans.length<200
   ·rw [decide_eq_true (show (w.scans.length:Int)<200 by omega)]; simp [hl]
   ·rw [decide_eq_false (show ¬ (w.scans.length:Int)<200 by omega)]; simp [hl]
 ·rw [decide_eq_false hm,cond_false]
  simp only [if_neg hm]
  cases hb:w.skip.any fun y=>decide (y=w.made) with
  | true=>simp
  | false=>
   by_cases hl:w.scans.length<200
   ·rw [decide_eq_true (show (w.scans.length:Int)<200 by omega)]; simp [hl]
   ·rw [decide_eq_false (show ¬ (w.scans.length:Int)<200 by omega)]; simp [hl]
abbrev OwT:=Int × Int × Int × (List YLeg) × (List Int) × (List Zh) × (List Zc) × (List Zg) × (List Int) × (List ZU)
def owT (w:Ze):OwT:=(w.network.change,w.now,w.made,w.network.legs,w.network.off,w.orders,w.bookings,w.closed,w.skip,w.scans)
def twT (i:Int) (w:Ze):Int × OwT:=(i,owT w)
def Zbr (w:Ze) (l:List ZU):Ze:=l.foldl ZcA w
theorem Zhe:∀ (l:List ZU) (w:Ze),Zbr w l={ w with scans:=(l.foldl (ZeN w.skip) (w.scans,w.made)).1,made:=(l.foldl (ZeN w.skip) (w.scans,w.made)).2 }
 | [],w=>rfl
 | s::l,w=>by
  show Zbr (ZcA w s) l=_
  rw [Zhe l (ZcA w s)]
  rfl
def ZeL (f:Zh→Zh) (g:Nat→Zh→List ZU) (i:Nat) (o:Zh) (w:Ze):Ze:=Zbr { w with orders:=w.orders.set i (f o) } (g i o)
def Zg2 (f:Zh→Zh) (g:Nat→Zh→List ZU):Nat→List Zh→Ze→Ze
 | _,[],w=>w
 | i,o::os,w=>Zg2 f g (i+1) os (ZeL f g i o w)
theorem Zi5 (f:Zh→Zh) (g:Nat→Zh→List ZU) (i:Nat) (o:Zh) (w:Ze):ZeL f g i o w={ w with orders:=w.orders.set i (f o),scans:=((g i o).foldl (ZeN w.skip) (w.scans,w.made)).1,made:=((g i o).foldl (ZeN w.skip) (w.scans,w.made)).2 }:=by
 unfold ZeL; rw [Zhe]
theorem Zln (f:Zh→Zh) (g:Nat→Zh→List ZU):∀ (os pre:List Zh) (w:Ze),w.orders=pre++os→
 Zg2 f g pre.length os w={ w with orders:=pre++os.map f,scans:=((Zfd g pre.length os).foldl (ZeN w.skip) (w.scans,w.made)).1,made:=((Zfd g pre.length os).foldl (ZeN w.skip) (w.scans,w.made)).2 }
 | [],pre,w,h=>by simp only [Zg2,Zfd,List.map_nil,List.foldl_nil]; rw [← h]
 | o::os,pre,w,h=>by
  have hset:w.orders.set pre.length (f o)=(pre++[f o])++os:=by rw [h,List.set_append_right _ _ (Nat.le_refl _)]; simp
  have:=Zln f g os (pre++[f o]) (ZeL f g pre.length o w) (by rw [Zi5]; exact hset)
  simp only [List.length_append,List.length_cons,List.length_nil] at this
  show Zg2 f g (pre.length+1) os (ZeL f g pre.length o w)=_
  rw [this,Zi5]
  simp only [Zfd,List.foldl_append,List.map_cons,List.append_assoc,List.cons_append,List.nil_append]
theorem Zgy {f:Zh→Zh} {g:Nat→Zh→List ZU} {body:Int × OwT→Option ((Int × OwT) ⊕ OwT)} {n:Nat} {Inv:Ze→Prop} {Good:Nat→Zh→Prop}
 (h1:∀ (i:Nat) (o:Zh) (w:Ze),w.orders.length=n→w.orders[i]?=some o→Inv w→Good i o→body (twT i w)=some (.inl (twT ((i+1:Nat):Int) (ZeL f g i o w)))∧Inv (ZeL f g i o w))
 (h2:∀ w:Ze,w.orders.length=n→body (twT n w)=some (.inr (owT w))):
 ∀ (os:List Zh) (i:Nat) (N:Nat) (w:Ze),w.orders.drop i=os→w.orders.length=n→i≤n→os.length<N→Inv w→(∀ (j:Nat) (o:Zh),os[j]?=some o→Good (i+j) o)→Zj body N (twT i w)=some (owT (Zg2 f g i os w))
 | [],i,0,w,_,_,_,hN,_,_=>by simp at hN
 | [],i,N+1,w,hd,hl,hi,hN,hI,hG=>by
  have:i=n:=by have:=congrArg List.length hd; simp at this; omega
  subst this
  simp only [Zj,h2 w hl,Zg2]
  rfl
 | o::os,i,0,w,_,_,_,hN,_,_=>by simp at hN
 | o::os,i,N+1,w,hd,hl,hi,hN,hI,hG=>by
  have ho:w.orders[i]?=some o:=by
   have:=congrArg (fun l:List Zh=>l[0]?) hd
   simpa using this
  have hlt:i<w.orders.length:=(List.getElem?_eq_some_iff.1 ho).1
  obtain ⟨e1,e2⟩:=h1 i o w hl ho hI (by simpa using hG 0 o rfl)
  have hor:(ZeL f g i o w).orders=w.orders.set i (f o):=by rw [Zi5]
  simp only [Zj,e1,Zg2]
  refine Zgy h1 h2 os (i+1) N (ZeL f g i o w) ?_ (by rw [hor,List.length_set]; exact hl) (by omega) (by simp at hN; omega) e2 fun j o' hj=>?_
  ·rw [hor,List.drop_set]
   have:(w.orders.drop (i+1))=os:=by
    have:=congrArg (List.drop 1) hd
    simpa [List.drop_drop] using this
   rw [if_pos (by omega),this]
  ·have:=hG (j+1) o' (by simpa using hj)
   rwa [show i+(j+1)=i+1+j by omega] at this
structure Zek (n:Za) (k:Nat) (w:Ze):Prop where
 net:w.network=n
 scans:Ze7 w
 orders:w.orders.length≤1048576
theorem Zis:∀ (l:List ZU) (w:Ze),Ze7 w→Ze7 (Zbr w l)
 | [],w,h=>h
 | s::l,w,h=>Zis l _ (Zhd h s)
theorem Zek.step {n:Za} {k:Nat} {w:Ze} (h:Zek n k w) (f:Zh→Zh) (g:Nat→Zh→List ZU) (i:Nat) (o:Zh):Zek n k (ZeL f g i o w):=by
 have hs:Ze7 { w with orders:=w.orders.set i (f o) }:=⟨h.scans.skip,h.scans.len,h.scans.made⟩
 have h1:=Zis (g i o) _ hs
 rw [Zi5]
 unfold ZeL at *
 rw [Zhe] at h1
 exact ⟨h.net,h1,by simp only [List.length_set]; exact h.orders⟩
structure ZfO (n:Za) (o:Zh):Prop where
 gone:0≤o.gone∧o.gone≤o.way.length
 len:o.way.length≤1048576
 trip:∀ t∈o.way,Ze6 n t=true
 rides:o.state=2→o.gone<o.way.length
theorem ZeY {α:Type} {xs:List α} {i:Nat} {x:α} (h:xs[i]?=some x):xs.set i x=xs:=by
 apply List.ext_getElem?
 intro j
 rw [List.getElem?_set]
 split
 ·rename_i e; subst e
  split
  ·exact h.symm
  ·rename_i hl; exact absurd (List.getElem?_eq_some_iff.1 h).1 hl
 ·rfl
theorem ZfU {n:Za} {at_:Int} {i:Nat} {o:Zh} (h:¬ o.state=1∨o.way[o.gone.toNat]?=none∨∃ t,o.way[o.gone.toNat]?=some t∧¬ Za5 n t=at_):Zfj n at_ o=o∧ZfD n at_ i o=[]:=by
 unfold Zfj ZfD
 rcases h with h | h | ⟨t,h,h'⟩
 ·cases o.way[o.gone.toNat]? with
  | none=>exact ⟨rfl,rfl⟩
  | some t=>simp [h]
 ·rw [h]; exact ⟨rfl,rfl⟩
 ·rw [h]; simp [h']
section
variable {n:Za} (hf:ZbC n) (hn:Zm n=some true)
include hf hn
theorem ZvF (w0:Ze) (h0:w0.network=n) (hl0:w0.orders.length≤1048576) {at_:Int} (i:Nat) (o:Zh) (w:Ze) (hl:w.orders.length=w0.orders.length) (ho:w.orders[i]?=some o) (hI:Zek n 0 w) (hG:ZfO n o):
 ZbS w0 at_ (twT i w)=some (.inl (twT ((i+1:Nat):Int) (ZeL (ZR n at_) (Zb6 n at_) i o w))):=by
 have hlt:=(List.getElem?_eq_some_iff.1 ho).1
 have hgg:=hG.gone
 have hg:getI w.orders (i:Int)=some o:=by rw [Zx]; exact ho
 have hr:rgI w.orders (i:Int)=some o:=hg
 have hi:w64 ((i:Int)+1)=((i+1:Nat):Int):=Z8 hlt (by have:=hI.orders; omega)
 have hd:decide ((i:Int)<(w0.orders.length:Int))=true:=decide_eq_true (by omega)
 have hnet:(⟨w.network.legs,w.network.off,w0.network.change⟩:Za)=n:=by rw [hI.net,h0]
 have hnet2:(⟨w.network.legs,w.network.off,w.network.change⟩:Za)=n:=hI.net
 unfold ZbS twT owT
 simp only [hd,cond_true,hg,Option.bind_some,hi,hnet,Znu]
 by_cases hs:o.state=2
 ·have hgl:=hG.rides hs
  have hgt:o.gone.toNat<o.way.length:=by omega
  have ht:o.way[o.gone.toNat]?=some o.way[o.gone.toNat]:=List.getElem?_eq_getElem hgt
  generalize o.way[o.gone.toNat]=t at ht
  have hgw:getI o.way o.gone=some t:=by unfold getI; rw [if_pos hG.gone.1]; exact ht
  have htb:=hG.trip t (List.mem_of_getElem? ht)
  obtain ⟨y,hy,_⟩:=Zdp hf htb
  obtain ⟨t1,t2,t3,t4,t5⟩:=ZcX hf hn htb
  have hto:ZcC n t=y.to_:=by unfold ZcC; rw [hy]; rfl
  have hyl:getI w.network.legs t.leg=some y:=by rw [hI.net]; exact hy
  have hw1:w64 (o.gone+1)=o.gone+1:=Zn (by have:=hG.len; omega)
  simp only [decide_eq_true hs,Bool.not_true,cond_false,hgw,Option.bind_some,t2]
  by_cases he:Zdy n t=at_
  ·have inv1:∀ os:List Zh,Ze7 { w with orders:=os }:=fun os=>⟨hI.scans.skip,hI.scans.len,hI.scans.made⟩
   have ea:ZR n at_ o=arr1 n at_ o t:=by unfold ZR; rw [ht]; simp only [hs,he,and_self,if_true]
   have ed:Zb6 n at_ i o=⟨((i+1:Nat):Int),at_,2,⟨#[]⟩,t⟩::(if ZcC n t=o.to_ then [⟨((i+1:Nat):Int),at_,4,ZcC n t,⟨0,0⟩⟩] else []):=by unfold Zb6; rw [ht]; simp only [hs,he,and_self,if_true]
   unfold ZeL
   rw [ea,ed]
   unfold arr1
   simp only [decide_eq_true he,Bool.not_true,cond_false,hr,hgw,hyl,Option.bind_some,frzL,rhoM,hnet2,Int.toNat_natCast,hw1]
   rw [show (⟨n,w.orders.set i ⟨o.from_,o.to_,o.service,o.weight,o.at_,o.due,o.way,o.gone+1,1,y.to_,o.ended⟩,w.bookings,w.closed,w.now,w.scans,w.skip,w.made⟩:Ze)={ w with orders:=w.orders.set i ⟨o.from_,o.to_,o.service,o.weight,o.at_,o.due,o.way,o.gone+1,1,y.to_,o.ended⟩ } by rw [← hI.net]]
   rw [Zsc (inv1 _)]
   have hlt':i<(w.orders.set i (⟨o.from_,o.to_,o.service,o.weight,o.at_,o.due,o.way,o.gone+1,1,y.to_,o.ended⟩:Zh)).length:=by rw [List.length_set]; exact hlt
   have hr2:rgI (w.orders.set i (⟨o.from_,o.to_,o.service,o.weight,o.at_,o.due,o.way,o.gone+1,1,y.to_,o.ended⟩:Zh)) (i:Int)=some ⟨o.from_,o.to_,o.service,o.weight,o.at_,o.due,o.way,o.gone+1,1,y.to_,o.ended⟩:=by
    unfold rgI; rw [Zx,List.getElem?_set_self hlt]
   simp only [Option.bind_some,ZcA,hr2,hto]
   by_cases hc:y.to_=o.to_
   ·have hr3:rgI (w.orders.set i (⟨o.from_,o.to_,o.service,o.weight,o.at_,o.due,o.way,o.gone+1,3,y.to_,at_⟩:Zh)) (i:Int)=some ⟨o.from_,o.to_,o.service,o.weight,o.at_,o.due,o.way,o.gone+1,3,y.to_,at_⟩:=by
     unfold rgI; rw [Zx,List.getElem?_set_self hlt]
    simp only [decide_eq_true hc,cond_true,List.set_set,hr3,Option.bind_some]
    have inv2:=Zhd (inv1 (w.orders.set i ⟨o.from_,o.to_,o.service,o.weight,o.at_,o.due,o.way,o.gone+1,3,y.to_,at_⟩)) (⟨((i+1:Nat):Int),at_,2,⟨#[]⟩,t⟩:ZU)
    have e2:=Zsc inv2 ⟨((i+1:Nat):Int),at_,4,y.to_,⟨0,0⟩⟩
    unfold ZcA at e2
    simp only at e2
    simp only [e2,Option.bind_some,if_pos hc,Zbr,List.foldl_cons,List.foldl_nil,ZcA]
   ·simp only [decide_eq_false hc,cond_false,if_neg hc,Zbr,List.foldl_cons,List.foldl_nil,ZcA]
  ·have ea:ZR n at_ o=o:=by unfold ZR; rw [ht]; simp only [he,and_false,if_false]
   have ed:Zb6 n at_ i o=[]:=by unfold Zb6; rw [ht]; simp only [he,and_false,if_false]
   simp only [decide_eq_false he,Bool.not_false,cond_true,ZeL,ea,ed,Zbr,List.foldl_nil,ZeY ho]
 ·have ea:ZR n at_ o=o:=by
   unfold ZR
   cases o.way[o.gone.toNat]? with
   | none=>rfl
   | some t=>simp [hs]
  have ed:Zb6 n at_ i o=[]:=by
   unfold Zb6
   cases o.way[o.gone.toNat]? with
   | none=>rfl
   | some t=>simp [hs]
  simp only [decide_eq_false hs,Bool.not_false,cond_true,ZeL,ea,ed,Zbr,List.foldl_nil,ZeY ho]
theorem ZvG {at_:Int} (i:Nat) (o:Zh) (w:Ze) (ho:w.orders[i]?=some o) (hI:Zek n 0 w) (hG:ZfO n o):
 Zbu at_ (twT i w)=some (.inl (twT ((i+1:Nat):Int) (ZeL (ZR n at_) (Zb6 n at_) i o w))):=by
 have hlt:=(List.getElem?_eq_some_iff.1 ho).1
 have hgg:=hG.gone
 have hg:getI w.orders (i:Int)=some o:=by rw [Zx]; exact ho
 have hi:w64 ((i:Int)+1)=((i+1:Nat):Int):=Z8 hlt (by have:=hI.orders; omega)
 have hd:decide ((i:Int)<(w.orders.length:Int))=true:=decide_eq_true (by omega)
 have hnet2:(⟨w.network.legs,w.network.off,w.network.change⟩:Za)=n:=hI.net
 unfold Zbu twT owT
 simp only [hd,cond_true,hg,Option.bind_some,hi,hnet2]
 by_cases hs:o.state=2
 ·have hgl:=hG.rides hs
  have hgt:o.gone.toNat<o.way.length:=by omega
  have ht:o.way[o.gone.toNat]?=some o.way[o.gone.toNat]:=List.getElem?_eq_getElem hgt
  generalize o.way[o.gone.toNat]=t at ht
  have hgw:getI o.way o.gone=some t:=by unfold getI; rw [if_pos hG.gone.1]; exact ht
  have htb:=hG.trip t (List.mem_of_getElem? ht)
  obtain ⟨y,hy,_⟩:=Zdp hf htb
  obtain ⟨t1,t2,t3,t4,t5⟩:=ZcX hf hn htb
  have hto:ZcC n t=y.to_:=by unfold ZcC; rw [hy]; rfl
  have hw1:w64 (o.gone+1)=o.gone+1:=Zn (by have:=hG.len; omega)
  simp only [decide_eq_true hs,Bool.not_true,cond_false,hgw,Option.bind_some,t2]
  by_cases he:Zdy n t=at_
  ·have ea:ZR n at_ o=arr1 n at_ o t:=by unfold ZR; rw [ht]; simp only [hs,he,and_self,if_true]
   have ed:Zb6 n at_ i o=⟨((i+1:Nat):Int),at_,2,⟨#[]⟩,t⟩::(if ZcC n t=o.to_ then [⟨((i+1:Nat):Int),at_,4,ZcC n t,⟨0,0⟩⟩] else []):=by unfold Zb6; rw [ht]; simp only [hs,he,and_self,if_true]
   unfold ZeL
   rw [ea,ed]
   unfold arr1
   simp only [decide_eq_true he,Bool.not_true,cond_false,Option.bind_some,frzL,rhoM,Int.toNat_natCast,hw1]
   have e1:=Zsd hI.scans ⟨((i+1:Nat):Int),at_,2,⟨#[]⟩,t⟩
   have hw:w=⟨n,w.orders,w.bookings,w.closed,w.now,w.scans,w.skip,w.made⟩:=by rw [← hI.net]
   rw [← hI.net] at hy
   rw [show (⟨n,w.orders,w.bookings,w.closed,w.now,w.scans,w.skip,w.made⟩:Ze)=w from hw.symm,e1]
   simp only [Option.bind_some,ZcA,hg,hy,hto]
   by_cases hc:y.to_=o.to_
   ·have inv2:Ze7 { ZcA w ⟨((i+1:Nat):Int),at_,2,⟨#[]⟩,t⟩ with orders:=w.orders.set i ⟨o.from_,o.to_,o.service,o.weight,o.at_,o.due,o.way,o.gone+1,3,y.to_,at_⟩ }:=by
     obtain ⟨a,b,c⟩:=Zhd hI.scans ⟨((i+1:Nat):Int),at_,2,⟨#[]⟩,t⟩
     exact ⟨a,b,c⟩
    have e2:=Zsd inv2 ⟨((i+1:Nat):Int),at_,4,o.to_,⟨0,0⟩⟩
    unfold ZcA at e2
    simp only at e2
    have hcd:decide (y.to_=o.to_)=true:=decide_eq_true hc
    simp only [hcd,cond_true,Option.bind_some,e2,if_pos hc,Zbr,List.foldl_cons,List.foldl_nil,ZcA]
    simp only [hc]
   ·simp only [decide_eq_false hc,cond_false,if_neg hc,Zbr,List.foldl_cons,List.foldl_nil,ZcA]
  ·have ea:ZR n at_ o=o:=by unfold ZR; rw [ht]; simp only [he,and_false,if_false]
   have ed:Zb6 n at_ i o=[]:=by unfold Zb6; rw [ht]; simp only [he,and_false,if_false]
   simp only [decide_eq_false he,Bool.not_false,cond_true,ZeL,ea,ed,Zbr,List.foldl_nil,ZeY ho]
 ·have ea:ZR n at_ o=o:=by
   unfold ZR
   cases o.way[o.gone.toNat]? with
   | none=>rfl
   | some t=>simp [hs]
  have ed:Zb6 n at_ i o=[]:=by
   unfold Zb6
   cases o.way[o.gone.toNat]? with
   | none=>rfl
   | some t=>simp [hs]
  simp only [decide_eq_false hs,Bool.not_false,cond_true,ZeL,ea,ed,Zbr,List.foldl_nil,ZeY ho]
theorem ZvH (w0:Ze) (h0:w0.network=n) (o0:OwT) {at_:Int} (i:Nat) (o:Zh) (w:Ze) (hl:w.orders.length=o0.2.2.2.2.2.1.length) (ho:w.orders[i]?=some o) (hI:Zek n 0 w) (hG:ZfO n o):
 ZbT w0 at_ o0 (twT i w)=some (.inl (twT ((i+1:Nat):Int) (ZeL (Zfj n at_) (ZfD n at_) i o w))):=by
 have hlt:=(List.getElem?_eq_some_iff.1 ho).1
 have hgg:=hG.gone
 have hg:getI w.orders (i:Int)=some o:=by rw [Zx]; exact ho
 have hr:rgI w.orders (i:Int)=some o:=hg
 have hi:w64 ((i:Int)+1)=((i+1:Nat):Int):=Z8 hlt (by have:=hI.orders; omega)
 have hd:decide ((i:Int)<(o0.2.2.2.2.2.1.length:Int))=true:=decide_eq_true (by omega)
 have hnet:(⟨w.network.legs,w.network.off,w0.network.change⟩:Za)=n:=by rw [hI.net,h0]
 have hnet2:(⟨w.network.legs,w.network.off,w.network.change⟩:Za)=n:=hI.net
 unfold ZbT twT owT
 simp only [hd,cond_true,hg,Option.bind_some,hi,hnet,Zj1]
 by_cases hs:o.state=1
 ·by_cases hgl:o.gone<o.way.length
  ·have hgt:o.gone.toNat<o.way.length:=by omega
   have ht:o.way[o.gone.toNat]?=some o.way[o.gone.toNat]:=List.getElem?_eq_getElem hgt
   generalize o.way[o.gone.toNat]=t at ht
   have hgw:getI o.way o.gone=some t:=by unfold getI; rw [if_pos hG.gone.1]; exact ht
   have htb:=hG.trip t (List.mem_of_getElem? ht)
   obtain ⟨t1,t2,t3,t4,t5⟩:=ZcX hf hn htb
   simp only [decide_eq_true hs,decide_eq_true hgl,cond_true,hgw,Option.bind_some,t1]
   by_cases he:Za5 n t=at_
   ·have ea:Zfj n at_ o=⟨o.from_,o.to_,o.service,o.weight,o.at_,o.due,o.way,o.gone,2,⟨#[]⟩,o.ended⟩:=by unfold Zfj; rw [ht]; simp only [hs,he,and_self,if_true]
    have ed:ZfD n at_ i o=[⟨((i+1:Nat):Int),at_,3,⟨#[]⟩,t⟩]:=by unfold ZfD; rw [ht]; simp only [hs,he,and_self,if_true]
    have hr2:rgI (w.orders.set i (⟨o.from_,o.to_,o.service,o.weight,o.at_,o.due,o.way,o.gone,2,⟨#[]⟩,o.ended⟩:Zh)) (i:Int)=some ⟨o.from_,o.to_,o.service,o.weight,o.at_,o.due,o.way,o.gone,2,⟨#[]⟩,o.ended⟩:=by
     unfold rgI; rw [Zx,List.getElem?_set_self hlt]
    have inv1:Ze7 { w with orders:=w.orders.set i ⟨o.from_,o.to_,o.service,o.weight,o.at_,o.due,o.way,o.gone,2,⟨#[]⟩,o.ended⟩ }:=⟨hI.scans.skip,hI.scans.len,hI.scans.made⟩
    have e1:=Zsc inv1 ⟨((i+1:Nat):Int),at_,3,⟨#[]⟩,t⟩
    have hnw:w.network=n:=hI.net
    simp only [hnw] at e1
    unfold ZeL
    rw [ea,ed]
    simp only [decide_eq_true he,cond_true,hr,Option.bind_some,frzL,rhoM,drwL,hnet2,Int.toNat_natCast,hr2,hgw,e1,Zbr,List.foldl_cons,List.foldl_nil,ZcA,hnw]
   ·obtain ⟨ea,ed⟩:=ZfU (n:=n) (at_:=at_) (i:=i) (.inr (.inr ⟨t,ht,he⟩))
    simp only [decide_eq_false he,cond_false,ZeL,ea,ed,Zbr,List.foldl_nil,ZeY ho]
  ·obtain ⟨ea,ed⟩:=ZfU (n:=n) (at_:=at_) (i:=i) (o:=o) (.inr (.inl (List.getElem?_eq_none (by omega))))
   simp only [decide_eq_true hs,decide_eq_false hgl,cond_true,cond_false,ZeL,ea,ed,Zbr,List.foldl_nil,ZeY ho]
 ·obtain ⟨ea,ed⟩:=ZfU (n:=n) (at_:=at_) (i:=i) (o:=o) (.inl hs)
  simp only [decide_eq_false hs,cond_false,ZeL,ea,ed,Zbr,List.foldl_nil,ZeY ho]
theorem ZvI {at_:Int} (i:Nat) (o:Zh) (w:Ze) (ho:w.orders[i]?=some o) (hI:Zek n 0 w) (hG:ZfO n o):
 Zbv at_ (twT i w)=some (.inl (twT ((i+1:Nat):Int) (ZeL (Zfj n at_) (ZfD n at_) i o w))):=by
 have hlt:=(List.getElem?_eq_some_iff.1 ho).1
 have hgg:=hG.gone
 have hg:getI w.orders (i:Int)=some o:=by rw [Zx]; exact ho
 have hi:w64 ((i:Int)+1)=((i+1:Nat):Int):=Z8 hlt (by have:=hI.orders; omega)
 have hd:decide ((i:Int)<(w.orders.length:Int))=true:=decide_eq_true (by omega)
 have hnet2:(⟨w.network.legs,w.network.off,w.network.change⟩:Za)=n:=hI.net
 unfold Zbv twT owT
 simp only [hd,cond_true,hg,Option.bind_some,hi,hnet2]
 by_cases hs:o.state=1
 ·by_cases hgl:o.gone<o.way.length
  ·have hgt:o.gone.toNat<o.way.length:=by omega
   have ht:o.way[o.gone.toNat]?=some o.way[o.gone.toNat]:=List.getElem?_eq_getElem hgt
   generalize o.way[o.gone.toNat]=t at ht
   have hgw:getI o.way o.gone=some t:=by unfold getI; rw [if_pos hG.gone.1]; exact ht
   have htb:=hG.trip t (List.mem_of_getElem? ht)
   obtain ⟨t1,t2,t3,t4,t5⟩:=ZcX hf hn htb
   simp only [decide_eq_true hs,decide_eq_true hgl,cond_true,hgw,Option.bind_some,t1]
   by_cases he:Za5 n t=at_
   ·have ea:Zfj n at_ o=⟨o.from_,o.to_,o.service,o.weight,o.at_,o.due,o.way,o.gone,2,⟨#[]⟩,o.ended⟩:=by unfold Zfj; rw [ht]; simp only [hs,he,and_self,if_true]
    have ed:ZfD n at_ i o=[⟨((i+1:Nat):Int),at_,3,⟨#[]⟩,t⟩]:=by unfold ZfD; rw [ht]; simp only [hs,he,and_self,if_true]
    have inv1:Ze7 { w with orders:=w.orders.set i ⟨o.from_,o.to_,o.service,o.weight,o.at_,o.due,o.way,o.gone,2,⟨#[]⟩,o.ended⟩ }:=⟨hI.scans.skip,hI.scans.len,hI.scans.made⟩
    have e1:=Zsd inv1 ⟨((i+1:Nat):Int),at_,3,⟨#[]⟩,t⟩
    have hnw:w.network=n:=hI.net
    simp only [hnw] at e1
    unfold ZeL
    rw [ea,ed]
    simp only [decide_eq_true he,cond_true,Option.bind_some,frzL,rhoM,drwL,hnet2,Int.toNat_natCast,hgw,e1,Zbr,List.foldl_cons,List.foldl_nil,ZcA,hnw]
   ·obtain ⟨ea,ed⟩:=ZfU (n:=n) (at_:=at_) (i:=i) (.inr (.inr ⟨t,ht,he⟩))
    simp only [decide_eq_false he,cond_false,ZeL,ea,ed,Zbr,List.foldl_nil,ZeY ho]
  ·obtain ⟨ea,ed⟩:=ZfU (n:=n) (at_:=at_) (i:=i) (o:=o) (.inr (.inl (List.getElem?_eq_none (by omega))))
   simp only [decide_eq_true hs,decide_eq_false hgl,cond_true,cond_false,ZeL,ea,ed,Zbr,List.foldl_nil,ZeY ho]
 ·obtain ⟨ea,ed⟩:=ZfU (n:=n) (at_:=at_) (i:=i) (o:=o) (.inl hs)
  simp only [decide_eq_false hs,cond_false,ZeL,ea,ed,Zbr,List.foldl_nil,ZeY ho]
end
structure ZlO (w:Ze):Prop where
 net:ZbC w.network
 isNet:Zm w.network=some true
 inv:Zek w.network 0 w
 ord:∀ o∈w.orders,ZfO w.network o
theorem ZnS {n:Za} {at_:Int} {o:Zh} (h:ZfO n o):ZfO n (ZR n at_ o):=by
 have hs:=Zhf n at_ o
 refine ⟨?_,by rw [hs.way]; exact h.len,by rw [hs.way]; exact h.trip,?_⟩
 ·rw [hs.way]
  have:=h.gone
  unfold ZR
  split
  ·rename_i t ht
   have hlt:=(List.getElem?_eq_some_iff.1 ht).1
   split
   ·unfold arr1; split <;> (simp only; omega)
   ·exact this
  ·exact this
 ·unfold ZR
  split
  ·split
   ·unfold arr1; split <;> (intro h'; simp at h')
   ·exact h.rides
  ·exact h.rides
theorem Zny {w:Ze} (h:ZlO w) (at_:Int):Zgg w at_=some (Za6 w at_)∧ZdD w at_=some (Za6 w at_):=by
 have hlen:=h.inv.orders
 have p1:Zg2 (ZR w.network at_) (Zb6 w.network at_) 0 w.orders w={ w with orders:=w.orders.map (ZR w.network at_),scans:=((Zfd (Zb6 w.network at_) 0 w.orders).foldl (ZeN w.skip) (w.scans,w.made)).1,made:=((Zfd (Zb6 w.network at_) 0 w.orders).foldl (ZeN w.skip) (w.scans,w.made)).2 }:=by
  have:=Zln (ZR w.network at_) (Zb6 w.network at_) w.orders [] w rfl
  simpa using this
 have i1:Zek w.network 0 (Zg2 (ZR w.network at_) (Zb6 w.network at_) 0 w.orders w):=by
  have:∀ (os:List Zh) (i:Nat) (v:Ze),Zek w.network 0 v→Zek w.network 0 (Zg2 (ZR w.network at_) (Zb6 w.network at_) i os v):=by
   intro os
   induction os with
   | nil=>intro i v hv; exact hv
   | cons o os ih=>intro i v hv; exact ih (i+1) _ (hv.step _ _ i o)
  exact this _ _ _ h.inv
 have o1:(Zg2 (ZR w.network at_) (Zb6 w.network at_) 0 w.orders w).orders=w.orders.map (ZR w.network at_):=by rw [p1]
 have p2:=Zln (Zfj w.network at_) (ZfD w.network at_) (w.orders.map (ZR w.network at_)) [] (Zg2 (ZR w.network at_) (Zb6 w.network at_) 0 w.orders w) (by rw [o1]; rfl)
 simp only [List.length_nil,List.nil_append] at p2
 have hgood:∀ (j:Nat) (o:Zh),w.orders[j]?=some o→ZfO w.network o:=fun j o ho=>h.ord o (List.mem_of_getElem? ho)
 have hgood2:∀ (j:Nat) (o:Zh),(w.orders.map (ZR w.network at_))[j]?=some o→ZfO w.network o:=fun j o ho=>by
  rw [List.getElem?_map] at ho
  obtain ⟨o0,h0,rfl⟩:=Option.map_eq_some_iff.1 ho
  exact ZnS (hgood j o0 h0)
 have fin:∀ v:Ze,v=Zg2 (Zfj w.network at_) (ZfD w.network at_) 0 (w.orders.map (ZR w.network at_)) (Zg2 (ZR w.network at_) (Zb6 w.network at_) 0 w.orders w)→{ v with now:=at_ }=Za6 w at_:=by
  rintro v rfl
  rw [p2,p1]
  unfold Za6 ZkR ZfB
  simp only [List.map_map,List.foldl_append]
  rfl
 constructor
 ·unfold Zgg
  have l1:=Zgy (f:=ZR w.network at_) (g:=Zb6 w.network at_) (body:=ZbS w at_) (n:=w.orders.length) (Inv:=Zek w.network 0) (Good:=fun _ o=>ZfO w.network o)
   (fun i o v hv ho hI hG=>⟨ZvF h.net h.isNet w rfl hlen i o v hv ho hI hG,hI.step _ _ i o⟩)
   (fun v hv=>by unfold ZbS twT owT; simp only [decide_eq_false (show ¬ (w.orders.length:Int)<(w.orders.length:Int) by omega),cond_false]) w.orders 0 NN w rfl rfl (Nat.zero_le _) (by unfold NN; omega) h.inv hgood
  have e1:((0:Int),w.network.change,w.now,w.made,w.network.legs,w.network.off,w.orders,w.bookings,w.closed,w.skip,w.scans)=twT ((0:Nat):Int) w:=rfl
  rw [e1,l1,Option.bind_some]
  generalize hv1:Zg2 (ZR w.network at_) (Zb6 w.network at_) 0 w.orders w=v1 at *
  have hl2:v1.orders.length=w.orders.length:=by rw [o1,List.length_map]
  have l2:=Zgy (f:=Zfj w.network at_) (g:=ZfD w.network at_) (body:=ZbT w at_ (owT v1)) (n:=v1.orders.length) (Inv:=Zek w.network 0) (Good:=fun _ o=>ZfO w.network o)
   (fun i o v hv ho hI hG=>⟨ZvH h.net h.isNet w rfl (owT v1) i o v hv ho hI hG,hI.step _ _ i o⟩)
   (fun v hv=>by unfold ZbT twT owT; simp only [decide_eq_false (show ¬ (v1.orders.length:Int)<(v1.orders.length:Int) by omega),cond_false]) (w.orders.map (ZR w.network at_)) 0 NN v1 (by rw [o1]; rfl) rfl (Nat.zero_le _) (by rw [List.length_map]; unfold NN; omega) i1 hgood2
  have e2:((0:Int),(owT v1).1,(owT v1).2.1,(owT v1).2.2.1,(owT v1).2.2.2.1,(owT v1).2.2.2.2.1,(owT v1).2.2.2.2.2.1,(owT v1).2.2.2.2.2.2.1,(owT v1).2.2.2.2.2.2.2.1,(owT v1).2.2.2.2.2.2.2.2.1,(owT v1).2.2.2.2.2.2.2.2.2)=twT ((0:Nat):Int) v1:=rfl
  rw [e2,l2,Option.bind_some]
  exact congrArg some (fin _ rfl)
 ·unfold ZdD
  have l1:=Zgy (f:=ZR w.network at_) (g:=Zb6 w.network at_) (body:=Zbu at_) (n:=w.orders.length) (Inv:=Zek w.network 0) (Good:=fun _ o=>ZfO w.network o)
   (fun i o v hv ho hI hG=>⟨ZvG h.net h.isNet i o v ho hI hG,hI.step _ _ i o⟩)
   (fun v hv=>by unfold Zbu twT owT; simp only [decide_eq_false (show ¬ (w.orders.length:Int)<(v.orders.length:Int) by omega),cond_false]) w.orders 0 NN w rfl rfl (Nat.zero_le _) (by unfold NN; omega) h.inv hgood
  have e1:((0:Int),w.network.change,w.now,w.made,w.network.legs,w.network.off,w.orders,w.bookings,w.closed,w.skip,w.scans)=twT ((0:Nat):Int) w:=rfl
  rw [e1,l1,Option.bind_some]
  generalize hv1:Zg2 (ZR w.network at_) (Zb6 w.network at_) 0 w.orders w=v1 at *
  have l2:=Zgy (f:=Zfj w.network at_) (g:=ZfD w.network at_) (body:=Zbv at_) (n:=v1.orders.length) (Inv:=Zek w.network 0) (Good:=fun _ o=>ZfO w.network o)
   (fun i o v hv ho hI hG=>⟨ZvI h.net h.isNet i o v ho hI hG,hI.step _ _ i o⟩)
   (fun v hv=>by unfold Zbv twT owT; simp only [decide_eq_false (show ¬ (v1.orders.length:Int)<(v.orders.length:Int) by omega),cond_false]) (w.orders.map (ZR w.network at_)) 0 NN v1 (by rw [o1]; rfl) rfl (Nat.zero_le _) (by rw [List.length_map]; unfold NN; omega) i1 hgood2
  have e2:((0:Int),(owT v1).1,(owT v1).2.1,(owT v1).2.2.1,(owT v1).2.2.2.1,(owT v1).2.2.2.2.1,(owT v1).2.2.2.2.2.1,(owT v1).2.2.2.2.2.2.1,(owT v1).2.2.2.2.2.2.2.1,(owT v1).2.2.2.2.2.2.2.2.1,(owT v1).2.2.2.2.2.2.2.2.2)=twT ((0:Nat):Int) v1:=rfl
  rw [e2,l2,Option.bind_some]
  exact congrArg some (fin _ rfl)
theorem ZoU {σ ο:Type} {body:σ→Option (σ ⊕ ο)} (S:Nat→σ) {n:Nat} {o:ο} (h1:∀ i,i<n→body (S i)=some (.inl (S (i+1)))) (h2:body (S n)=some (.inr o)):∀ N,n<N→Zj body N (S 0)=some o:=by
 have key:∀ d j,j+d=n→∀ N,d<N→Zj body N (S j)=some o:=by
  intro d
  induction d with
  | zero=>
   intro j hj N hN
   obtain ⟨N,rfl⟩:∃ M,N=M+1:=⟨N-1,by omega⟩
   have:j=n:=by omega
   subst this
   unfold Zj; rw [h2]; rfl
  | succ d ih=>
   intro j hj N hN
   obtain ⟨N,rfl⟩:∃ M,N=M+1:=⟨N-1,by omega⟩
   unfold Zj
   rw [h1 j (by omega)]
   exact ih (j+1) (by omega) N (by omega)
 intro N hN
 exact key n 0 (by omega) N hN
theorem ZmW {A α:Type} (f:A→α→A):∀ (xs:List α) (i:Nat) (a:A),runL (fun _ a x=>some (.inl (f a x):A ⊕ A)) some i xs a=some (xs.foldl f a)
 | [],i,a=>rfl
 | x::xs,i,a=>by
  simp only [runL,Option.bind_some,Zu,List.foldl_cons]
  exact ZmW f xs (i+1) (f a x)
theorem Zvw {w:Ze} (h:WOk w):Zef w=some (ZcT w):=by
 have hnet:=h.net
 have hor:=h.fit.orders
 have e1:Zj (ZaN w) NN ((-1),0)=some (ZcT w):=by
  rw [Zgu (xs:=w.orders) (A:=Int) (fun a i=>(a,i)) (fun _ a o=>some (.inl (Zgh a (ZaQ w.network o)))) some (fun a i o ho=>?_) (fun a=>?_) (by unfold NN; omega) (-1)]
  ·exact ZmW (fun a o=>Zgh a (ZaQ w.network o)) w.orders 0 (-1)
  ·have hlt:=(List.getElem?_eq_some_iff.1 ho).1
   have hg:getI w.orders (i:Int)=some o:=by rw [Zx]; exact ho
   have hi:w64 ((i:Int)+1)=((i+1:Nat):Int):=Z8 hlt (by omega)
   have hok:=Zd0 h.fit h.ok ho
   unfold ZaN
   simp only [decide_eq_true (show (i:Int)<w.orders.length by omega),cond_true,hg,Option.bind_some,hi,Zj1,Znu]
   by_cases hgl:o.gone<o.way.length
   ·obtain ⟨t,htg,htb⟩:=Zpm h.fit h.ok ho hok.gone.1 hgl
    obtain ⟨t1,t2,t3,t4,t5⟩:=ZcX h.fit.net hnet htb
    have ht:o.way[o.gone.toNat]?=some t:=by unfold getI at htg; rwa [if_pos hok.gone.1] at htg
    have ev:ZaQ w.network o=some (if o.state=2 then Zdy w.network t else Za5 w.network t):=by unfold ZaQ; rw [ht]; rfl
    rw [ev]
    simp only [htg,Option.bind_some,t1,t2,decide_eq_true hgl,Zgh]
    rcases hok.cases with ⟨c1,_⟩ | ⟨c1,_⟩ | ⟨c1,c2,_⟩
    ·rw [c1]
     simp only [show decide ((1:Int)=2)=false from rfl,show decide ((1:Int)=1)=true from rfl,cond_true,cond_false,decide_eq_true t3,show ¬ ((1:Int)=2) by omega,if_false,Zu]
     by_cases ha:a<0
     ·simp [ha]
     ·by_cases hb:Za5 w.network t<a <;> simp [ha,hb]
    ·rw [c1]
     simp only [show decide ((2:Int)=2)=true from rfl,cond_true,decide_eq_true (show 0≤Zdy w.network t by omega),if_true,Zu]
     by_cases ha:a<0
     ·simp [ha]
     ·by_cases hb:Zdy w.network t<a <;> simp [ha,hb]
    ·omega
   ·have hge:=hok.gone.2
    have ev:ZaQ w.network o=none:=by unfold ZaQ; rw [List.getElem?_eq_none (by omega)]; rfl
    rw [ev,decide_eq_false hgl]
    rcases hok.cases with ⟨c1,_⟩ | ⟨c1,_⟩ | ⟨c1,c2,_⟩
    ·rw [c1]; rfl
    ·omega
    ·rw [c1]; rfl
  ·unfold ZaN
   simp
 unfold Zef
 rw [e1]; rfl
theorem Zvx {w:Ze} (h:WOk w):Zdk w=some (ZcT w):=by
 have h1:=Zvv h.fit h.ok
 rw [Zvw h] at h1
 unfold Zdk
 rw [Zev h.fit,h.ok]
 simp only [Option.bind_some,Bool.not_true,cond_false]
 exact h1.symm
theorem chk0 {n c:Nat} (h:n≤1048576) (hc:c≤1024):chk (Z9 (0+n) c)=some ():=ZkY (by omega) hc
theorem chkn {n c:Nat} (h:n≤1048576) (hc:c≤1024):chk (Z9 n c)=some ():=by have:=chk0 h hc; rwa [Nat.zero_add] at this
theorem Zp7 {α:Type} {xs:List α} {i:Nat} {x:α} (h:xs[i]?=some x):xs.take i++[x]=xs.take (i+1):=by
 rw [List.take_add_one,h]; rfl
theorem Zjx {l:List Int} (h:l.length≤1048576):Zad l=some l:=by
 unfold Zad
 simp only [List.length_nil,chk0 h (show 8≤1024 by omega),Option.bind_some,List.nil_append]
theorem Zh4 {l:List Zc} (h:l.length≤1048576):Zcp l=some l:=by
 unfold Zcp
 simp only [List.length_nil,chk0 h (show 32≤1024 by omega),Option.bind_some,List.nil_append]
theorem Zh5 {w:Ze} (h:WFit w):Zam w=some w:=by
 have hor:=h.orders
 unfold Zam
 have e:Zj (Za9 w w.network.off) NN (0,([]:List Zh))=some w.orders:=by
  have:=ZoU (body:=Za9 w w.network.off) (fun i:Nat=>((i:Int),w.orders.take i)) (n:=w.orders.length) (o:=w.orders) (fun i hi=>?_) ?_ NN (by unfold NN; omega)
  ·simpa using this
  ·have ho:w.orders[i]?=some w.orders[i]:=List.getElem?_eq_getElem hi
   have hg:getI w.orders (i:Int)=some w.orders[i]:=by rw [Zx]; exact ho
   have hw:w64 ((i:Int)+1)=((i+1:Nat):Int):=Z8 hi (by omega)
   have hl:(w.orders.take i).length+1≤1048576:=by rw [List.length_take]; omega
   unfold Za9
   simp only [decide_eq_true (show (i:Int)<w.orders.length by omega),cond_true,hg,Option.bind_some,chkn (h.way _ (List.getElem_mem hi)) (show 16≤1024 by omega),frz,List.length_cons,List.length_nil,Nat.zero_add,ZkY hl (show 128≤1024 by omega),hw,List.nil_append]
   rw [← Zp7 ho]
  ·unfold Za9
   simp
 simp only [List.length_nil,chk0 h.net.legs (show 64≤1024 by omega),Zjx h.net.off,Zjx h.skip,chk0 h.closed (show 16≤1024 by omega),chk0 h.scans (show 56≤1024 by omega),Option.bind_some,e,Zh4 h.bookings,List.nil_append]
abbrev OwA:=Int × Int × Int × (List YLeg) × (List Int) × (List Zh) × (List Zc) × (List Zg) × (List ZU) × (List Int)
def owA (w:Ze):OwA:=(w.network.change,w.now,w.made,w.network.legs,w.network.off,w.orders,w.bookings,w.closed,w.scans,w.skip)
theorem WOk.pass {w:Ze} (h:WOk w):ZlO w:=by
 have hp:=h.parts
 refine ⟨h.fit.net,h.net,⟨rfl,⟨h.fit.skip,hp.2.2.2.1,by omega⟩,h.fit.orders⟩,fun o ho=>?_⟩
 obtain ⟨i,hi,rfl⟩:=List.getElem_of_mem ho
 have hok:=Zd0 h.fit h.ok (List.getElem?_eq_getElem hi)
 refine ⟨hok.gone,h.fit.way _ ho,hok.trip,fun hs=>?_⟩
 rcases hok.cases with ⟨c,_⟩ | ⟨_,c⟩ | ⟨c,_⟩
 ·omega
 ·exact c
 ·omega
theorem Zpd {k:Nat} {w:Ze} {u:Int} (h:ZcT w<0∨u<ZcT w):runV k w u=w:=by
 cases k with
 | zero=>rfl
 | succ k=>unfold runV; rw [if_pos h]
theorem ZwY {k:Nat} {w:Ze} {u:Int} (h:WOk w) (hk:Zf2 w≤k) (hu:u≤100000) (hc:¬ (ZcT w<0∨u<ZcT w)):runV k w u=runV (k-1) (Za6 w (ZcT w)) u:=by
 have:=Zf4 h (by omega)
 cases k with
 | zero=>omega
 | succ k=>
  rw [Nat.add_sub_cancel]
  conv=>lhs; unfold runV; rw [if_neg hc]
theorem Zsy {w:Ze} (h:WOk w):Zf2 w≤240:=by
 have hp:=h.parts
 have hv:=h.ok
 unfold Zcw at hv
 simp only [Bool.and_eq_true,decide_eq_true_iff] at hv
 have ht:=hv.2
 have key:∀ (l:List Zh) (a:Int),(∀ o∈l,o.way.length≤1048576)→l.length≤30→0≤a→a≤1048576*(30-l.length:Nat)→l.foldl (fun a o=>w64 (a+(o.way.length:Int))) a=a+((l.map fun o=>o.way.length).sum:Nat):=by
  intro l
  induction l with
  | nil=>intro a _ _ _ _; simp
  | cons o l ih=>
   intro a hl hn h0 h1
   have h2:=hl o List.mem_cons_self
   simp only [List.length_cons] at hn h1
   have hw:w64 (a+(o.way.length:Int))=a+(o.way.length:Int):=Zn (by omega)
   simp only [List.foldl_cons,hw]
   rw [ih _ (fun x hx=>hl x (List.mem_cons_of_mem _ hx)) (by omega) (by omega) (by omega)]
   simp only [List.map_cons,List.sum_cons]
   omega
 have hs:=key w.orders 0 h.fit.way hp.2.1 (by omega) (by omega)
 unfold ZkV at ht
 rw [hs] at ht
 have h2:Zf2 w≤2*((w.orders.map fun o=>o.way.length).sum):=by
  unfold Zf2
  have:∀ l:List Zh,(l.map Zd6).sum≤2*(l.map fun o=>o.way.length).sum:=by
   intro l
   induction l with
   | nil=>simp
   | cons o l ih=>
    have:Zd6 o≤2*o.way.length:=by unfold Zd6; omega
    simp only [List.map_cons,List.sum_cons]
    omega
  exact this _
 omega
theorem Zkp {u:Int} (hu:u≤100000):∀ (N k j:Nat) (w:Ze),WOk w→Zf2 w≤k→j+k=240→k<N→Zj (Zb9 u) N ((j:Int),owA w)=some (owA (runV k w u))
 | 0,k,j,w,_,_,_,hN=>by omega
 | N+1,k,j,w,h,hk,hj,hN=>by
  simp only [Zj]
  unfold Zb9
  simp only [owA]
  have hw:(⟨⟨w.network.legs,w.network.off,w.network.change⟩,w.orders,w.bookings,w.closed,w.now,w.scans,w.skip,w.made⟩:Ze)=w:=rfl
  by_cases hj2:j<240
  ·simp only [decide_eq_true (show (j:Int)<240 by omega),cond_true,hw,Zvx h,Option.bind_some]
   by_cases h0:ZcT w<0
   ·rw [Zpd (.inl h0)]
    simp only [decide_eq_true h0,cond_true]
    rfl
   ·by_cases h1:u<ZcT w
    ·rw [Zpd (.inr h1)]
     simp only [decide_eq_false h0,decide_eq_true h1,cond_true,cond_false]
     rfl
    ·obtain ⟨a,b,c⟩:=Zhj h (by omega)
     have ht:=Zf4 h (by omega)
     have hb:=(Zny h.pass (ZcT w)).2
     have hw1:w64 ((j:Int)+1)=((j+1:Nat):Int):=by rw [Zn (by omega)]; omega
     rw [ZwY h hk hu (by omega)]
     simp only [decide_eq_false h0,decide_eq_false h1,cond_false,rhoM,Option.bind_some,hb,hw1]
     exact Zkp hu N (k-1) (j+1) _ a (by omega) (by omega) (by omega)
  ·have hk0:k=0:=by omega
   subst hk0
   simp only [decide_eq_false (show ¬ (j:Int)<240 by omega),cond_false]
   rfl
theorem Zqn {w:Ze} (hf:WFit w) (u:Int):ZaB w u=some (if Zcw w=true∧w.now≤u∧u≤100000 then advV w u else w):=by
 unfold ZaB
 rw [Zh5 hf,Option.bind_some,Zev hf,Option.bind_some,Zac,Option.bind_some]
 cases hv:Zcw w with
 | false=>simp
 | true=>
  have h:WOk w:=⟨hf,hv⟩
  by_cases h1:w.now≤u
  ·by_cases h2:u≤100000
   ·have e:((0:Int),w.network.change,w.now,w.made,w.network.legs,w.network.off,w.orders,w.bookings,w.closed,w.scans,w.skip)=(((0:Nat):Int),owA w):=rfl
    simp only [Bool.not_true,cond_false,decide_eq_true h1,decide_eq_true h2,Bool.and_self,h1,h2,and_self,if_true,e,Zkp h2 NN 240 0 w h (Zsy h) rfl (by unfold NN; omega),Option.bind_some]
    rw [ZvZ h (Zsy h) (Nat.le_refl _) h2]
    rfl
   ·simp [h1,h2]
  ·simp [h1]
theorem Zgs (l:List ByteArray) (p:ByteArray):-1≤idxV l p∧idxV l p<l.length:=by
 unfold idxV
 cases h:l.findIdx? fun y=>decide (y=p) with
 | none=>simp; omega
 | some k=>
  have:=(List.findIdx?_eq_some_iff_getElem.1 h).1
  simp only [Option.elim]; omega
theorem ZfJ {l:List ByteArray} {p:ByteArray} (h:p∈l):0≤idxV l p:=by
 unfold idxV
 cases h':l.findIdx? fun y=>decide (y=p) with
 | none=>
  have:=List.findIdx?_eq_none_iff.1 h' p h
  simp at this
 | some k=>simp only [Option.elim]; omega
theorem Zgw {n:Za} {l:YLeg} (h:l∈n.legs):l.from_∈Zf n∧l.to_∈Zf n:=by
 obtain ⟨i,hi,rfl⟩:=List.getElem_of_mem h
 obtain ⟨a,b⟩:=Zmr hi
 unfold Zf
 exact ⟨Zgp.2 (.inl (List.mem_of_getElem? a)),Zgp.2 (.inl (List.mem_of_getElem? b))⟩
theorem ZcY {α:Type} {xs:List α} {i:Int} (h:0≤i∧i<xs.length):∃ x,getI xs i=some x∧x∈xs:=by
 have hlt:i.toNat<xs.length:=by omega
 exact ⟨xs[i.toNat],by unfold getI; rw [if_pos h.1]; exact List.getElem?_eq_getElem hlt,List.getElem_mem hlt⟩
section
variable {n:Za} (hf:ZbC n)
include hf
theorem plen:(Zf n).length≤2097152:=by have:=ZdM n; have:=hf.legs; omega
theorem ZiG (p:ByteArray):ZE (Zf n) p=some (idxV (Zf n) p):=ZfS (by have:=plen hf; omega) p
theorem Zuz (leg day:Int):∃ b,ZW n leg day=some b:=(Zhq hf leg day).2
theorem ZgV {l:List Zc} (hl:l.length≤1048576) {closed:List Zg} (hc:closed.length≤1048576) {leg:Int} {y:YLeg} (hy:getI n.legs leg=some y) (at_ weight:Int):Tot (Zda n l closed leg at_ weight) fun r=>True:=by
 unfold Zda
 have hl0:Tot (Zj (Zei n l closed leg at_ weight) NN 0) fun r=>True:=by
  refine Tot.loop (fun k s=>∃ i:Nat,s=(i:Int)∧i+k=61) (fun k s hs=>?_) NN 61 0 ⟨0,rfl,rfl⟩ (by unfold NN; omega)
  obtain ⟨i,rfl,hk⟩:=hs
  unfold Zei
  refine Tot.cond (fun hd=>?_) fun hd=>Tot.ret trivial
  have hi:=of_decide_eq_true hd
  have hw:w64 ((i:Int)+1)=((i+1:Nat):Int):=by rw [Zn (by omega)]; omega
  have go:∀ {σ:Type},Zgi (fun k (s:Int)=>∃ i:Nat,s=(i:Int)∧i+k=61) (fun r:Unit ⊕ Int=>True) k (Sum.inl (w64 ((i:Int)+1))):=⟨k-1,by omega,i+1,hw,by omega⟩
  obtain ⟨b,hb⟩:=Zuz hf leg (i:Int)
  obtain ⟨v,hv⟩:=Zes (n:=n) (t:=⟨leg,(i:Int)⟩) hy
  obtain ⟨q,hq⟩:=ZjB hl (⟨leg,(i:Int)⟩:Zg)
  rw [hb,Option.bind_some]
  refine Tot.cond (fun _=>?_) fun _=>Tot.ret (go (σ:=Unit))
  rw [hv,Option.bind_some]
  refine Tot.cond (fun _=>?_) fun _=>Tot.ret (go (σ:=Unit))
  rw [Zfp,Zgr hc,Option.bind_some]
  refine Tot.cond (fun _=>?_) fun _=>Tot.ret (go (σ:=Unit))
  rw [hy,Option.bind_some,hq,Option.bind_some]
  exact Tot.cond (fun _=>Tot.ret trivial) fun _=>Tot.ret (go (σ:=Unit))
 refine Tot.bind hl0 fun r _=>?_
 cases r with
 | inl u=>exact Tot.ret trivial
 | inr v=>exact Tot.ret trivial
theorem ZkE {leg:Int} {y:YLeg} (hy:getI n.legs leg=some y) (at_:Int):Tot (ZdW n leg at_) fun r=>True:=by
 unfold ZdW
 have hl0:Tot (Zj (Zeh n leg at_) NN 0) fun r=>True:=by
  refine Tot.loop (fun k s=>∃ i:Nat,s=(i:Int)∧i+k=61) (fun k s hs=>?_) NN 61 0 ⟨0,rfl,rfl⟩ (by unfold NN; omega)
  obtain ⟨i,rfl,hk⟩:=hs
  unfold Zeh
  refine Tot.cond (fun hd=>?_) fun hd=>Tot.ret trivial
  have hi:=of_decide_eq_true hd
  have hw:w64 ((i:Int)+1)=((i+1:Nat):Int):=by rw [Zn (by omega)]; omega
  have go:∀ {σ:Type},Zgi (fun k (s:Int)=>∃ i:Nat,s=(i:Int)∧i+k=61) (fun r:Unit ⊕ Int=>True) k (Sum.inl (w64 ((i:Int)+1))):=⟨k-1,by omega,i+1,hw,by omega⟩
  obtain ⟨b,hb⟩:=Zuz hf leg (i:Int)
  obtain ⟨v,hv⟩:=Zes (n:=n) (t:=⟨leg,(i:Int)⟩) hy
  rw [hb,Option.bind_some]
  refine Tot.cond (fun _=>?_) fun _=>Tot.ret (go (σ:=Unit))
  rw [hv,Option.bind_some]
  exact Tot.cond (fun _=>Tot.ret trivial) fun _=>Tot.ret (go (σ:=Unit))
 refine Tot.bind hl0 fun r _=>?_
 cases r with
 | inl u=>exact Tot.ret trivial
 | inr v=>exact Tot.ret trivial
omit hf in
theorem ZgF (a:Int) (b:Bool):Tot (ZbK n a b) fun r=>True:=by
 unfold ZbK
 exact Tot.cond (fun _=>Tot.ret trivial) fun _=>Tot.ret trivial
omit hf in
theorem ZnG (a b:Int):Tot (Zds a b) fun r=>True:=by
 unfold Zds
 exact Tot.cond (fun _=>Tot.ret trivial) fun _=>Tot.ret trivial
theorem Zr5 {l:List Zc} (hl:l.length≤1048576) {closed:List Zg} (hc:closed.length≤1048576) (weight:Int) {best:List Int} (hb:best.length=(Zf n).length) (f:Int):Tot (ZaU n l closed weight (Zf n) best f) fun r=>r.length=(Zf n).length:=by
 have hp:=plen hf
 have hll:=hf.legs
 unfold ZaU
 refine Tot.bind (P:=fun r=>r=best) ?_ fun r hr=>?_
 ·by_cases h1:best.length≤1048576
  ·exact Tot.of (Zjx h1) rfl
  ·unfold Zad
   exact Tot.chk (Zbh (by simp only [List.length_nil]; omega) (by omega)) (Tot.ret (by simp))
 ·subst hr
  refine Tot.bind (P:=fun o=>o.length=(Zf n).length) ?_ fun o ho=>Tot.ret ho
  refine Tot.loop (fun k s=>∃ i:Nat,s.1=(i:Int)∧i+k=n.legs.length∧s.2.length=(Zf n).length) (fun k s hs=>?_) NN n.legs.length _ ⟨0,rfl,by omega,hb⟩ (by unfold NN; omega)
  obtain ⟨i,hi,hk,hlen⟩:=hs
  unfold ZdY
  rw [hi]
  refine Tot.cond (fun hd=>?_) fun hd=>Tot.ret hlen
  have hlt:=of_decide_eq_true hd
  have hw:w64 ((i:Int)+1)=((i+1:Nat):Int):=by rw [Zn (by omega)]; omega
  obtain ⟨y,hy,hm⟩:=ZcY (xs:=n.legs) (i:=(i:Int)) ⟨by omega,hlt⟩
  obtain ⟨m1,m2⟩:=Zgw hm
  have a0:=ZfJ m1
  have a1:=(Zgs (Zf n) y.from_).2
  have b0:=ZfJ m2
  have b1:=(Zgs (Zf n) y.to_).2
  obtain ⟨v6,g6,_⟩:=ZcY (xs:=r) (i:=idxV (Zf n) y.from_) ⟨a0,by omega⟩
  obtain ⟨v11,g11,_⟩:=ZcY (xs:=s.2) (i:=idxV (Zf n) y.to_) ⟨b0,by omega⟩
  simp only [hy,Option.bind_some,ZiG hf,g6,hw]
  have go:∀ (s':List Int),s'.length=(Zf n).length→Zgi (fun k (s:Int × List Int)=>∃ i:Nat,s.1=(i:Int)∧i+k=n.legs.length∧s.2.length=(Zf n).length) (fun o:List Int=>o.length=(Zf n).length) k (Sum.inl (((i+1:Nat):Int),s')):=fun s' h'=>⟨k-1,by omega,i+1,rfl,by omega,h'⟩
  refine Tot.cond (fun _=>Tot.ret (go _ hlen)) fun _=>Tot.bind (ZgF _ _) fun y8 _=>Tot.bind (ZgV hf hl hc hy y8 weight) fun y9 _=>Tot.cond (fun _=>Tot.ret (go _ hlen)) fun _=>?_
  obtain ⟨e,he⟩:=Zd8 (n:=n) (t:=⟨(i:Int),y9⟩) hy
  simp only [he,Option.bind_some,g11]
  exact Tot.cond (fun _=>Tot.ret (go _ (by rw [List.length_set]; exact hlen))) fun _=>Tot.cond (fun _=>Tot.ret (go _ (by rw [List.length_set]; exact hlen))) fun _=>Tot.ret (go _ hlen)
theorem Zp2 {best:List Int} (hb:best.length=(Zf n).length) (f:Int):Tot (Zed n (Zf n) best f) fun r=>r.length=(Zf n).length:=by
 have hp:=plen hf
 have hll:=hf.legs
 unfold Zed
 refine Tot.bind (P:=fun r=>r=best) ?_ fun r hr=>?_
 ·by_cases h1:best.length≤1048576
  ·exact Tot.of (Zjx h1) rfl
  ·unfold Zad
   exact Tot.chk (Zbh (by simp only [List.length_nil]; omega) (by omega)) (Tot.ret (by simp))
 ·subst hr
  refine Tot.bind (P:=fun o=>o.length=(Zf n).length) ?_ fun o ho=>Tot.ret ho
  refine Tot.loop (fun k s=>∃ i:Nat,s.1=(i:Int)∧i+k=n.legs.length∧s.2.length=(Zf n).length) (fun k s hs=>?_) NN n.legs.length _ ⟨0,rfl,by omega,hb⟩ (by unfold NN; omega)
  obtain ⟨i,hi,hk,hlen⟩:=hs
  unfold ZeT
  rw [hi]
  refine Tot.cond (fun hd=>?_) fun hd=>Tot.ret hlen
  have hlt:=of_decide_eq_true hd
  have hw:w64 ((i:Int)+1)=((i+1:Nat):Int):=by rw [Zn (by omega)]; omega
  obtain ⟨y,hy,hm⟩:=ZcY (xs:=n.legs) (i:=(i:Int)) ⟨by omega,hlt⟩
  obtain ⟨m1,m2⟩:=Zgw hm
  have a0:=ZfJ m1
  have a1:=(Zgs (Zf n) y.from_).2
  have b0:=ZfJ m2
  have b1:=(Zgs (Zf n) y.to_).2
  obtain ⟨v6,g6,_⟩:=ZcY (xs:=r) (i:=idxV (Zf n) y.from_) ⟨a0,by omega⟩
  obtain ⟨v11,g11,_⟩:=ZcY (xs:=s.2) (i:=idxV (Zf n) y.to_) ⟨b0,by omega⟩
  simp only [hy,Option.bind_some,ZiG hf,g6,hw]
  have go:∀ (s':List Int),s'.length=(Zf n).length→Zgi (fun k (s:Int × List Int)=>∃ i:Nat,s.1=(i:Int)∧i+k=n.legs.length∧s.2.length=(Zf n).length) (fun o:List Int=>o.length=(Zf n).length) k (Sum.inl (((i+1:Nat):Int),s')):=fun s' h'=>⟨k-1,by omega,i+1,rfl,by omega,h'⟩
  refine Tot.cond (fun _=>Tot.ret (go _ hlen)) fun _=>Tot.bind (ZgF _ _) fun y8 _=>Tot.bind (ZkE hf hy y8) fun y9 _=>Tot.cond (fun _=>Tot.ret (go _ hlen)) fun _=>?_
  obtain ⟨e,he⟩:=Zd8 (n:=n) (t:=⟨(i:Int),y9⟩) hy
  simp only [he,Option.bind_some,g11]
  exact Tot.cond (fun _=>Tot.ret (go _ (by rw [List.length_set]; exact hlen))) fun _=>Tot.cond (fun _=>Tot.ret (go _ (by rw [List.length_set]; exact hlen))) fun _=>Tot.ret (go _ hlen)
theorem ZhE (f at_:Int):Tot (Zcu (Zf n) f at_) fun r=>r.length=(Zf n).length:=by
 have hp:=plen hf
 unfold Zcu
 refine Tot.bind (P:=fun o=>o.length=(Zf n).length) ?_ fun o ho=>Tot.ret ho
 refine Tot.loop (fun k s=>∃ i:Nat,s.1=(i:Int)∧i+k=(Zf n).length∧s.2.length=i) (fun k s hs=>?_) NN (Zf n).length _ ⟨0,rfl,by omega,rfl⟩ (by unfold NN; omega)
 obtain ⟨i,hi,hk,hlen⟩:=hs
 unfold ZeS
 rw [hi]
 refine Tot.cond (fun hd=>?_) fun hd=>Tot.ret (by have:=of_decide_eq_false hd; simp only [Zgi]; omega)
 have hlt:=of_decide_eq_true hd
 have hw:w64 ((i:Int)+1)=((i+1:Nat):Int):=by rw [Zn (by omega)]; omega
 rw [hw]
 have go:∀ (x:Int),Zgi (fun k (s:Int × List Int)=>∃ i:Nat,s.1=(i:Int)∧i+k=(Zf n).length∧s.2.length=i) (fun o:List Int=>o.length=(Zf n).length) k (Sum.inl (((i+1:Nat):Int),s.2++[x])):=fun x=>⟨k-1,by omega,i+1,rfl,by omega,by simp [hlen]⟩
 refine Tot.cond (fun _=>Tot.bind (ZnG _ _) fun y _=>Tot.chk (Zbh (by simp only [List.length_cons,List.length_nil]; omega) (by omega)) (Tot.ret (go y))) fun _=>Tot.chk (Zbh (by simp only [List.length_cons,List.length_nil]; omega) (by omega)) (Tot.ret (go _))
theorem Zs5 {l:List Zc} (hl:l.length≤1048576) {closed:List Zg} (hc:closed.length≤1048576) (from_:ByteArray) (at_ weight legs:Int):
 Tot (ZaH n l closed from_ at_ weight legs) fun r=>(r.length=(Zf n).length∧(Zet n l=true∧0≤idxV (Zf n) from_∧at_≤100000∧1≤weight∧0≤legs))∨(r=[]∧¬ (Zet n l=true∧0≤idxV (Zf n) from_∧at_≤100000∧1≤weight∧0≤legs)):=by
 have hp:=plen hf
 unfold ZaH
 rw [(ZdN hf).2]
 simp only [Option.bind_some,ZiG hf,ZeV hf hl]
 refine Tot.cond (fun h1=>Tot.ret (.inr ⟨rfl,fun h=>by simp [h.1] at h1⟩)) fun h1=>Tot.cond (fun h2=>Tot.ret (.inr ⟨rfl,fun h=>by have:=of_decide_eq_true h2; omega⟩)) fun h2=>Tot.cond (fun h3=>Tot.ret (.inr ⟨rfl,fun h=>by have:=of_decide_eq_true h3; omega⟩)) fun h3=>Tot.cond (fun h4=>Tot.ret (.inr ⟨rfl,fun h=>by have:=of_decide_eq_true h4; omega⟩)) fun h4=>Tot.cond (fun h5=>Tot.ret (.inr ⟨rfl,fun h=>by have:=of_decide_eq_true h5; omega⟩)) fun h5=>Tot.bind (ZhE hf _ _) fun y hy=>?_
 have hbk:Zet n l=true:=by simpa using h1
 have:=of_decide_eq_false h2
 have:=of_decide_eq_false h3
 have:=of_decide_eq_false h4
 have:=of_decide_eq_false h5
 refine Tot.bind (P:=fun o=>o.length=(Zf n).length) ?_ fun o ho=>Tot.ret (.inl ⟨ho,hbk,by omega,by omega,by omega,by omega⟩)
 refine Tot.loop (fun k s=>∃ i:Nat,s.1=(i:Int)∧i+k=(Zf n).length∧s.2.length=(Zf n).length) (fun k s hs=>?_) NN (Zf n).length _ ⟨0,rfl,by omega,hy⟩ (by unfold NN; omega)
 obtain ⟨i,hi,hk,hlen⟩:=hs
 unfold ZaX
 rw [hi]
 refine Tot.cond (fun _=>Tot.cond (fun hd=>?_) fun _=>Tot.ret hlen) fun _=>Tot.ret hlen
 have hlt:=of_decide_eq_true hd
 have hw:w64 ((i:Int)+1)=((i+1:Nat):Int):=by rw [Zn (by omega)]; omega
 exact Tot.bind (Zr5 hf hl hc weight hlen _) fun y5 h5=>Tot.ret ⟨k-1,by omega,i+1,hw,by omega,h5⟩
theorem ZlS (from_:ByteArray) (at_ legs:Int):Tot (ZbW n from_ at_ legs) fun r=>r.length=(Zf n).length∨r=[]:=by
 have hp:=plen hf
 obtain ⟨_,b,hb⟩:=Zeu hf
 unfold ZbW
 rw [(ZdN hf).2]
 simp only [Option.bind_some,ZiG hf,hb]
 refine Tot.cond (fun _=>Tot.ret (.inr rfl)) fun _=>Tot.cond (fun _=>Tot.ret (.inr rfl)) fun _=>Tot.cond (fun _=>Tot.ret (.inr rfl)) fun _=>Tot.cond (fun _=>Tot.ret (.inr rfl)) fun _=>Tot.bind (ZhE hf _ _) fun y hy=>?_
 refine Tot.bind (P:=fun o=>o.length=(Zf n).length) ?_ fun o ho=>Tot.ret (.inl ho)
 refine Tot.loop (fun k s=>∃ i:Nat,s.1=(i:Int)∧i+k=(Zf n).length∧s.2.length=(Zf n).length) (fun k s hs=>?_) NN (Zf n).length _ ⟨0,rfl,by omega,hy⟩ (by unfold NN; omega)
 obtain ⟨i,hi,hk,hlen⟩:=hs
 unfold Zdt
 rw [hi]
 refine Tot.cond (fun _=>Tot.cond (fun hd=>?_) fun _=>Tot.ret hlen) fun _=>Tot.ret hlen
 have hlt:=of_decide_eq_true hd
 have hw:w64 ((i:Int)+1)=((i+1:Nat):Int):=by rw [Zn (by omega)]; omega
 exact Tot.bind (Zp2 hf hlen _) fun y5 h5=>Tot.ret ⟨k-1,by omega,i+1,hw,by omega,h5⟩
theorem ZnW (service:Int) (from_ to_:ByteArray) (at_:Int):Tot (Zdl n service from_ to_ at_) fun r=>True:=by
 unfold Zdl ZdS
 rw [(ZdN hf).2]
 simp only [Option.bind_some,ZiG hf]
 refine Tot.bind (P:=fun _=>True) (Tot.bind (ZlS hf _ _ _) fun r hr=>Tot.cond (fun _=>Tot.ret trivial) fun h1=>Tot.cond (fun _=>Tot.ret trivial) fun h2=>?_) fun y _=>?_
 ·have h1':=of_decide_eq_false h1
  have h2':=of_decide_eq_false h2
  have hlt:=(Zgs (Zf n) to_).2
  rcases hr with hr | hr
  ·obtain ⟨x,hx,_⟩:=ZcY (xs:=r) (i:=idxV (Zf n) to_) ⟨by omega,by omega⟩
   rw [hx]; exact Tot.ret trivial
  ·subst hr; simp at h2'
 ·rw [Zac]
  simp only [Option.bind_some]
  exact Tot.cond (fun _=>Tot.ret trivial) fun _=>Tot.cond (fun _=>Tot.ret trivial) fun _=>Tot.cond (fun _=>Tot.ret trivial) fun _=>Tot.ret trivial
theorem ZtT {l:List Zc} (hl:l.length≤1048576) {closed:List Zg} (hc:closed.length≤1048576) (weight:Int) {before:List Int} (hb:before.length=(Zf n).length) (f:Int) {x:Int} (hx:0≤x∧x<(Zf n).length) (e:Int) (hn0:0<n.legs.length):
 Tot (Zdb n l closed weight (Zf n) before f x e) fun t=>∃ y,getI n.legs t.leg=some y∧y∈n.legs:=by
 have hp:=plen hf
 have hll:=hf.legs
 unfold Zdb
 have hl0:Tot (Zj (Zb4 n l closed weight (Zf n) before f x e) NN 0) fun r=>∀ t,r=.inr t→∃ y,getI n.legs t.leg=some y∧y∈n.legs:=by
  refine Tot.loop (fun k s=>∃ i:Nat,s=(i:Int)∧i+k=n.legs.length) (fun k s hs=>?_) NN n.legs.length 0 ⟨0,rfl,by omega⟩ (by unfold NN; omega)
  obtain ⟨i,rfl,hk⟩:=hs
  unfold Zb4
  refine Tot.cond (fun hd=>?_) fun hd=>Tot.ret (fun t h=>by cases h)
  have hlt:=of_decide_eq_true hd
  have hw:w64 ((i:Int)+1)=((i+1:Nat):Int):=by rw [Zn (by omega)]; omega
  obtain ⟨y,hy,hm⟩:=ZcY (xs:=n.legs) (i:=(i:Int)) ⟨by omega,hlt⟩
  obtain ⟨m1,m2⟩:=Zgw hm
  have a0:=ZfJ m1
  have a1:=(Zgs (Zf n) y.from_).2
  obtain ⟨v6,g6,_⟩:=ZcY (xs:=before) (i:=idxV (Zf n) y.from_) ⟨a0,by omega⟩
  obtain ⟨p,gp,_⟩:=ZcY (xs:=Zf n) (i:=x) hx
  have go:Zgi (fun k (s:Int)=>∃ i:Nat,s=(i:Int)∧i+k=n.legs.length) (fun r:Unit ⊕ Zg=>∀ t,r=.inr t→∃ y,getI n.legs t.leg=some y∧y∈n.legs) k (Sum.inl (w64 ((i:Int)+1))):=⟨k-1,by omega,i+1,hw,by omega⟩
  simp only [hy,Option.bind_some,ZiG hf,gp,g6]
  refine Tot.cond (fun _=>Tot.ret go) fun _=>Tot.cond (fun _=>Tot.ret go) fun _=>Tot.bind (ZgF _ _) fun y7 _=>Tot.bind (ZgV hf hl hc hy y7 weight) fun y8 _=>Tot.cond (fun _=>?_) fun _=>Tot.ret go
  obtain ⟨v,hv⟩:=Zd8 (n:=n) (t:=⟨(i:Int),y8⟩) hy
  rw [hv,Option.bind_some]
  exact Tot.cond (fun _=>Tot.ret (fun t h=>by cases h; exact ⟨y,hy,hm⟩)) fun _=>Tot.ret go
 refine Tot.bind hl0 fun r hr=>?_
 cases r with
 | inl u=>
  obtain ⟨y,hy,hm⟩:=ZcY (xs:=n.legs) (i:=0) ⟨by omega,by omega⟩
  exact Tot.ret ⟨y,hy,hm⟩
 | inr t=>exact Tot.ret (hr t rfl)
theorem Zps {l:List Zc} (hb:Zet n l=true) {b:Zc} (h:b∈l):Ze6 n b.trip=true:=by
 obtain ⟨i,hi,rfl⟩:=List.getElem_of_mem h
 have:=(ZsV hb hi).1
 unfold bk1 at this
 rw [List.getElem?_eq_getElem hi] at this
 simp only [Bool.and_eq_true] at this
 exact this.1.1.1
theorem ZoF {l:List Zc} (hl:l.length≤1048576) (thing at_:Int):Tot (ZcK n l thing at_) fun r=>r.length≤l.length:=by
 unfold ZcK
 rw [ZeV hf hl,Option.bind_some]
 refine Tot.bind (P:=fun o:List Zc=>o.length≤l.length) ?_ fun o ho=>Tot.ret ho
 refine Tot.loop (fun k s=>∃ i:Nat,s.1=(i:Int)∧i+k=l.length∧s.2.length≤i) (fun k s hs=>?_) NN l.length _ ⟨0,rfl,by omega,by simp⟩ (by unfold NN; omega)
 obtain ⟨i,hi,hk,hlen⟩:=hs
 unfold ZeD
 rw [hi]
 refine Tot.cond (fun hd=>?_) fun hd=>Tot.ret (by simp only [Zgi]; omega)
 have hlt:=of_decide_eq_true hd
 have hw:w64 ((i:Int)+1)=((i+1:Nat):Int):=by rw [Zn (by omega)]; omega
 obtain ⟨y,hy,hm⟩:=ZcY (xs:=l) (i:=(i:Int)) ⟨by omega,hlt⟩
 simp only [hy,Option.bind_some,hw]
 have go:∀ s':List Zc,s'.length≤i+1→Zgi (fun k (s:Int × List Zc)=>∃ i:Nat,s.1=(i:Int)∧i+k=l.length∧s.2.length≤i) (fun o:List Zc=>o.length≤l.length) k (Sum.inl (((i+1:Nat):Int),s')):=fun s' h'=>⟨k-1,by omega,i+1,rfl,by omega,h'⟩
 have add:Tot ((Go.Proofs.YtkfbakhnpfmfmaaGreatDoor.chk (Z9 (s.2.length+[y].length) 32)).bind fun _=>some (Sum.inl (((i+1:Nat):Int),s.2++[y]):(Int × List Zc) ⊕ List Zc)) (Zgi (fun k (s:Int × List Zc)=>∃ i:Nat,s.1=(i:Int)∧i+k=l.length∧s.2.length≤i) (fun o:List Zc=>o.length≤l.length) k):=
  Tot.chk (Zbh (by simp only [List.length_cons,List.length_nil]; omega) (by omega)) (Tot.ret (go _ (by simp; omega)))
 refine Tot.cond (fun _=>add) fun hb=>Tot.cond (fun _=>add) fun _=>?_
 have hbk:Zet n l=true:=by simpa using hb
 obtain ⟨z,hz,_⟩:=Zdp hf (Zps hf hbk hm)
 obtain ⟨v,hv⟩:=Zes (n:=n) (t:=y.trip) hz
 rw [hv,Option.bind_some]
 exact Tot.cond (fun _=>add) fun _=>Tot.ret (go _ (by omega))
omit hf in
theorem ZuI {l:List Zc} (hl:l.length≤1048575) (b:Zc):Tot (Ze4 l b) fun r=>r.length=l.length+1:=by
 unfold Ze4
 refine Tot.bind (P:=fun o:Int=>0≤o∧o≤l.length) ?_ fun o ho=>?_
 ·refine Tot.loop (fun k s=>∃ i:Nat,s=(i:Int)∧i+k=l.length) (fun k s hs=>?_) NN l.length 0 ⟨0,rfl,by omega⟩ (by unfold NN; omega)
  obtain ⟨i,rfl,hk⟩:=hs
  unfold Zfw
  refine Tot.cond (fun hd=>?_) fun hd=>Tot.ret (by simp only [Zgi]; omega)
  have hlt:=of_decide_eq_true hd
  have hw:w64 ((i:Int)+1)=((i+1:Nat):Int):=by rw [Zn (by omega)]; omega
  obtain ⟨y,hy,hm⟩:=ZcY (xs:=l) (i:=(i:Int)) ⟨by omega,hlt⟩
  rw [hy,Option.bind_some,Zof,Option.bind_some]
  exact Tot.cond (fun _=>Tot.ret ⟨k-1,by omega,i+1,hw,by omega⟩) fun _=>Tot.ret (by simp only [Zgi]; omega)
 ·have l1:(subL l 0 o).length=o.toNat:=by unfold subL; simp; omega
  have l2:(subL l o (l.length:Int)).length=l.length-o.toNat:=by unfold subL; simp
  refine Tot.chk (by unfold slOk; exact decide_eq_true (by omega)) ?_
  rw [Zh4 (by omega),Option.bind_some]
  refine Tot.chk (Zbh (by simp only [List.length_cons,List.length_nil]; omega) (by omega)) (Tot.chk (by unfold slOk; exact decide_eq_true (by omega)) (Tot.chk (Zbh (by simp only [List.length_append,List.length_cons,List.length_nil]; omega) (by omega)) (Tot.ret ?_)))
  simp only [List.length_append,List.length_cons,List.length_nil]
  omega
theorem Zoi {l:List Zc} (hl:l.length≤1048000) (thing weight:Int) (way:List Zg):Tot (ZbI n l thing weight way) fun r=>r.1.length≤l.length+20∧(r.2=true→r.1.length≤120):=by
 unfold ZbI
 rw [Zh4 (by omega),Option.bind_some,ZeV hf (by omega),Option.bind_some]
 refine Tot.cond (fun _=>Tot.ret ⟨by simp only; omega,fun h=>by cases h⟩) fun _=>Tot.cond (fun _=>Tot.ret ⟨by simp only; omega,fun h=>by cases h⟩) fun hd=>?_
 have hle:=of_decide_eq_false hd
 refine Tot.bind (P:=fun o:List Zc=>o.length≤l.length+20) ?_ fun o ho=>?_
 ·refine Tot.loop (fun k s=>∃ i:Nat,s.1=(i:Int)∧i+k=way.length∧s.2.length=l.length+i) (fun k s hs=>?_) NN way.length _ ⟨0,rfl,by omega,rfl⟩ (by unfold NN; omega)
  obtain ⟨i,hi,hk,hlen⟩:=hs
  unfold ZeR
  rw [hi]
  refine Tot.cond (fun hd=>?_) fun hd=>Tot.ret (by simp only [Zgi]; omega)
  have hlt:=of_decide_eq_true hd
  have hw:w64 ((i:Int)+1)=((i+1:Nat):Int):=by rw [Zn (by omega)]; omega
  obtain ⟨y,hy,hm⟩:=ZcY (xs:=way) (i:=(i:Int)) ⟨by omega,hlt⟩
  rw [hy,Option.bind_some,hw]
  exact Tot.bind (ZuI (by omega) _) fun r hr=>Tot.ret ⟨k-1,by omega,i+1,rfl,by omega,by simp only; omega⟩
 ·rw [ZeV hf (by omega),Option.bind_some]
  refine Tot.cond (fun _=>Tot.ret ⟨by simp only; omega,fun h=>by cases h⟩) fun hb=>Tot.ret ⟨ho,fun _=>(Zjc (n:=n) (l:=o) (by simpa using hb)).2⟩
end
theorem Zq6 {l:List ByteArray} {p:ByteArray} (h:0≤idxV l p):getI l (idxV l p)=some p:=by
 unfold idxV at h ⊢
 cases h':l.findIdx? fun y=>decide (y=p) with
 | none=>rw [h'] at h; simp at h
 | some k=>
  obtain ⟨h1,h2,_⟩:=List.findIdx?_eq_some_iff_getElem.1 h'
  have h2:=of_decide_eq_true h2
  simp only [Option.elim]
  rw [Zx,List.getElem?_eq_getElem h1,h2]
theorem Zta {α:Type} {xs:List α} {i j:Int} {v x:α} (hi:0≤i) (h:getI (xs.set (Int.toNat i) v) j=some x):(j=i∧x=v)∨getI xs j=some x:=by
 obtain ⟨h0,h1⟩:=Zgq h
 by_cases he:j=i
 ·subst he
  rw [List.getElem?_set_self'] at h1
  cases hx:xs[j.toNat]? with
  | none=>rw [hx] at h1; simp at h1
  | some y=>rw [hx] at h1; simp at h1; exact .inl ⟨rfl,h1.symm⟩
 ·refine .inr ?_
  rw [List.getElem?_set_ne (by omega)] at h1
  unfold getI; rw [if_pos h0]; exact h1
def Cand (n:Za) (l:List Zc) (closed:List Zg) (weight f:Int) (r:List Int) (x v:Int):Prop:=
 ∃ (i:Nat) (y:YLeg) (d u z:Int),n.legs[i]?=some y∧idxV (Zf n) y.to_=x∧getI r (idxV (Zf n) y.from_)=some u∧¬ u<0∧ZbK n u (decide (idxV (Zf n) y.from_=f))=some z∧Zda n l closed (i:Int) z weight=some d∧¬ d<0∧Zv n ⟨(i:Int),d⟩=some v
section
variable {n:Za} (hf:ZbC n)
include hf
theorem ZkN {l:List Zc} (hl:l.length≤1048576) {closed:List Zg} (hc:closed.length≤1048576) (weight:Int) {best:List Int} (hb:best.length=(Zf n).length) (f:Int):Tot (ZaU n l closed weight (Zf n) best f) fun r=>r.length=(Zf n).length∧∀ x v,getI r x=some v→getI best x=some v∨Cand n l closed weight f best x v:=by
 have hp:=plen hf
 have hll:=hf.legs
 unfold ZaU
 refine Tot.bind (P:=fun r=>r=best) ?_ fun r hr=>?_
 ·by_cases h1:best.length≤1048576
  ·exact Tot.of (Zjx h1) rfl
  ·unfold Zad
   exact Tot.chk (Zbh (by simp only [List.length_nil]; omega) (by omega)) (Tot.ret (by simp))
 ·subst hr
  refine Tot.bind (P:=fun o=>o.length=(Zf n).length∧∀ x v,getI o x=some v→getI r x=some v∨Cand n l closed weight f r x v) ?_ fun o ho=>Tot.ret ho
  refine Tot.loop (fun (k:Nat) (s:Int × List Int)=>∃ i:Nat,s.1=(i:Int)∧i+k=n.legs.length∧s.2.length=(Zf n).length∧∀ x v,getI s.2 x=some v→getI r x=some v∨Cand n l closed weight f r x v) (fun k s hs=>?_) NN n.legs.length _ ⟨0,rfl,by omega,hb,fun x v h=>.inl h⟩ (by unfold NN; omega)
  obtain ⟨i,hi,hk,hlen,hcd⟩:=hs
  unfold ZdY
  rw [hi]
  refine Tot.cond (fun hd=>?_) fun hd=>Tot.ret ⟨hlen,hcd⟩
  have hlt:=of_decide_eq_true hd
  have hw:w64 ((i:Int)+1)=((i+1:Nat):Int):=by rw [Zn (by omega)]; omega
  obtain ⟨y,hy,hm⟩:=ZcY (xs:=n.legs) (i:=(i:Int)) ⟨by omega,hlt⟩
  obtain ⟨m1,m2⟩:=Zgw hm
  have a0:=ZfJ m1
  have a1:=(Zgs (Zf n) y.from_).2
  have b0:=ZfJ m2
  have b1:=(Zgs (Zf n) y.to_).2
  obtain ⟨v6,g6,_⟩:=ZcY (xs:=r) (i:=idxV (Zf n) y.from_) ⟨a0,by omega⟩
  obtain ⟨v11,g11,_⟩:=ZcY (xs:=s.2) (i:=idxV (Zf n) y.to_) ⟨b0,by omega⟩
  simp only [hy,Option.bind_some,ZiG hf,g6,hw]
  have go:∀ (s':List Int),s'.length=(Zf n).length→(∀ x v,getI s' x=some v→getI r x=some v∨Cand n l closed weight f r x v)→Zgi (fun (k:Nat) (s:Int × List Int)=>∃ i:Nat,s.1=(i:Int)∧i+k=n.legs.length∧s.2.length=(Zf n).length∧∀ x v,getI s.2 x=some v→getI r x=some v∨Cand n l closed weight f r x v) (fun o:List Int=>o.length=(Zf n).length∧∀ x v,getI o x=some v→getI r x=some v∨Cand n l closed weight f r x v) k (Sum.inl (((i+1:Nat):Int),s')):=fun s' h' h''=>⟨k-1,by omega,i+1,rfl,by omega,h',h''⟩
  refine Tot.cond (fun _=>Tot.ret (go _ hlen hcd)) fun hu=>?_
  obtain ⟨z,ez,_⟩:=ZgF (n:=n) v6 (decide (idxV (Zf n) y.from_=f))
  obtain ⟨d,ed,_⟩:=ZgV hf hl hc hy z weight
  rw [ez,Option.bind_some,ed,Option.bind_some]
  refine Tot.cond (fun _=>Tot.ret (go _ hlen hcd)) fun hdn=>?_
  obtain ⟨e,he⟩:=Zd8 (n:=n) (t:=⟨(i:Int),d⟩) hy
  simp only [he,Option.bind_some,g11]
  have hyi:n.legs[i]?=some y:=by rw [Zx] at hy; exact hy
  have new:∀ x v,getI (s.2.set (Int.toNat (idxV (Zf n) y.to_)) e) x=some v→getI r x=some v∨Cand n l closed weight f r x v:=fun x v h=>by
   rcases Zta b0 h with ⟨rfl,rfl⟩ | h
   ·exact .inr ⟨i,y,d,v6,z,hyi,rfl,g6,of_decide_eq_false hu,ez,ed,of_decide_eq_false hdn,he⟩
   ·exact hcd x v h
  exact Tot.cond (fun _=>Tot.ret (go _ (by rw [List.length_set]; exact hlen) new)) fun _=>Tot.cond (fun _=>Tot.ret (go _ (by rw [List.length_set]; exact hlen) new)) fun _=>Tot.ret (go _ hlen hcd)
theorem Zva {l:List Zc} (hl:l.length≤1048576) {closed:List Zg} (hc:closed.length≤1048576) (weight:Int) {before:List Int} (hb:before.length=(Zf n).length) (f:Int) {x:Int} (hx:0≤x∧x<(Zf n).length) {e:Int} (hcd:Cand n l closed weight f before x e):
 Tot (Zdb n l closed weight (Zf n) before f x e) fun t=>∃ y,getI n.legs t.leg=some y∧getI (Zf n) x=some y.to_:=by
 have hp:=plen hf
 have hll:=hf.legs
 obtain ⟨i0,y0,d0,u0,z0,c1,c2,c3,c4,c5,c6,c7,c8⟩:=hcd
 have hi0:=(List.getElem?_eq_some_iff.1 c1).1
 unfold Zdb
 have hl0:Tot (Zj (Zb4 n l closed weight (Zf n) before f x e) NN 0) fun r=>∃ t y,r=.inr t∧getI n.legs t.leg=some y∧getI (Zf n) x=some y.to_:=by
  refine Tot.loop (fun (k:Nat) (s:Int)=>∃ i:Nat,s=(i:Int)∧i+k=n.legs.length∧i≤i0) (fun k s hs=>?_) NN n.legs.length 0 ⟨0,rfl,by omega,by omega⟩ (by unfold NN; omega)
  obtain ⟨i,rfl,hk,hi⟩:=hs
  unfold Zb4
  refine Tot.cond (fun hd=>?_) fun hd=>by have:=of_decide_eq_false hd; omega
  have hlt:=of_decide_eq_true hd
  have hw:w64 ((i:Int)+1)=((i+1:Nat):Int):=by rw [Zn (by omega)]; omega
  by_cases hii:i=i0
  ·subst hii
   have hy:getI n.legs (i:Int)=some y0:=by rw [Zx]; exact c1
   obtain ⟨m1,m2⟩:=Zgw (List.mem_of_getElem? c1)
   have gp:getI (Zf n) x=some y0.to_:=by rw [← c2]; exact Zq6 (ZfJ m2)
   simp only [hy,Option.bind_some,ZiG hf,gp,c3,decide_true,Bool.not_true,cond_false,decide_eq_false c4,c5,c6,decide_eq_true (show 0≤d0 by omega),cond_true,c8]
   exact Tot.ret ⟨_,y0,rfl,hy,rfl⟩
  ·obtain ⟨y,hy,hm⟩:=ZcY (xs:=n.legs) (i:=(i:Int)) ⟨by omega,hlt⟩
   obtain ⟨m1,m2⟩:=Zgw hm
   have a0:=ZfJ m1
   have a1:=(Zgs (Zf n) y.from_).2
   obtain ⟨v6,g6,_⟩:=ZcY (xs:=before) (i:=idxV (Zf n) y.from_) ⟨a0,by omega⟩
   obtain ⟨p,gp,_⟩:=ZcY (xs:=Zf n) (i:=x) hx
   have go:Zgi (fun (k:Nat) (s:Int)=>∃ i:Nat,s=(i:Int)∧i+k=n.legs.length∧i≤i0) (fun r:Unit ⊕ Zg=>∃ t y,r=.inr t∧getI n.legs t.leg=some y∧getI (Zf n) x=some y.to_) k (Sum.inl (w64 ((i:Int)+1))):=⟨k-1,by omega,i+1,hw,by omega,by omega⟩
   simp only [hy,Option.bind_some,ZiG hf,gp,g6]
   refine Tot.cond (fun _=>Tot.ret go) fun hto=>Tot.cond (fun _=>Tot.ret go) fun _=>Tot.bind (ZgF _ _) fun y7 _=>Tot.bind (ZgV hf hl hc hy y7 weight) fun y8 _=>Tot.cond (fun _=>?_) fun _=>Tot.ret go
   obtain ⟨v,hv⟩:=Zd8 (n:=n) (t:=⟨(i:Int),y8⟩) hy
   rw [hv,Option.bind_some]
   have hto':y.to_=p:=by simpa using hto
   exact Tot.cond (fun _=>Tot.ret ⟨_,y,rfl,hy,by rw [hto']⟩) fun _=>Tot.ret go
 refine Tot.bind hl0 fun r hr=>?_
 obtain ⟨t,y,rfl,h1,h2⟩:=hr
 exact Tot.ret ⟨y,h1,h2⟩
end
def Zux (n:Za) (l:List Zc) (closed:List Zg) (weight f:Int) (r:List Int):List Int:=(ZaU n l closed weight (Zf n) r f).getD []
def ZeZ (n:Za) (l:List Zc) (closed:List Zg) (weight f at_:Int):Nat→List Int
 | 0=>(Zcu (Zf n) f at_).getD []
 | k+1=>Zux n l closed weight f (ZeZ n l closed weight f at_ k)
section
variable {n:Za} (hf:ZbC n) {l:List Zc} (hl:l.length≤1048576) {closed:List Zg} (hc:closed.length≤1048576) (weight f at_:Int)
include hf hl hc
theorem ZkZ:∀ k,(ZeZ n l closed weight f at_ k).length=(Zf n).length
 | 0=>by
  obtain ⟨r,e,h⟩:=ZhE hf f at_
  unfold ZeZ; rw [e]; exact h
 | k+1=>by
  obtain ⟨r,e,h,_⟩:=ZkN hf hl hc weight (ZkZ k) f
  unfold ZeZ Zux; rw [e]; exact h
theorem ZlW (k:Nat):ZaU n l closed weight (Zf n) (ZeZ n l closed weight f at_ k) f=some (ZeZ n l closed weight f at_ (k+1))∧∀ x v,getI (ZeZ n l closed weight f at_ (k+1)) x=some v→getI (ZeZ n l closed weight f at_ k) x=some v∨Cand n l closed weight f (ZeZ n l closed weight f at_ k) x v:=by
 obtain ⟨r,e,h,h'⟩:=ZkN hf hl hc weight (ZkZ hf hl hc weight f at_ k) f
 have:ZeZ n l closed weight f at_ (k+1)=r:=by show (ZaU n l closed weight (Zf n) (ZeZ n l closed weight f at_ k) f).getD []=r; rw [e]; rfl
 rw [this]
 exact ⟨e,h'⟩
theorem ZqZ {from_:ByteArray} (hC:Zet n l=true∧0≤idxV (Zf n) from_∧at_≤100000∧1≤weight) {k:Nat} (hk:k≤(Zf n).length):ZaH n l closed from_ at_ weight (k:Int)=some (ZeZ n l closed weight (idxV (Zf n) from_) at_ k):=by
 have hp:=plen hf
 obtain ⟨r0,e0,_⟩:=ZhE hf (idxV (Zf n) from_) at_
 have h0:ZeZ n l closed weight (idxV (Zf n) from_) at_ 0=r0:=by unfold ZeZ; rw [e0]; rfl
 unfold ZaH
 rw [(ZdN hf).2]
 simp only [Option.bind_some,ZiG hf,ZeV hf hl,hC.1,Bool.not_true,cond_false,decide_eq_false (show ¬ idxV (Zf n) from_<0 by omega),decide_eq_false (show ¬ 100000<at_ by omega),decide_eq_false (show ¬ weight<1 by omega),decide_eq_false (show ¬ (k:Int)<0 by omega),e0]
 have e:Zj (ZaX n l closed weight (k:Int) (Zf n) (idxV (Zf n) from_)) NN (0,ZeZ n l closed weight (idxV (Zf n) from_) at_ 0)=some (ZeZ n l closed weight (idxV (Zf n) from_) at_ k):=by
  refine ZoU (body:=ZaX n l closed weight (k:Int) (Zf n) (idxV (Zf n) from_)) (fun i:Nat=>((i:Int),ZeZ n l closed weight (idxV (Zf n) from_) at_ i)) (n:=k) (o:=ZeZ n l closed weight (idxV (Zf n) from_) at_ k) (fun i hi=>?_) ?_ NN (by unfold NN; omega)
  ·unfold ZaX
   rw [decide_eq_true (show (i:Int)<(k:Int) by omega),decide_eq_true (show (i:Int)<((Zf n).length:Int) by omega),cond_true,cond_true,(ZlW hf hl hc weight _ at_ i).1,Option.bind_some,Zn (by omega)]
   rfl
  ·unfold ZaX
   simp
 rw [← h0,e]; rfl
end
section
variable {n:Za} (hf:ZbC n)
include hf
theorem ZmV {l:List Zc} (hl:l.length≤1048576) {closed:List Zg} (hc:closed.length≤1048576) (from_ to_:ByteArray) (at_ weight:Int):
 Tot (Zbn n l closed from_ to_ at_ weight) fun r=>r.1.length≤(Zf n).length∧∀ t,r.1.getLast?=some t→ZcC n t=to_:=by
 have hp:=plen hf
 unfold Zbn
 rw [(ZdN hf).2]
 simp only [Option.bind_some,ZiG hf]
 obtain ⟨y4,e4,h4⟩:=Zs5 hf hl hc from_ at_ weight ((Zf n).length:Int)
 rw [e4,Option.bind_some]
 refine Tot.cond (fun _=>Tot.ret ⟨by simp,fun t h=>by simp at h⟩) fun h1=>Tot.cond (fun _=>Tot.ret ⟨by simp,fun t h=>by simp at h⟩) fun h2=>?_
 have h1':=of_decide_eq_false h1
 have h2':=of_decide_eq_false h2
 have hlt:=(Zgs (Zf n) to_).2
 rcases h4 with ⟨hlen,hC⟩ | ⟨h4,_⟩
 ·have hC4:Zet n l=true∧0≤idxV (Zf n) from_∧at_≤100000∧1≤weight:=⟨hC.1,hC.2.1,hC.2.2.1,hC.2.2.2.1⟩
  have hfb:∀ k:Nat,k≤(Zf n).length→ZaH n l closed from_ at_ weight (k:Int)=some (ZeZ n l closed weight (idxV (Zf n) from_) at_ k):=fun k hk=>ZqZ hf hl hc weight at_ hC4 hk
  have hbl:=ZkZ hf hl hc weight (idxV (Zf n) from_) at_
  rw [hfb _ (Nat.le_refl _)] at e4
  obtain rfl:=Option.some.inj e4
  obtain ⟨y5,e5,_⟩:=ZcY (xs:=ZeZ n l closed weight (idxV (Zf n) from_) at_ (Zf n).length) (i:=idxV (Zf n) to_) ⟨by omega,by omega⟩
  simp only [e5,Option.bind_some]
  refine Tot.cond (fun _=>Tot.ret ⟨by simp,fun t h=>by simp at h⟩) fun h3=>?_
  have hn0:0<n.legs.length:=by have:=ZdM n; omega
  refine Tot.bind (P:=fun o:Int=>∃ k:Nat,o=(k:Int)∧k≤(Zf n).length∧getI (ZeZ n l closed weight (idxV (Zf n) from_) at_ k) (idxV (Zf n) to_)=some y5∧∀ j:Nat,j<k→¬ getI (ZeZ n l closed weight (idxV (Zf n) from_) at_ j) (idxV (Zf n) to_)=some y5) ?_ fun o ho=>?_
  ·refine Tot.loop (fun (k:Nat) (s:Int)=>∃ i:Nat,s=(i:Int)∧i+k=(Zf n).length∧∀ j:Nat,j<i→¬ getI (ZeZ n l closed weight (idxV (Zf n) from_) at_ j) (idxV (Zf n) to_)=some y5) (fun k s hs=>?_) NN (Zf n).length 0 ⟨0,rfl,by omega,fun j hj=>by omega⟩ (by unfold NN; omega)
   obtain ⟨i,rfl,hk,hmin⟩:=hs
   unfold ZeE
   have hw:w64 ((i:Int)+1)=((i+1:Nat):Int):=by rw [Zn (by omega)]; omega
   rw [hfb i (by omega),Option.bind_some]
   by_cases hi:i=(Zf n).length
   ·subst hi
    rw [e5,Option.bind_some]
    simp only [decide_true,Bool.not_true,cond_false]
    exact Tot.ret ⟨_,rfl,by omega,e5,hmin⟩
   ·obtain ⟨v,hv,_⟩:=ZcY (xs:=ZeZ n l closed weight (idxV (Zf n) from_) at_ i) (i:=idxV (Zf n) to_) ⟨by omega,by have:=hbl i; omega⟩
    rw [hv,Option.bind_some]
    refine Tot.cond (fun hne=>Tot.ret ⟨k-1,by omega,i+1,hw,by omega,fun j hj=>?_⟩) fun heq=>Tot.ret ⟨i,rfl,by omega,?_,hmin⟩
    ·by_cases hji:j=i
     ·subst hji; rw [hv]; simpa using hne
     ·exact hmin j (by omega)
    ·have:v=y5:=by simpa using heq
     rw [hv,this]
  ·obtain ⟨k0,rfl,hk0,hat,hmin⟩:=ho
   refine Tot.bind (P:=fun w:List Zg=>w.length≤(Zf n).length∧∀ t,w.getLast?=some t→ZcC n t=to_) ?_ fun w hw=>Tot.ret hw
   refine Tot.loop (fun (k:Nat) (s:Int × Int × Int × List Zg)=>(0≤s.1∧s.1<((Zf n).length:Int))∧s.2.2.1=(k:Int)∧s.2.2.2.length+k≤(Zf n).length∧(s.2.2.2=[]→k=k0∧s.1=idxV (Zf n) to_∧s.2.1=y5)∧∀ t,s.2.2.2.getLast?=some t→ZcC n t=to_) (fun k s hs=>?_) NN k0 _ ⟨⟨by omega,by omega⟩,rfl,by simp only [List.length_nil]; omega,fun _=>⟨rfl,rfl,rfl⟩,fun t h=>by simp at h⟩ (by unfold NN; omega)
   obtain ⟨k1,k2,k3,k4,k5⟩:=hs
   unfold ZeF
   refine Tot.cond (fun hd=>?_) fun hd=>Tot.ret ⟨by omega,k5⟩
   have hlt2:=of_decide_eq_true hd
   have hw:w64 (s.2.2.1-1)=((k-1:Nat):Int):=by rw [Zn (by omega)]; omega
   rw [hw,hfb (k-1) (by omega),Option.bind_some]
   refine Tot.bind (P:=fun t=>∃ y,getI n.legs t.leg=some y∧y∈n.legs∧(s.2.2.2=[]→ZcC n t=to_)) ?_ fun t ht=>Tot.chk (Zbh (by simp only [List.length_cons,List.length_nil]; omega) (by omega)) ?_
   ·by_cases he:s.2.2.2=[]
    ·obtain ⟨rfl,k6,k7⟩:=k4 he
     have hcd:Cand n l closed weight (idxV (Zf n) from_) (ZeZ n l closed weight (idxV (Zf n) from_) at_ (k-1)) (idxV (Zf n) to_) y5:=by
      have h:=(ZlW hf hl hc weight (idxV (Zf n) from_) at_ (k-1)).2 (idxV (Zf n) to_) y5 (by rw [show k-1+1=k by omega]; exact hat)
      rcases h with h | h
      ·exact absurd h (hmin (k-1) (by omega))
      ·exact h
     rw [k6,k7]
     refine (Zva hf hl hc weight (hbl (k-1)) _ ⟨by omega,by omega⟩ hcd).mono fun t ht=>?_
     obtain ⟨y,hy,hto⟩:=ht
     refine ⟨y,hy,ZiY hy,fun _=>?_⟩
     rw [Zq6 (by omega)] at hto
     unfold ZcC
     rw [hy]
     exact (Option.some.inj hto).symm
    ·refine (ZtT hf hl hc weight (hbl (k-1)) _ k1 _ hn0).mono fun t ht=>?_
     obtain ⟨y,hy,hm⟩:=ht
     exact ⟨y,hy,hm,fun h=>absurd h he⟩
   ·obtain ⟨y,hy,hm,hlast⟩:=ht
    obtain ⟨m1,_⟩:=Zgw hm
    have a0:=ZfJ m1
    have a1:=(Zgs (Zf n) y.from_).2
    obtain ⟨v,hv,_⟩:=ZcY (xs:=ZeZ n l closed weight (idxV (Zf n) from_) at_ (k-1)) (i:=idxV (Zf n) y.from_) ⟨a0,by have:=hbl (k-1); omega⟩
    simp only [hy,Option.bind_some,ZiG hf,hv]
    refine Tot.ret ⟨k-1,by omega,⟨a0,a1⟩,rfl,by simp only [List.length_append,List.length_cons,List.length_nil]; omega,fun h=>by simp at h,fun q hq=>?_⟩
    cases hs:s.2.2.2 with
    | nil=>
     rw [hs] at hq
     simp at hq
     rw [← hq]
     exact hlast hs
    | cons a a2=>
     rw [hs] at hq
     have hq':(t::a::a2).getLast?=some q:=hq
     rw [List.getLast?_cons_cons] at hq'
     exact k5 q (by rw [hs]; exact hq')
 ·subst h4; simp at h2'
end
end Go.Proofs.YtkfbakhnpfmfmaaGreatDoor
