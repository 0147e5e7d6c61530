/- A part of the proof of the statement in the last file of this claim: texts on the language of the program and on its functions. No condition. -/
import Derived.Test.YtmcdjilbkmhfoaaGreatCFnWorldKeeps6
import Derived.Test.YtmcdjilbkmhfoaaGreatCFnWorldKeeps4
import Derived.Test.YtmcdjilbkmhfoaaGreatCFnWorldKeeps5
namespace Go.Proofs.YtmcdjilbkmhfoaaGreat
set_option maxRecDepth 10000
open Go.RowKit
set_option linter.unusedVariables false
set_option linter.unusedSimpArgs false
set_option linter.unusedSectionVars false
structure Zxy (l:YLeg):Prop where
 start:0≤l.start∧l.start≤1439
 takes:1≤l.takes∧l.takes≤4320
 room:0≤l.room∧l.room≤1000000
theorem Zuo {l:YLeg} (h:Zna l) (hv:Za3 l=some true):Zxy l:=by
 obtain ⟨_,b1,s1⟩:=ZhE (s:=l.from_) h.1
 obtain ⟨_,b2,s2⟩:=ZhE (s:=l.to_) h.2
 unfold Za3 at hv
 rw [s1,s2] at hv
 simp only [Option.bind_some,ZbH] at hv
 cases b1 with
 | false=>simp at hv
 | true=>
 cases b2 with
 | false=>simp at hv
 | true=>
 simp only [cond_true] at hv
 cases h1:decide (l.from_=l.to_) with
 | true=>rw [h1] at hv; simp at hv
 | false=>
 rw [h1] at hv
 cases h2:decide (0≤l.start) && decide (l.start≤1439) with
 | false=>rw [h2] at hv; simp at hv
 | true=>
 rw [h2] at hv
 cases h3:decide (1≤l.takes) && decide (l.takes≤4320) with
 | false=>rw [h3] at hv; simp at hv
 | true=>
 rw [h3] at hv
 cases h4:decide (1≤l.days) && decide (l.days≤127) with
 | false=>rw [h4] at hv; simp at hv
 | true=>
 rw [h4] at hv
 cases h5:decide (0≤l.room) && decide (l.room≤1000000) with
 | false=>rw [h5] at hv; simp at hv
 | true=>
 simp only [Bool.and_eq_true,decide_eq_true_iff] at h2 h3 h5
 exact ⟨h2,h3,h5⟩
theorem Zkv {n:Za} (h:Z0 n) (hn:Zi n=some true):∀ l∈n.legs,Zxy l:=by
 have e:Zj (ZD n) NN 0=some (if allI (fun _ l=>(Za3 l).getD false) 0 n.legs=true then .inl () else .inr false):=by
  refine Zfs (A:=Unit) (fun _ i=>i) _ (fun a _=>a) id (fun a i l hl=>?_) (fun a=>?_) (by have:=h.legs; unfold NN; omega) ()
  ·have hlt:=(List.getElem?_eq_some_iff.1 hl).1
   have hcl:=h.legs
   have hg:getI n.legs (i:Int)=some l:=by rw [Zn]; exact hl
   have hi:w64 ((i:Int)+1)=((i+1:Nat):Int):=ZR hlt (by omega)
   obtain ⟨_,b,hb⟩:=Zjx (h.leg l (List.mem_of_getElem? hl))
   unfold ZD
   simp only [decide_eq_true (show (i:Int)<n.legs.length by omega),cond_true,hg,Option.bind_some,hb,hi,Option.getD_some]
   cases b <;> rfl
  ·unfold ZD
   simp
 unfold Zi at hn
 rw [e] at hn
 by_cases ha:allI (fun _ l=>(Za3 l).getD false) 0 n.legs=true
 ·intro l hl
  obtain ⟨i,hi,rfl⟩:=List.getElem_of_mem hl
  have:=Zas.1 ha i _ (List.getElem?_eq_getElem hi)
  obtain ⟨_,b,hb⟩:=Zjx (h.leg _ (List.getElem_mem hi))
  rw [hb] at this
  simp at this
  subst this
  exact Zuo (h.leg _ (List.getElem_mem hi)) hb
 ·rw [if_neg ha] at hn
  simp at hn
theorem ZiH {n:Za} {t:Ze} (ht:ZbJ n t=true):0≤t.day∧t.day≤60:=by
 unfold ZbJ ZX at ht
 rw [ZbH,ZbH] at ht
 simp only [Option.bind_some] at ht
 cases h1:decide (0≤t.leg) && decide (t.leg≤w64 ((n.legs.length:Int)-1)) with
 | false=>rw [h1] at ht; simp at ht
 | true=>
 rw [h1] at ht
 simp only [cond_true] at ht
 cases h2:decide (0≤t.day) && decide (t.day≤60) with
 | false=>rw [h2] at ht; simp at ht
 | true=>simpa only [Bool.and_eq_true,decide_eq_true_iff] using h2
def ZM (n:Za) (t:Ze):Int:=(Zp n t).getD 0
def Z7 (n:Za) (t:Ze):Int:=(Zq n t).getD 0
theorem ZI {n:Za} (h:Z0 n) (hn:Zi n=some true) {t:Ze} (ht:ZbJ n t=true):
 Zp n t=some (ZM n t)∧Zq n t=some (Z7 n t)∧0≤ZM n t∧ZM n t<Z7 n t∧Z7 n t≤100000:=by
 obtain ⟨y,hy,hm⟩:=Zah h ht
 obtain ⟨d0,d1⟩:=ZiH ht
 have hl:=Zkv h hn y hm
 obtain ⟨a0,a1⟩:=hl.start
 obtain ⟨b0,b1⟩:=hl.takes
 have e1:Zp n t=some (t.day*1440+y.start):=by
  unfold Zp
  rw [hy]
  simp only [Option.bind_some]
  rw [Zo (n:=t.day*1440) (by omega),Zo (by omega)]
 have e2:Zq n t=some (t.day*1440+y.start+y.takes):=by
  unfold Zq
  rw [e1,hy]
  simp only [Option.bind_some]
  rw [Zo (by omega)]
 have s1:ZM n t=t.day*1440+y.start:=by unfold ZM; rw [e1]; rfl
 have s2:Z7 n t=t.day*1440+y.start+y.takes:=by unfold Z7; rw [e2]; rfl
 refine ⟨by rw [e1,s1],by rw [e2,s2],by omega,by omega,by omega⟩
theorem ZoX {n:Za} {o:Zf} {now:Int} (h:ZC n o now=some true):(o.state=1∧¬ (o.place=o.to_))∨(o.state=2∧o.gone<o.way.length)∨(o.state=3∧o.gone=o.way.length∧0<o.gone):=by
 by_cases h1:o.state=1
 ·refine .inl ⟨h1,fun hp=>?_⟩
  unfold ZC at h
  rw [decide_eq_true h1] at h
  cases h0:decide (0<o.gone) with
  | false=>
   rw [h0] at h
   simp only [cond_false,cond_true] at h
   cases hq:decide (o.place=o.from_) with
   | false=>rw [hq] at h; cases h
   | true=>
    rw [hq,decide_eq_true (show o.from_=o.to_ from (of_decide_eq_true hq).symm.trans hp)] at h
    cases h
  | true=>
   rw [h0] at h
   simp only [cond_false,cond_true] at h
   cases hg:getI o.way (w64 (o.gone-1)) with
   | none=>rw [hg] at h; cases h
   | some y1=>
    rw [hg] at h
    simp only [Option.bind_some] at h
    cases hl:getI n.legs y1.leg with
    | none=>rw [hl] at h; cases h
    | some y2=>
     rw [hl] at h
     simp only [Option.bind_some] at h
     cases he:Zq n y1 with
     | none=>rw [he] at h; cases h
     | some v=>
      rw [he] at h
      simp only [Option.bind_some] at h
      cases hc:decide (now<v) with
      | true=>rw [hc] at h; cases h
      | false=>
       rw [hc] at h
       simp only [cond_false] at h
       cases hq:decide (o.place=y2.to_) with
       | false=>rw [hq] at h; cases h
       | true=>
        rw [hq,decide_eq_true (show y2.to_=o.to_ from (of_decide_eq_true hq).symm.trans hp)] at h
        cases h
 ·by_cases h2:o.state=2
  ·refine .inr (.inl ⟨h2,?_⟩)
   rcases Classical.em (o.gone<o.way.length) with hlt | hlt
   ·exact hlt
   exfalso
   unfold ZC at h
   rw [decide_eq_false h1,decide_eq_true h2,decide_eq_false hlt] at h
   cases h0:decide (0<o.gone) with
   | false=>
    rw [h0] at h
    simp only [cond_false,cond_true] at h
    revert h; cases decide (o.place=⟨#[]⟩) <;> cases decide (o.ended=0) <;> (intro h; cases h)
   | true=>
    rw [h0] at h
    simp only [cond_false,cond_true] at h
    cases hg:getI o.way (w64 (o.gone-1)) with
    | none=>rw [hg] at h; cases h
    | some y1=>
     rw [hg] at h
     simp only [Option.bind_some] at h
     cases hl:getI n.legs y1.leg with
     | none=>rw [hl] at h; cases h
     | some y2=>
      rw [hl] at h
      simp only [Option.bind_some] at h
      cases he:Zq n y1 with
      | none=>rw [he] at h; cases h
      | some v=>
       rw [he] at h
       simp only [Option.bind_some] at h
       revert h; cases decide (now<v) <;> cases decide (o.place=⟨#[]⟩) <;> cases decide (o.ended=0) <;> (intro h; cases h)
  ·by_cases h3:o.state=3
   ·refine .inr (.inr ⟨h3,?_⟩)
    rcases Classical.em (o.gone=o.way.length∧0<o.gone) with hlt | hlt
    ·exact hlt
    exfalso
    unfold ZC at h
    rw [decide_eq_false h1,decide_eq_false h2,decide_eq_true h3] at h
    cases h0:decide (0<o.gone) with
    | false=>
     rw [h0] at h
     simp only [cond_false,cond_true] at h
     revert h; cases decide (o.place=o.to_) <;> cases decide (o.from_=o.to_) <;> cases decide (o.gone=(o.way.length:Int)) <;> (intro h; cases h)
    | true=>
     have hne:¬ o.gone=(o.way.length:Int):=fun e=>hlt ⟨e,of_decide_eq_true h0⟩
     rw [h0,decide_eq_false hne] at h
     simp only [cond_false,cond_true] at h
     cases hg:getI o.way (w64 (o.gone-1)) with
     | none=>rw [hg] at h; cases h
     | some y1=>
      rw [hg] at h
      simp only [Option.bind_some] at h
      cases hl:getI n.legs y1.leg with
      | none=>rw [hl] at h; cases h
      | some y2=>
       rw [hl] at h
       simp only [Option.bind_some] at h
       cases he:Zq n y1 with
       | none=>rw [he] at h; cases h
       | some v=>
        rw [he] at h
        simp only [Option.bind_some] at h
        revert h; cases decide (now<v) <;> cases decide (o.place=o.to_) <;> cases decide (y2.to_=o.to_) <;> (intro h; cases h)
   ·exfalso
    unfold ZC at h
    rw [decide_eq_false h1,decide_eq_false h2,decide_eq_false h3] at h
    cases h0:decide (0<o.gone) with
    | false=>rw [h0] at h; cases h
    | true=>
     rw [h0] at h
     simp only [cond_false,cond_true] at h
     cases hg:getI o.way (w64 (o.gone-1)) with
     | none=>rw [hg] at h; cases h
     | some y1=>
      rw [hg] at h
      simp only [Option.bind_some] at h
      cases hl:getI n.legs y1.leg with
      | none=>rw [hl] at h; cases h
      | some y2=>
       rw [hl] at h
       simp only [Option.bind_some] at h
       cases he:Zq n y1 with
       | none=>rw [he] at h; cases h
       | some v=>
        rw [he] at h
        simp only [Option.bind_some] at h
        revert h; cases decide (now<v) <;> (intro h; cases h)
structure Zn5 (w:Zd) (i:Nat) (o:Zf):Prop where
 gone:0≤o.gone∧o.gone≤o.way.length
 trip:∀ t∈o.way,ZbJ w.network t=true
 way:allI (wayC w ((i+1:Nat):Int) o) 0 o.way=true
 isWay:ZaN w.network o.way o.from_ (endV w.network o) (w64 (o.at_+1))=some true
 st:ZC w.network o w.now=some true
 cases:(o.state=1∧¬ (o.place=o.to_))∨(o.state=2∧o.gone<o.way.length)∨(o.state=3∧o.gone=o.way.length∧0<o.gone)
 open_:((o.way.drop (Zm o).toNat).any (Z2 w.closed))=false
 fromto:¬ o.from_=o.to_
 at_:0≤o.at_∧o.at_≤w.now
 due:0≤o.due∧o.due≤200000
theorem ZpI {w:Zd} (hf:WFit w) {i:Nat} {o:Zf} (hl:o.way.length≤1048576) (h:ZcY w i o=true):Zn5 w i o:=by
 unfold ZcY at h
 simp only [Bool.and_eq_true,Bool.not_eq_true',decide_eq_true_iff,decide_eq_false_iff_not] at h
 obtain ⟨⟨⟨⟨⟨⟨⟨⟨⟨⟨⟨h1,h2⟩,h3⟩,h4⟩,h5⟩,h6⟩,h7⟩,h8⟩,h9⟩,h10⟩,h11⟩,h12⟩:=h
 have ht:∀ t∈o.way,ZbJ w.network t=true:=by
  intro t ht
  obtain ⟨j,hj,rfl⟩:=List.getElem_of_mem ht
  have:=Zas.1 h9 j _ (List.getElem?_eq_getElem hj)
  unfold wayC at this
  simp only [Bool.and_eq_true] at this
  exact this.1.1
 obtain ⟨r,hr⟩:=ZiR hf.net hl o.from_ (endV w.network o) (w64 (o.at_+1))
 obtain ⟨b,hb⟩:=ZlI (n:=w.network) h8 hl (fun t htt=>by obtain ⟨y,hy,_⟩:=Zah hf.net (ht t htt); exact ⟨y,hy⟩) w.now
 rw [hr] at h10
 rw [hb] at h11
 simp only [Option.getD_some] at h10 h11
 subst h10 h11
 exact ⟨h8,ht,h9,hr,hb,ZoX hb,h12,h3,h6,h7⟩
section
variable {w:Zd} (hf:WFit w) (hv:ZcB w=true)
include hf hv
theorem Zdk {i:Nat} {o:Zf} (ho:w.orders[i]?=some o):Zn5 w i o:=ZpI hf (hf.way o (List.mem_of_getElem? ho)) (Zd8 hv ho)
theorem Zn0:Zi w.network=some true:=(Zav (ZkT hv)).1
theorem ZkS {o:Zf} {i:Nat} (ho:w.orders[i]?=some o) {k:Int} (h0:0≤k) (h1:k<o.way.length):∃ t,getI o.way k=some t∧ZbJ w.network t=true:=by
 have hlt:k.toNat<o.way.length:=by omega
 exact ⟨o.way[k.toNat],by unfold getI; rw [if_pos h0]; exact List.getElem?_eq_getElem hlt,(Zdk hf hv ho).trip _ (List.getElem_mem hlt)⟩
theorem Zwz:ZbC w=(Zj (ZbT w) NN (0,(-1))).bind (fun o0=>some o0):=by
 have hnet:=Zn0 hf hv
 have hor:=hf.orders
 let F:Nat→Int→Zf→Option (Int ⊕ Int):=fun _ a o=>
  if o.gone=o.way.length then some (.inl a) else (getI o.way o.gone).bind fun t=>
   let v:=if o.state=2 then Z7 w.network t else ZM w.network t
   some (.inl (if a<0∨v<a then v else a))
 have e1:Zj (ZaK w) NN ((-1),0)=runL F some 0 w.orders (-1):=by
  refine ZgI (A:=Int) (fun a i=>(a,i)) F some (fun a i o ho=>?_) (fun a=>?_) (by unfold NN; omega) (-1)
  ·have hlt:=(List.getElem?_eq_some_iff.1 ho).1
   have hg:getI w.orders (i:Int)=some o:=by rw [Zn]; exact ho
   have hi:w64 ((i:Int)+1)=((i+1:Nat):Int):=ZR hlt (by omega)
   have hok:=Zdk hf hv ho
   unfold ZaK
   simp only [decide_eq_true (show (i:Int)<w.orders.length by omega),cond_true,hg,Option.bind_some,hi,Zei,ZfG]
   show _=(F i a o).bind _
   simp only [F]
   by_cases hgl:o.gone<o.way.length
   ·obtain ⟨t,htg,htb⟩:=ZkS hf hv ho hok.gone.1 hgl
    obtain ⟨t1,t2,t3,t4,t5⟩:=ZI hf.net hnet htb
    rw [if_neg (show ¬ o.gone=(o.way.length:Int) by omega),htg]
    simp only [Option.bind_some,t1,t2,decide_eq_true hgl]
    rcases hok.cases with ⟨c1,_⟩ | ⟨c1,_⟩ | ⟨c1,c2,_⟩
    ·rw [c1]
     simp only [show decide ((1:Int)=2)=false from rfl,show decide ((1:Int)=1)=true from rfl,cond_true,cond_false,decide_eq_true t3,show ¬ ((1:Int)=2) by omega,if_false,ZY]
     by_cases ha:a<0
     ·simp [ha]
     ·by_cases hb:ZM w.network t<a <;> simp [ha,hb]
    ·rw [c1]
     simp only [show decide ((2:Int)=2)=true from rfl,cond_true,decide_eq_true (show 0≤Z7 w.network t by omega),if_true,ZY]
     by_cases ha:a<0
     ·simp [ha]
     ·by_cases hb:Z7 w.network t<a <;> simp [ha,hb]
    ·omega
   ·have hge:=hok.gone.2
    rw [if_pos (show o.gone=(o.way.length:Int) by omega),decide_eq_false hgl]
    rcases hok.cases with ⟨c1,_⟩ | ⟨c1,_⟩ | ⟨c1,c2,_⟩
    ·rw [c1]; rfl
    ·omega
    ·rw [c1]; rfl
  ·unfold ZaK
   simp
 have e2:Zj (ZbT w) NN (0,(-1))=runL F some 0 w.orders (-1):=by
  refine ZgI (A:=Int) (fun a i=>(i,a)) F some (fun a i o ho=>?_) (fun a=>?_) (by unfold NN; omega) (-1)
  ·have hlt:=(List.getElem?_eq_some_iff.1 ho).1
   have hg:getI w.orders (i:Int)=some o:=by rw [Zn]; exact ho
   have hi:w64 ((i:Int)+1)=((i+1:Nat):Int):=ZR hlt (by omega)
   have hok:=Zdk hf hv ho
   unfold ZbT
   simp only [decide_eq_true (show (i:Int)<w.orders.length by omega),cond_true,hg,Option.bind_some,hi]
   show _=(F i a o).bind _
   simp only [F]
   by_cases hgl:o.gone<o.way.length
   ·obtain ⟨t,htg,htb⟩:=ZkS hf hv ho hok.gone.1 hgl
    obtain ⟨t1,t2,t3,t4,t5⟩:=ZI hf.net hnet htb
    rw [if_neg (show ¬ o.gone=(o.way.length:Int) by omega),decide_eq_false (show ¬ o.gone=(o.way.length:Int) by omega),htg]
    simp only [Option.bind_some,t1,t2,cond_false]
    by_cases c1:o.state=2
    ·simp only [decide_eq_true c1,cond_true,if_pos c1,ZY]
     by_cases ha:a<0
     ·simp [ha]
     ·by_cases hb:Z7 w.network t<a <;> simp [ha,hb]
    ·simp only [decide_eq_false c1,cond_false,if_neg c1,ZY]
     by_cases ha:a<0
     ·simp [ha]
     ·by_cases hb:ZM w.network t<a <;> simp [ha,hb]
   ·have hge:=hok.gone.2
    rw [if_pos (show o.gone=(o.way.length:Int) by omega),decide_eq_true (show o.gone=(o.way.length:Int) by omega)]
    rfl
  ·unfold ZbT
   simp
 unfold ZbC
 rw [e1,e2]
end
theorem ZoZ {w:Zd} (hf:WFit w) (hv:ZcB w=true) {i:Nat} {o:Zf} (ho:w.orders[i]?=some o):∃ b,Zbl w o=some b∧Zcq w (i:Int)=some b∧(b=false→0<o.way.length):=by
 have hok:=Zdk hf hv ho
 have hl:=hf.way o (List.mem_of_getElem? ho)
 obtain ⟨c1,c2,c3⟩:=Zhh hok.gone hl
 have hg:getI w.orders (i:Int)=some o:=by rw [Zn]; exact ho
 unfold Zbl Zcq
 rw [hg]
 simp only [Option.bind_some]
 rcases hok.cases with ⟨k1,k2⟩ | ⟨k1,k2⟩ | ⟨k1,k2,k3⟩
 ·have hcv:Zm o=o.gone:=by unfold Zm; rw [k1]; rfl
  have hge:=hok.gone
  have hh:ZaT w.network o=some o.place:=by unfold ZaT; rw [k1]; rfl
  rw [Zr3,hh,c1,c3,hcv,if_neg (show ¬ (o.way.length:Int)<o.gone by omega),k1]
  simp only [Option.bind_some]
  by_cases hgl:o.gone=o.way.length
  ·refine ⟨true,?_,?_,fun h=>by cases h⟩
   ·rw [decide_eq_true hgl,decide_eq_false k2]; rfl
   ·rw [decide_eq_true hgl,decide_eq_false k2]; rfl
  ·exact ⟨false,by rw [decide_eq_false hgl]; rfl,by rw [decide_eq_false hgl]; rfl,fun _=>by omega⟩
 ·have hcv:Zm o=o.gone+1:=by unfold Zm; rw [k1]; rfl
  have hge:=hok.gone
  obtain ⟨t,htg,htb⟩:=ZkS hf hv ho hok.gone.1 k2
  obtain ⟨y,hy,_⟩:=Zah hf.net htb
  have hh:ZaT w.network o=some y.to_:=by unfold ZaT; rw [k1,htg]; simp [hy]
  rw [Zr3,hh,c1,c3,hcv,if_neg (show ¬ (o.way.length:Int)<o.gone+1 by omega),k1]
  simp only [Option.bind_some]
  cases decide (o.gone+1=(o.way.length:Int)) with
  | true=>exact ⟨_,rfl,rfl,fun _=>by omega⟩
  | false=>exact ⟨_,rfl,rfl,fun _=>by omega⟩
 ·rw [k1]
  exact ⟨false,rfl,rfl,fun _=>by omega⟩
theorem Zip {σ ο:Type} {body:σ→Option (σ ⊕ ο)} {P:ο→Prop} (h:∀ s o,body s=some (.inr o)→P o):∀ (N:Nat) (s:σ) (o:ο),Zj body N s=some o→P o
 | 0,s,o,he=>by simp [Zj] at he
 | N+1,s,o,he=>by
  simp only [Zj] at he
  cases hb:body s with
  | none=>rw [hb] at he; cases he
  | some x=>
   rw [hb] at he
   cases x with
   | inl s'=>exact Zip h N s' o he
   | inr r=>obtain rfl:r=o:=by simpa [ZY] using he
            exact h s r hb
theorem Zsn {n:Za} (hn:Zi n=some true):(0≤n.change∧n.change≤240)∧n.legs.length≤20∧n.off.length≤10:=by
 unfold Zi at hn
 have p0:∀ (N:Nat) (s:Int) (o:Unit ⊕ Bool),Zj (ZD n) N s=some o→o=.inl ()∨o=.inr false:=by
  refine Zip fun s o h=>?_
  unfold ZD at h
  cases hd:decide (s<(n.legs.length:Int)) with
  | false=>rw [hd] at h; cases h; exact .inl rfl
  | true=>
   rw [hd,cond_true] at h
   cases hg:getI n.legs s with
   | none=>rw [hg] at h; cases h
   | some y=>
    rw [hg,Option.bind_some] at h
    cases hl:Za3 y with
    | none=>rw [hl] at h; cases h
    | some b=>rw [hl,Option.bind_some] at h; cases b <;> cases h; exact .inr rfl
 have p1:∀ (N:Nat) (s:Int) (o:Unit ⊕ Bool),Zj (ZE n) N s=some o→o=.inl ()∨o=.inr false:=by
  refine Zip fun s o h=>?_
  unfold ZE at h
  cases hd:decide (s<(n.off.length:Int)) with
  | false=>rw [hd] at h; cases h; exact .inl rfl
  | true=>
   rw [hd,cond_true] at h
   cases hg:getI n.off s with
   | none=>rw [hg] at h; cases h
   | some y=>
    rw [hg,Option.bind_some,ZbH,Option.bind_some] at h
    cases hb:decide (0≤y) && decide (y≤60) with
    | false=>rw [hb] at h; cases h; exact .inr rfl
    | true=>
     rw [hb] at h
     cases hs:decide (0<s) with
     | false=>rw [hs] at h; cases h
     | true=>
      rw [hs] at h
      simp only [Bool.not_true,cond_false,cond_true] at h
      cases hg2:getI n.off (w64 (s-1)) with
      | none=>rw [hg2] at h; cases h
      | some z=>
       rw [hg2] at h
       simp only [Option.bind_some] at h
       cases hz:decide (y≤z) with
       | false=>rw [hz] at h; cases h
       | true=>rw [hz] at h; cases h; exact .inr rfl
 cases h0:Zj (ZD n) NN 0 with
 | none=>rw [h0] at hn; cases hn
 | some r0=>
 rw [h0] at hn
 rcases p0 _ _ _ h0 with rfl | rfl
 ·simp only [Option.bind_some,ZY] at hn
  cases h1:Zj (ZE n) NN 0 with
  | none=>rw [h1] at hn; cases hn
  | some r1=>
  rw [h1] at hn
  rcases p1 _ _ _ h1 with rfl | rfl
  ·simp only [Option.bind_some,ZY,ZbH] at hn
   cases h2:decide ((n.legs.length:Int)≤20) with
   | false=>rw [h2] at hn; cases hn
   | true=>
   cases h3:decide ((n.off.length:Int)≤10) with
   | false=>rw [h2,h3] at hn; cases hn
   | true=>
   rw [h2,h3] at hn
   simp only [cond_true] at hn
   have:=Option.some.inj hn
   have h2:=of_decide_eq_true h2
   have h3:=of_decide_eq_true h3
   exact ⟨by simpa only [Bool.and_eq_true,decide_eq_true_iff] using this,by omega,by omega⟩
  ·cases hn
 ·cases hn
theorem ZbB {n:Za} (hn:Zi n=some true):0≤n.change∧n.change≤240:=(Zsn hn).1
theorem Zff {n:Za} (hn:Zi n=some true):n.legs.length≤20:=(Zsn hn).2.1
def ZbL (n:Za) (t:Ze):ByteArray:=((getI n.legs t.leg).map (·.from_)).getD ⟨#[]⟩
def ZbG (n:Za):ByteArray→Int→List Ze→Prop
 | _,_,[]=>True
 | p,a,t::ts=>ZbJ n t=true∧ZbL n t=p∧a≤ZM n t∧ZbG n (ZL n t) (Z7 n t+n.change) ts
theorem Zio {n:Za} (h:Z0 n) (hn:Zi n=some true) (t:Ze):Zan n t=some (ZbJ n t):=by
 rw [← (Zgl h t).1,ZhF h hn,ZgB h]
theorem Zh6 {n:Za} (hf:Z0 n) (hn:Zi n=some true) {way:List Ze} (hl:way.length≤1048576) {a b:ByteArray} {t:Int} (h:ZaN n way a b t=some true):ZbG n a t way:=by
 obtain ⟨ch0,ch1⟩:=ZbB hn
 have hpl:=Zaz n
 have hll:=hf.legs
 let F:Nat→ByteArray × Int→Ze→Option ((ByteArray × Int) ⊕ (ByteArray ⊕ Bool)):=fun _ p t=>
  some (if ZbJ n t=true∧ZbL n t=p.1∧p.2≤ZM n t then .inl (ZL n t,Z7 n t+n.change) else .inr (.inr false))
 have e1:Zj (Zao n way b) NN (a,t,0)=runL F (fun p=>some (.inl p.1)) 0 way (a,t):=by
  refine ZgI (A:=ByteArray × Int) (fun p i=>(p.1,p.2,i)) F (fun p=>some (.inl p.1)) (fun p i x hx=>?_) (fun p=>?_) (by unfold NN; omega) (a,t)
  ·have hlt:=(List.getElem?_eq_some_iff.1 hx).1
   have hg:getI way (i:Int)=some x:=by rw [Zn]; exact hx
   have hi:w64 ((i:Int)+1)=((i+1:Nat):Int):=ZR hlt (by omega)
   unfold Zao
   simp only [decide_eq_true (show (i:Int)<way.length by omega),cond_true,hg,Option.bind_some,hi,Zio hf hn,F]
   cases ht:ZbJ n x with
   | false=>simp [ZY]
   | true=>
    obtain ⟨y,hy,_⟩:=Zah hf ht
    obtain ⟨t1,t2,t3,t4,t5⟩:=ZI hf hn ht
    have f1:ZbL n x=y.from_:=by unfold ZbL; rw [hy]; rfl
    have f2:ZL n x=y.to_:=by unfold ZL; rw [hy]; rfl
    have hw:w64 (Z7 n x+n.change)=Z7 n x+n.change:=Zo (by omega)
    simp only [hy,Option.bind_some,t1,t2,f1,f2,hw,Bool.not_true,cond_false,true_and]
    by_cases h1:y.from_=p.1
    ·by_cases h2:ZM n x<p.2
     ·rw [decide_eq_true h1,decide_eq_true h2,if_neg (show ¬ (y.from_=p.1∧p.2≤ZM n x) by omega)]; rfl
     ·rw [decide_eq_true h1,decide_eq_false h2,if_pos ⟨h1,by omega⟩]; rfl
    ·rw [decide_eq_false h1,if_neg (fun h=>h1 h.1)]; rfl
  ·unfold Zao
   simp
 have key:∀ (ts:List Ze) (i:Nat) (p:ByteArray × Int) (r:ByteArray),runL F (fun p=>some (.inl p.1)) i ts p=some (.inl r)→ZbG n p.1 p.2 ts:=by
  intro ts
  induction ts with
  | nil=>intro i p r h; trivial
  | cons x ts ih=>
   intro i p r h
   simp only [runL,F] at h
   by_cases hc:ZbJ n x=true∧ZbL n x=p.1∧p.2≤ZM n x
   ·rw [if_pos hc] at h
    exact ⟨hc.1,hc.2.1,hc.2.2,ih (i+1) (ZL n x,Z7 n x+n.change) r h⟩
   ·rw [if_neg hc] at h; cases h
 unfold ZaN at h
 rw [(Zac hf).2,hn] at h
 simp only [Option.bind_some,Zft (show (Zb n).length≤4194304 by omega),e1] at h
 cases h1:decide (idxV (Zb n) a<0) with
 | true=>rw [h1] at h; cases h
 | false=>
 cases h2:decide (idxV (Zb n) b<0) with
 | true=>rw [h1,h2] at h; cases h
 | false=>
 rw [h1,h2] at h
 simp only [Bool.not_true,cond_false] at h
 cases hr:runL F (fun p=>some (.inl p.1)) 0 way (a,t) with
 | none=>rw [hr] at h; cases h
 | some r=>
  cases r with
  | inl r=>exact key way 0 (a,t) r hr
  | inr v=>
   exfalso
   have:∀ (ts:List Ze) (i:Nat) (p:ByteArray × Int) (v:Bool),runL F (fun p=>some (.inl p.1)) i ts p=some (.inr v)→v=false:=by
    intro ts
    induction ts with
    | nil=>intro i p v h; cases h
    | cons x ts ih=>
     intro i p v h
     simp only [runL,F] at h
     by_cases hc:ZbJ n x=true∧ZbL n x=p.1∧p.2≤ZM n x
     ·rw [if_pos hc] at h; exact ih _ _ _ h
     ·rw [if_neg hc] at h; cases h; rfl
   have hv:=this _ _ _ _ hr
   subst hv
   rw [hr] at h
   cases h
theorem ZlW {n:Za}:∀ {ts:List Ze} {p:ByteArray} {a:Int} {i:Nat} {t:Ze},ZbG n p a ts→ts[i]?=some t→ZbJ n t=true∧∀ t',ts[i+1]?=some t'→Z7 n t+n.change≤ZM n t'∧ZbL n t'=ZL n t
 | [],_,_,_,_,_,h=>by simp at h
 | x::ts,p,a,0,t,hc,h=>by
  obtain rfl:x=t:=by simpa using h
  refine ⟨hc.1,fun t' h'=>?_⟩
  cases ts with
  | nil=>simp at h'
  | cons y ts=>obtain rfl:y=t':=by simpa using h'
               exact ⟨hc.2.2.2.2.2.1,hc.2.2.2.2.1⟩
 | x::ts,p,a,i+1,t,hc,h=>by
  have h':ts[i]?=some t:=by simpa using h
  have:=ZlW hc.2.2.2 h'
  simpa using this
def ZfY (n:Za) (o:Zf):ByteArray:=if 0<o.gone then ((o.way[(o.gone-1).toNat]?).map (ZL n)).getD ⟨#[]⟩ else o.from_
structure Zfi (n:Za) (o:Zf) (now:Int):Prop where
 past:∀ t,0<o.gone→o.way[(o.gone-1).toNat]?=some t→Z7 n t≤now
 cases:(o.state=1∧o.place=ZfY n o∧¬ ZfY n o=o.to_∧o.ended=0∧∀ t,o.way[o.gone.toNat]?=some t→now<ZM n t)∨
  (o.state=2∧o.place=⟨#[]⟩∧o.ended=0∧∃ t,o.way[o.gone.toNat]?=some t∧ZM n t≤now∧now<Z7 n t)∨
  (o.state=3∧o.place=o.to_∧ZfY n o=o.to_∧o.gone=o.way.length∧0<o.gone∧∀ t,o.way[(o.gone-1).toNat]?=some t→o.ended=Z7 n t)
theorem Zih {c:Prop} [Decidable c] {a b:Option Bool}:cond (decide c) a b=some true↔(c∧a=some true)∨(¬ c∧b=some true):=by
 by_cases h:c <;> simp [h]
theorem ZhB {c:Prop} [Decidable c] {a b:Option Bool}:cond (!decide c) a b=some true↔(¬ c∧a=some true)∨(c∧b=some true):=by
 by_cases h:c <;> simp [h]
theorem Zhu {n:Za} (hf:Z0 n) (hn:Zi n=some true) {o:Zf} (hg:0≤o.gone∧o.gone≤o.way.length) (hl:o.way.length≤1048576) (ht:∀ t∈o.way,ZbJ n t=true) (now:Int):ZC n o now=some true↔Zfi n o now:=by
 have hw1:w64 (o.gone-1)=o.gone-1:=Zo (by omega)
 have nx:(∃ t,o.gone<o.way.length∧getI o.way o.gone=some t∧o.way[o.gone.toNat]?=some t∧Zp n t=some (ZM n t)∧Zq n t=some (Z7 n t))∨(o.gone=o.way.length∧o.way[o.gone.toNat]?=none):=by
  by_cases h:o.gone<o.way.length
  ·have hlt:o.gone.toNat<o.way.length:=by omega
   obtain ⟨t1,t2,_⟩:=ZI hf hn (ht _ (List.getElem_mem hlt))
   exact .inl ⟨o.way[o.gone.toNat],h,by unfold getI; rw [if_pos hg.1]; exact List.getElem?_eq_getElem hlt,List.getElem?_eq_getElem hlt,t1,t2⟩
  ·exact .inr ⟨by omega,List.getElem?_eq_none (by omega)⟩
 unfold ZC
 rw [hw1]
 by_cases h0:0<o.gone
 ·have hlt:(o.gone-1).toNat<o.way.length:=by omega
  obtain ⟨p,hp,hp1⟩:∃ p,getI o.way (o.gone-1)=some p∧o.way[(o.gone-1).toNat]?=some p:=⟨o.way[(o.gone-1).toNat],by unfold getI; rw [if_pos (by omega)]; exact List.getElem?_eq_getElem hlt,List.getElem?_eq_getElem hlt⟩
  have hpt:=ht p (List.mem_of_getElem? hp1)
  obtain ⟨y,hy,_⟩:=Zah hf hpt
  obtain ⟨t1,t2,t3,t4,t5⟩:=ZI hf hn hpt
  have hh:ZfY n o=y.to_:=by unfold ZfY; rw [if_pos h0,hp1]; simp [ZL,hy]
  rcases nx with ⟨t,n1,n2,n3,n4,n5⟩ | ⟨n1,n3⟩
  ·have ng:¬ o.gone=o.way.length:=by omega
   simp only [decide_eq_true h0,cond_true,hp,hy,t2,n2,n4,n5,Option.bind_some,Zih,ZhB,Option.some.injEq,decide_eq_true_iff]
   constructor
   ·intro h
    refine ⟨fun q _ hq=>?_,?_⟩
    ·rw [hp1] at hq; obtain rfl:=Option.some.inj hq
     rcases h with ⟨_,h⟩ | ⟨h,_⟩
     ·simp at h
     ·omega
    ·rw [hh]; simp only [n3,hp1,Option.some.injEq,forall_eq',exists_eq_left']
     by_cases s1:o.state=1 <;> by_cases s2:o.state=2 <;> by_cases s3:o.state=3 <;> simp_all
   ·rintro ⟨k1,k2⟩
    have k1':=k1 p h0 hp1
    rw [hh] at k2; simp only [n3,hp1,Option.some.injEq,forall_eq',exists_eq_left'] at k2
    have:¬ now<Z7 n p:=by omega
    rcases k2 with k | k | k <;> simp_all
  ·simp only [decide_eq_true h0,cond_true,hp,hy,t2,Option.bind_some,Zih,ZhB,Option.some.injEq,decide_eq_true_iff]
   have ng:¬ o.gone<o.way.length:=by omega
   constructor
   ·intro h
    refine ⟨fun q _ hq=>?_,?_⟩
    ·rw [hp1] at hq; obtain rfl:=Option.some.inj hq
     rcases h with ⟨_,h⟩ | ⟨h,_⟩
     ·simp at h
     ·omega
    ·rw [hh]; simp only [n3,hp1,Option.some.injEq,forall_eq',exists_eq_left',reduceCtorEq,false_and,exists_false,false_implies,implies_true]
     by_cases s1:o.state=1 <;> by_cases s2:o.state=2 <;> by_cases s3:o.state=3 <;> simp_all
   ·rintro ⟨k1,k2⟩
    have k1':=k1 p h0 hp1
    rw [hh] at k2; simp only [n3,hp1,Option.some.injEq,forall_eq',exists_eq_left',reduceCtorEq,false_and,exists_false,false_implies,implies_true] at k2
    have:¬ now<Z7 n p:=by omega
    rcases k2 with k | k | k <;> simp_all
 ·have hh:ZfY n o=o.from_:=by unfold ZfY; rw [if_neg h0]
  rcases nx with ⟨t,n1,n2,n3,n4,n5⟩ | ⟨n1,n3⟩
  ·have ng:¬ o.gone=o.way.length:=by omega
   simp only [decide_eq_false h0,cond_false,n2,n4,n5,Option.bind_some,Zih,ZhB,Option.some.injEq,decide_eq_true_iff]
   constructor
   ·intro h
    refine ⟨fun q hq=>absurd hq h0,?_⟩
    rw [hh]; simp only [n3,Option.some.injEq,forall_eq',exists_eq_left']
    by_cases s1:o.state=1 <;> by_cases s2:o.state=2 <;> by_cases s3:o.state=3 <;> simp_all
   ·rintro ⟨k1,k2⟩
    rw [hh] at k2; simp only [n3,Option.some.injEq,forall_eq',exists_eq_left'] at k2
    rcases k2 with k | k | k <;> simp_all
  ·have ng:¬ o.gone<o.way.length:=by omega
   simp only [decide_eq_false h0,cond_false,Option.bind_some,Zih,ZhB,Option.some.injEq,decide_eq_true_iff]
   constructor
   ·intro h
    refine ⟨fun q hq=>absurd hq h0,?_⟩
    rw [hh]; simp only [n3,reduceCtorEq,false_and,exists_false,false_implies,implies_true]
    by_cases s1:o.state=1 <;> by_cases s2:o.state=2 <;> by_cases s3:o.state=3 <;> simp_all
   ·rintro ⟨k1,k2⟩
    rw [hh] at k2; simp only [n3,reduceCtorEq,false_and,exists_false,false_implies,implies_true] at k2
    rcases k2 with k | k | k
    ·simp_all
    ·simp_all
    ·exact absurd k.2.2.2.2.1 h0
def Zbj (n:Za) (o:Zf):Option Int:=(o.way[o.gone.toNat]?).map fun t=>if o.state=2 then Z7 n t else ZM n t
def arr1 (n:Za) (at_:Int) (o:Zf) (t:Ze):Zf:=
 if ZL n t=o.to_ then { o with gone:=o.gone+1,state:=3,place:=ZL n t,ended:=at_ } else { o with gone:=o.gone+1,state:=1,place:=ZL n t }
def ZS (n:Za) (at_:Int) (o:Zf):Zf:=match o.way[o.gone.toNat]? with
 | some t=>if o.state=2∧Z7 n t=at_ then arr1 n at_ o t else o
 | none=>o
def ZfS (n:Za) (at_:Int) (o:Zf):Zf:=match o.way[o.gone.toNat]? with
 | some t=>if o.state=1∧ZM n t=at_ then { o with state:=2,place:=⟨#[]⟩ } else o
 | none=>o
structure ZiK (n:Za) (o:Zf):Prop where
 gone:0≤o.gone∧o.gone≤o.way.length
 trip:∀ t∈o.way,0≤ZM n t∧ZM n t<Z7 n t∧Z7 n t≤100000
 next:∀ (i:Nat) t t',o.way[i]?=some t→o.way[i+1]?=some t'→Z7 n t≤ZM n t'
 last:∀ (i:Nat) t,o.way[i]?=some t→ZL n t=o.to_→i+1=o.way.length
structure Zgg (o o':Zf):Prop where
 from_:o'.from_=o.from_
 to_:o'.to_=o.to_
 service:o'.service=o.service
 weight:o'.weight=o.weight
 at_:o'.at_=o.at_
 due:o'.due=o.due
 way:o'.way=o.way
theorem Zgg.refl (o:Zf):Zgg o o:=⟨rfl,rfl,rfl,rfl,rfl,rfl,rfl⟩
theorem Zgg.trans {a b c:Zf} (h:Zgg a b) (k:Zgg b c):Zgg a c:=⟨k.1.trans h.1,k.2.trans h.2,k.3.trans h.3,k.4.trans h.4,k.5.trans h.5,k.6.trans h.6,k.7.trans h.7⟩
theorem ZhZ (n:Za) (at_:Int) (o:Zf):Zgg o (ZS n at_ o):=by
 unfold ZS arr1
 split
 ·split
  ·split <;> exact ⟨rfl,rfl,rfl,rfl,rfl,rfl,rfl⟩
  ·exact .refl o
 ·exact .refl o
theorem Zsi (n:Za) (at_:Int) (o:Zf):Zgg o (ZfS n at_ o):=by
 unfold ZfS
 split
 ·split
  ·exact ⟨rfl,rfl,rfl,rfl,rfl,rfl,rfl⟩
  ·exact .refl o
 ·exact .refl o
def Zf2 (n:Za) (at_:Int) (o:Zf):Zf:=ZfS n at_ (ZS n at_ o)
theorem Zhv (n:Za) (at_:Int) (o:Zf):Zgg o (Zf2 n at_ o):=(ZhZ n at_ o).trans (Zsi n at_ _)
theorem ZiK.same {n:Za} {o o':Zf} (h:ZiK n o) (k:Zgg o o') (hg:0≤o'.gone∧o'.gone≤o.way.length):ZiK n o':=
 ⟨by rw [k.way]; exact hg,by rw [k.way]; exact h.trip,by rw [k.way]; exact h.next,by rw [k.way,k.to_]; exact h.last⟩
def Zeu (o:Zf):Nat:=2*(o.way.length-o.gone.toNat)-(if o.state=2 then 1 else 0)
structure Zo2 (n:Za) (o:Zf) (at_:Int):Prop where
 ok:Zfi n o at_
 gone:0≤o.gone∧o.gone≤o.way.length
 next:∀ e,Zbj n o=some e→at_<e
theorem Zgs {n:Za} {o:Zf} {at_:Int} (h:Zfi n o at_) (hg:0≤o.gone∧o.gone≤o.way.length):Zo2 n o at_:=by
 refine ⟨h,hg,fun e he=>?_⟩
 unfold Zbj at he
 rcases h.cases with ⟨c,_,_,_,k⟩ | ⟨c,_,_,t,k1,_,k3⟩ | ⟨c,_,_,k,_,_⟩
 ·cases ht:o.way[o.gone.toNat]? with
  | none=>rw [ht] at he; cases he
  | some t=>rw [ht] at he; simp [c] at he; subst he; exact k t ht
 ·rw [k1] at he; simp [c] at he; subst he; exact k3
 ·rw [List.getElem?_eq_none (by omega)] at he; cases he
theorem Zsh {n:Za} {o:Zf} {at_:Int} (hw:ZiK n o) (hp:∀ t,0<o.gone→o.way[(o.gone-1).toNat]?=some t→Z7 n t≤at_)
 (hs:o.state=1) (h1:o.place=ZfY n o) (h2:¬ ZfY n o=o.to_) (h3:o.ended=0) (h4:∀ t,o.way[o.gone.toNat]?=some t→at_≤ZM n t):
 Zo2 n (ZfS n at_ o) at_∧Zeu (ZfS n at_ o)≤Zeu o∧((∃ t,o.way[o.gone.toNat]?=some t∧ZM n t=at_)→Zeu (ZfS n at_ o)<Zeu o):=by
 unfold ZfS
 cases ht:o.way[o.gone.toNat]? with
 | none=>
  refine ⟨Zgs ⟨hp,.inl ⟨hs,h1,h2,h3,fun t h=>?_⟩⟩ hw.gone,Nat.le_refl _,fun ⟨t,h,_⟩=>?_⟩
  ·rw [ht] at h; cases h
  ·cases h
 | some t=>
  have hlt:=(List.getElem?_eq_some_iff.1 ht).1
  obtain ⟨a1,a2,a3⟩:=hw.trip t (List.mem_of_getElem? ht)
  have h4':=h4 t ht
  by_cases hst:ZM n t=at_
  ·simp only [hs,hst,and_self,if_true]
   refine ⟨Zgs ⟨fun q hq=>?_,.inr (.inl ⟨rfl,rfl,h3,t,ht,by omega,by omega⟩)⟩ hw.gone,?_,fun _=>?_⟩
   ·exact hp q hq
   ·unfold Zeu; simp only [hs]; simp
   ·unfold Zeu; simp only [hs]; simp; omega
  ·have hng:¬ (o.state=1∧ZM n t=at_):=fun h=>hst h.2
   simp only [if_neg hng]
   refine ⟨Zgs ⟨hp,.inl ⟨hs,h1,h2,h3,fun q hq=>?_⟩⟩ hw.gone,Nat.le_refl _,fun ⟨q,hq,hq2⟩=>?_⟩
   ·rw [ht] at hq; obtain rfl:=Option.some.inj hq; omega
   ·obtain rfl:=Option.some.inj hq; exact absurd hq2 hst
theorem ZiT {n:Za} {o:Zf} {at_:Int} (hs:¬ o.state=1):ZfS n at_ o=o:=by
 unfold ZfS
 cases o.way[o.gone.toNat]? with
 | none=>rfl
 | some t=>simp [hs]
theorem Zts {n:Za} {o:Zf} {now at_:Int} (hw:ZiK n o) (h:Zfi n o now) (hn:now≤at_) (he:∀ e,Zbj n o=some e→at_≤e):
 Zo2 n (Zf2 n at_ o) at_∧ZiK n (Zf2 n at_ o)∧Zeu (Zf2 n at_ o)≤Zeu o∧(Zbj n o=some at_→Zeu (Zf2 n at_ o)<Zeu o):=by
 have hg:=hw.gone
 have main:Zo2 n (Zf2 n at_ o) at_∧Zeu (Zf2 n at_ o)≤Zeu o∧(Zbj n o=some at_→Zeu (Zf2 n at_ o)<Zeu o):=by
  unfold Zf2
  rcases h.cases with ⟨c1,c2,c3,c4,c5⟩ | ⟨c1,c2,c3,t,c4,c5,c6⟩ | ⟨c1,c2,c3,c4,c5,c6⟩
  ·have e1:ZS n at_ o=o:=by
    unfold ZS
    cases o.way[o.gone.toNat]? with
    | none=>rfl
    | some t=>simp [c1]
   rw [e1]
   have h4:∀ t,o.way[o.gone.toNat]?=some t→at_≤ZM n t:=fun t ht=>he _ (by unfold Zbj; rw [ht]; simp [c1])
   obtain ⟨a,b,c⟩:=Zsh hw (fun t h1 h2=>by have:=h.past t h1 h2; omega) c1 c2 c3 c4 h4
   refine ⟨a,b,fun hev=>c ?_⟩
   unfold Zbj at hev
   cases ht:o.way[o.gone.toNat]? with
   | none=>rw [ht] at hev; cases hev
   | some t=>rw [ht] at hev; simp [c1] at hev; exact ⟨t,rfl,hev⟩
  ·have hlt:=(List.getElem?_eq_some_iff.1 c4).1
   obtain ⟨a1,a2,a3⟩:=hw.trip t (List.mem_of_getElem? c4)
   have he':=he (Z7 n t) (by unfold Zbj; rw [c4]; simp [c1])
   by_cases hx:Z7 n t=at_
   ·have e1:ZS n at_ o=arr1 n at_ o t:=by unfold ZS; rw [c4]; simp only [c1,hx,and_self,if_true]
    rw [e1]
    have hgn:(o.gone+1-1).toNat=o.gone.toNat:=by omega
    have hgs:(o.gone+1).toNat=o.gone.toNat+1:=by omega
    unfold arr1
    by_cases hd:ZL n t=o.to_
    ·have hlen:=hw.last _ t c4 hd
     rw [if_pos hd,ZiT (by simp)]
     have hh:ZfY n { o with gone:=o.gone+1,state:=3,place:=ZL n t,ended:=at_ }=ZL n t:=by
      unfold ZfY; simp only [hgn,c4]; rw [if_pos (by omega)]; rfl
     refine ⟨Zgs ⟨fun q _ hq=>?_,.inr (.inr ⟨rfl,hd,hh.trans hd,by simp only; omega,by simp only; omega,fun q hq=>?_⟩)⟩ (by simp only; omega),?_,fun _=>?_⟩
     ·simp only [hgn,c4,Option.some.injEq] at hq; subst hq; omega
     ·simp only [hgn,c4,Option.some.injEq] at hq; subst hq; exact hx.symm
     ·unfold Zeu; simp only [hgs,c1]; simp; omega
     ·unfold Zeu; simp only [hgs,c1]; simp; omega
    ·rw [if_neg hd]
     have hh:ZfY n { o with gone:=o.gone+1,state:=1,place:=ZL n t }=ZL n t:=by
      unfold ZfY; simp only [hgn,c4]; rw [if_pos (by omega)]; rfl
     have hw':ZiK n { o with gone:=o.gone+1,state:=1,place:=ZL n t }:=hw.same ⟨rfl,rfl,rfl,rfl,rfl,rfl,rfl⟩ (by simp only; omega)
     obtain ⟨a,b,c⟩:=Zsh (at_:=at_) hw' (fun q _ hq=>by simp only [hgn,c4,Option.some.injEq] at hq; subst hq; omega) rfl hh.symm (by rw [hh]; exact hd) c3 (fun q hq=>by
      simp only [hgs] at hq
      have:=hw.next _ t q c4 hq
      omega)
     have hb:Zeu { o with gone:=o.gone+1,state:=1,place:=ZL n t } < Zeu o:=by unfold Zeu; simp only [hgs,c1]; simp; omega
     exact ⟨a,by omega,fun _=>by omega⟩
   ·have e1:ZS n at_ o=o:=by unfold ZS; rw [c4]; simp only [hx,and_false,if_false]
    rw [e1,ZiT (by omega)]
    refine ⟨Zgs ⟨fun q h1 h2=>by have:=h.past q h1 h2; omega,.inr (.inl ⟨c1,c2,c3,t,c4,by omega,by omega⟩)⟩ hg,Nat.le_refl _,fun hev=>?_⟩
    unfold Zbj at hev
    rw [c4] at hev; simp [c1] at hev; exact absurd hev hx
  ·have hnone:o.way[o.gone.toNat]?=none:=List.getElem?_eq_none (by omega)
   have e1:ZS n at_ o=o:=by unfold ZS; rw [hnone]
   rw [e1,ZiT (by omega)]
   refine ⟨Zgs ⟨fun q h1 h2=>by have:=h.past q h1 h2; omega,.inr (.inr ⟨c1,c2,c3,c4,c5,c6⟩)⟩ hg,Nat.le_refl _,fun hev=>?_⟩
   unfold Zbj at hev
   rw [hnone] at hev; cases hev
 have hs:=Zhv n at_ o
 exact ⟨main.1,hw.same hs (by have:=main.1.gone; rw [hs.way] at this; exact this),main.2⟩
theorem ZtC {n:Za} {o:Zf} (hw:ZiK n o) {now:Int} (h:Zfi n o now) (h0:Zeu o=0):Zbj n o=none:=by
 have hg:=hw.gone
 unfold Zbj
 rcases h.cases with ⟨c,_⟩ | ⟨c,_,_,t,k1,_⟩ | ⟨c,_,_,k,_⟩
 ·unfold Zeu at h0; rw [if_neg (by omega)] at h0
  rw [List.getElem?_eq_none (by omega)]; rfl
 ·have hlt:=(List.getElem?_eq_some_iff.1 k1).1
  unfold Zeu at h0; rw [if_pos c] at h0; omega
 ·rw [List.getElem?_eq_none (by omega)]; rfl
theorem ZgS {w:Zd} (hf:WFit w) (hv:ZcB w=true) {s:Zk} (hs:s∈w.scans):ZB w.network s=some true∧s.at_≤w.now:=by
 unfold ZcB at hv
 simp only [Bool.and_eq_true] at hv
 obtain ⟨j,hj,rfl⟩:=List.getElem_of_mem hs
 have:=Zas.1 hv.1.1.2 j _ (List.getElem?_eq_getElem hj)
 unfold Zk0 at this
 simp only [Bool.and_eq_true,Bool.not_eq_true',decide_eq_false_iff_not] at this
 obtain ⟨b,hb⟩:=ZgZ hf.net w.scans[j]
 rw [hb] at this ⊢
 simp only [Option.getD_some] at this
 exact ⟨by rw [this.1],by omega⟩
def ZeI (skip:List Int) (p:List Zk × Int) (s:Zk):List Zk × Int:=
 let m:=if p.2<1000000000 then p.2+1 else p.2
 (if (skip.any fun y=>decide (y=m))=false∧p.1.length<200 then p.1++[s] else p.1,m)
def Zca (n:Za) (at_:Int) (i:Nat) (o:Zf):List Zk:=match o.way[o.gone.toNat]? with
 | some t=>if o.state=2∧Z7 n t=at_ then ⟨((i+1:Nat):Int),at_,2,⟨#[]⟩,t⟩::(if ZL n t=o.to_ then [⟨((i+1:Nat):Int),at_,4,ZL n t,⟨0,0⟩⟩] else []) else []
 | none=>[]
def Zfu (n:Za) (at_:Int) (i:Nat) (o:Zf):List Zk:=match o.way[o.gone.toNat]? with
 | some t=>if o.state=1∧ZM n t=at_ then [⟨((i+1:Nat):Int),at_,3,⟨#[]⟩,t⟩] else []
 | none=>[]
def Ze0 (f:Nat→Zf→List Zk):Nat→List Zf→List Zk
 | _,[]=>[]
 | i,o::os=>f i o++Ze0 f (i+1) os
theorem ZfK {f:Nat→Zf→List Zk} {s:Zk}:∀ {os:List Zf} {i:Nat},s∈Ze0 f i os→∃ j o,os[j]?=some o∧s∈f (i+j) o
 | [],_,h=>by simp [Ze0] at h
 | o::os,i,h=>by
  simp only [Ze0,List.mem_append] at h
  rcases h with h | h
  ·exact ⟨0,o,rfl,h⟩
  ·obtain ⟨j,o',h1,h2⟩:=ZfK h
   exact ⟨j+1,o',by simpa using h1,by rwa [show i+(j+1)=i+1+j by omega]⟩
def ZiE (w:Zd) (at_:Int):List Zk:=Ze0 (Zca w.network at_) 0 w.orders++Ze0 (Zfu w.network at_) 0 (w.orders.map (ZS w.network at_))
def ZbF (w:Zd) (at_:Int):Zd:=
 { w with orders:=w.orders.map (Zf2 w.network at_),now:=at_,scans:=((ZiE w at_).foldl (ZeI w.skip) (w.scans,w.made)).1,made:=((ZiE w at_).foldl (ZeI w.skip) (w.scans,w.made)).2 }
structure WOk (w:Zd):Prop where
 fit:WFit w
 ok:ZcB w=true
theorem WOk.net {w:Zd} (h:WOk w):Zi w.network=some true:=Zn0 h.fit h.ok
theorem WOk.way {w:Zd} (h:WOk w) {i:Nat} {o:Zf} (ho:w.orders[i]?=some o):ZiK w.network o:=by
 have hok:=Zdk h.fit h.ok ho
 have hl:=h.fit.way o (List.mem_of_getElem? ho)
 have hch:=Zh6 h.fit.net h.net hl hok.isWay
 refine ⟨hok.gone,fun t ht=>?_,fun i t t' h1 h2=>?_,fun i t h1 h2=>?_⟩
 ·obtain ⟨_,_,a,b,c⟩:=ZI h.fit.net h.net (hok.trip t ht)
  exact ⟨a,b,c⟩
 ·have:=((ZlW hch h1).2 t' h2).1
  have:=(ZbB h.net).1
  omega
 ·have hw:=Zas.1 hok.way i t h1
  unfold wayC at hw
  simp only [Nat.zero_add,Bool.and_eq_true,Bool.not_eq_true',Bool.and_eq_false_imp,decide_eq_true_iff,decide_eq_false_iff_not] at hw
  have h3:=hw.2 h2
  have:=(List.getElem?_eq_some_iff.1 h1).1
  omega
theorem WOk.state {w:Zd} (h:WOk w) {i:Nat} {o:Zf} (ho:w.orders[i]?=some o):Zfi w.network o w.now:=by
 have hok:=Zdk h.fit h.ok ho
 exact (Zhu h.fit.net h.net hok.gone (h.fit.way o (List.mem_of_getElem? ho)) hok.trip _).1 hok.st
theorem WOk.parts {w:Zd} (h:WOk w):(0≤w.now∧w.now≤100000)∧w.orders.length≤30∧w.closed.length≤20∧w.scans.length≤200∧w.skip.length≤50∧(w.scans.length≤w.made∧w.made≤1000000000)∧w.bookings.length≤120:=by
 have hb:=Zav (ZkT h.ok)
 have hv:=h.ok
 unfold ZcB at hv
 simp only [Bool.and_eq_true,Bool.not_eq_true',decide_eq_true_iff,decide_eq_false_iff_not] at hv
 obtain ⟨⟨⟨⟨⟨⟨⟨⟨⟨⟨h1,h2⟩,h3⟩,h4⟩,h5⟩,h6⟩,h7⟩,h8⟩,h9⟩,h10⟩,h11⟩:=hv
 exact ⟨h2,by omega,by omega,by omega,by omega,h7,hb.2⟩
structure ZlM (n:Za) (at_:Int) (p:List Zk × Int):Prop where
 good:∀ s∈p.1,ZB n s=some true∧s.at_≤at_
 len:p.1.length≤200
 made:p.1.length≤p.2∧p.2≤1000000000
theorem Znc {n:Za} {at_:Int} {skip:List Int} {p:List Zk × Int} {s:Zk} (h:ZlM n at_ p) (hs:ZB n s=some true∧s.at_≤at_):ZlM n at_ (ZeI skip p s):=by
 obtain ⟨h1,h2,h3⟩:=h
 unfold ZeI
 by_cases hm:p.2<1000000000
 ·simp only [if_pos hm]
  split
  ·rename_i hc
   exact ⟨fun x hx=>by rcases List.mem_append.1 hx with hx | hx
                       ·exact h1 x hx
                       ·obtain rfl:x=s:=by simpa using hx
                        exact hs,by simp; omega,by simp; omega⟩
  ·exact ⟨h1,h2,by simp only; omega⟩
 ·simp only [if_neg hm]
  split
  ·rename_i hc
   exact ⟨fun x hx=>by rcases List.mem_append.1 hx with hx | hx
                       ·exact h1 x hx
                       ·obtain rfl:x=s:=by simpa using hx
                        exact hs,by simp; omega,by simp; omega⟩
  ·exact ⟨h1,h2,by simp only; omega⟩
theorem Zlp {n:Za} {at_:Int} {skip:List Int}:∀ (l:List Zk) (p:List Zk × Int),ZlM n at_ p→(∀ s∈l,ZB n s=some true∧s.at_≤at_)→ZlM n at_ (l.foldl (ZeI skip) p)
 | [],p,h,_=>h
 | s::l,p,h,hl=>Zlp l _ (Znc h (hl s List.mem_cons_self)) fun x hx=>hl x (List.mem_cons_of_mem _ hx)
theorem ZmE {n:Za} {at_:Int} {o:Zf}:Zm o≤Zm (ZS n at_ o):=by
 unfold ZS
 split
 ·split
  ·rename_i t ht hc
   unfold arr1
   split <;> (unfold Zm; simp [hc.1])
  ·exact Int.le_refl _
 ·exact Int.le_refl _
theorem Zqr {n:Za} {at_:Int} {o:Zf}:Zm o≤Zm (ZfS n at_ o):=by
 unfold ZfS
 split
 ·split
  ·rename_i t ht hc
   unfold Zm
   simp [hc.1]
   omega
  ·exact Int.le_refl _
 ·exact Int.le_refl _
theorem Zq3 {n:Za} {at_:Int} {o:Zf}:Zm o≤Zm (Zf2 n at_ o):=Int.le_trans ZmE Zqr
theorem Zuc {α:Type} {l:List α} {p:α→Bool} {a b:Nat} (h:a≤b) (hk:(l.drop a).any p=false):(l.drop b).any p=false:=by
 obtain ⟨c,rfl⟩:∃ c,b=a+c:=⟨b-a,by omega⟩
 rw [← List.drop_drop]
 rw [List.any_eq_false] at hk ⊢
 exact fun x hx=>hk x (List.mem_of_mem_drop hx)
section
variable {w:Zd} (h:WOk w) {at_:Int} (hn:w.now≤at_) (hm:at_≤100000) (he:∀ o∈w.orders,∀ e,Zbj w.network o=some e→at_≤e)
include h hn hm he
theorem Zi2 {th:Int} {k:Int} {p:ByteArray} {t:Ze} (h1:1≤th∧th≤9999)
 (hk:(k=2∧p=⟨#[]⟩∧ZbJ w.network t=true∧Z7 w.network t≤at_)∨(k=3∧p=⟨#[]⟩∧ZbJ w.network t=true∧at_≤ZM w.network t)∨(k=4∧¬ idxV (Zb w.network) p<0∧t=⟨0,0⟩)):
 ZB w.network ⟨th,at_,k,p,t⟩=some true:=by
 have hnow:=h.parts.1
 have hpl:=Zaz w.network
 have hll:=h.fit.net.legs
 unfold ZB
 rw [h.net]
 simp only [Option.bind_some,ZbH,Bool.not_true,cond_false,decide_eq_true h1.1,decide_eq_true h1.2,decide_eq_true (show 0≤at_ by omega),decide_eq_true hm,Bool.and_self,(Zac h.fit.net).2,Zft (show (Zb w.network).length≤4194304 by omega),Zio h.fit.net h.net]
 rcases hk with ⟨rfl,rfl,h2,h3⟩ | ⟨rfl,rfl,h2,h3⟩ | ⟨rfl,h2,rfl⟩
 ·obtain ⟨a1,a2,_⟩:=ZI h.fit.net h.net h2
  simp [h2,a1,a2,h3]
 ·obtain ⟨a1,a2,_⟩:=ZI h.fit.net h.net h2
  simp [h2,a1,a2,h3]
 ·have:0≤idxV (Zb w.network) p:=by omega
  simp [this]
theorem Zs8:∀ s∈ZiE w at_,ZB w.network s=some true∧s.at_≤at_:=by
 have hlen:=h.parts.2.1
 intro s hs
 unfold ZiE at hs
 rcases List.mem_append.1 hs with hs | hs
 ·obtain ⟨j,o,ho,hj⟩:=ZfK hs
  have hlt:=(List.getElem?_eq_some_iff.1 ho).1
  have hok:=Zdk h.fit h.ok ho
  rw [Nat.zero_add] at hj
  unfold Zca at hj
  split at hj
  ·rename_i t ht
   have htb:=hok.trip t (List.mem_of_getElem? ht)
   split at hj
   ·rename_i hc
    rcases List.mem_cons.1 hj with rfl | hj
    ·exact ⟨Zi2 h hn hm he (by omega) (.inl ⟨rfl,rfl,htb,by omega⟩),Int.le_refl _⟩
    ·split at hj
     ·rename_i hd
      obtain rfl:=List.mem_singleton.1 hj
      have hto:¬ idxV (Zb w.network) o.to_<0:=by
       have:=Zd8 h.ok ho
       unfold ZcY at this
       simp only [Bool.and_eq_true,Bool.not_eq_true',decide_eq_false_iff_not] at this
       exact this.1.1.1.1.1.1.1.1.1.1.2
      exact ⟨Zi2 h hn hm he (by omega) (.inr (.inr ⟨rfl,by rw [hd]; exact hto,rfl⟩)),Int.le_refl _⟩
     ·cases hj
   ·cases hj
  ·cases hj
 ·obtain ⟨j,o,ho,hj⟩:=ZfK hs
  have hlt:=(List.getElem?_eq_some_iff.1 ho).1
  rw [List.length_map] at hlt
  rw [List.getElem?_map] at ho
  obtain ⟨o0,ho0,rfl⟩:=Option.map_eq_some_iff.1 ho
  have hok:=Zdk h.fit h.ok ho0
  rw [Nat.zero_add] at hj
  unfold Zfu at hj
  split at hj
  ·rename_i t ht
   rw [(ZhZ w.network at_ o0).way] at ht
   have htb:=hok.trip t (List.mem_of_getElem? ht)
   split at hj
   ·rename_i hc
    obtain rfl:=List.mem_singleton.1 hj
    exact ⟨Zi2 h hn hm he (by omega) (.inr (.inl ⟨rfl,rfl,htb,by omega⟩)),Int.le_refl _⟩
   ·cases hj
  ·cases hj
theorem ZmZ {i:Nat} {o:Zf} (ho:w.orders[i]?=some o) (s:List Zk) (m:Int):ZcY { w with orders:=w.orders.map (Zf2 w.network at_),now:=at_,scans:=s,made:=m } i (Zf2 w.network at_ o)=true:=by
 have hv:=Zd8 h.ok ho
 have hok:=Zdk h.fit h.ok ho
 have hl:=h.fit.way o (List.mem_of_getElem? ho)
 have hs:=Zhv w.network at_ o
 obtain ⟨k1,k2,_⟩:=Zts (h.way ho) (h.state ho) hn (he o (List.mem_of_getElem? ho))
 have hst:=(Zhu h.fit.net h.net k2.gone (by rw [hs.way]; exact hl) (by rw [hs.way]; exact hok.trip) at_).2 k1.ok
 have hcm:=Zq3 (n:=w.network) (at_:=at_) (o:=o)
 have hgn:=k2.gone
 unfold ZcY at hv ⊢
 simp only [Bool.and_eq_true,Bool.not_eq_true',decide_eq_true_iff,decide_eq_false_iff_not] at hv ⊢
 obtain ⟨⟨⟨⟨⟨⟨⟨⟨⟨⟨⟨h1,h2⟩,h3⟩,h4⟩,h5⟩,h6⟩,h7⟩,h8⟩,h9⟩,h10⟩,h11⟩,h12⟩:=hv
 have hend:endV w.network (Zf2 w.network at_ o)=endV w.network o:=by unfold endV; rw [hs.way,hs.from_]
 refine ⟨⟨⟨⟨⟨⟨⟨⟨⟨⟨⟨?_,?_⟩,?_⟩,?_⟩,?_⟩,?_⟩,?_⟩,?_⟩,?_⟩,?_⟩,?_⟩,?_⟩
 ·rw [hs.from_]; exact h1
 ·rw [hs.to_]; exact h2
 ·rw [hs.from_,hs.to_]; exact h3
 ·rw [hs.service]; exact h4
 ·rw [hs.weight]; exact h5
 ·rw [hs.at_]; exact ⟨h6.1,Int.le_trans h6.2 hn⟩
 ·rw [hs.due]; exact h7
 ·exact hgn
 ·rw [hs.way]
  refine (Zqb fun j x hx=>?_).trans h9
  unfold wayC
  simp only [hs.weight,hs.to_,hs.way]
 ·simp only [hend,hs.way,hs.from_,hs.at_]; exact h10
 ·rw [hst]; rfl
 ·rw [hs.way]
  exact Zuc (by omega) h12
theorem ZmY:WOk (ZbF w at_):=by
 have hp:=h.parts
 have hv:=h.ok
 have hsc:=Zlp (skip:=w.skip) (ZiE w at_) (w.scans,w.made) (n:=w.network) (at_:=at_) ⟨fun s hs=>?_,hp.2.2.2.1,hp.2.2.2.2.2.1⟩ (Zs8 h hn hm he)
 ·refine ⟨⟨h.fit.net,by simp only [ZbF,List.length_map]; exact h.fit.orders,h.fit.bookings,h.fit.closed,by have:=hsc.len; simp only [ZbF]; omega,h.fit.skip,fun o ho=>?_⟩,?_⟩
  ·simp only [ZbF,List.mem_map] at ho
   obtain ⟨o0,ho0,rfl⟩:=ho
   rw [(Zhv w.network at_ o0).way]
   exact h.fit.way o0 ho0
  ·unfold ZcB at hv ⊢
   simp only [Bool.and_eq_true,Bool.not_eq_true',decide_eq_true_iff,decide_eq_false_iff_not] at hv ⊢
   obtain ⟨⟨⟨⟨⟨⟨⟨⟨⟨⟨h1,h2⟩,h3⟩,h4⟩,h5⟩,h6⟩,h7⟩,h8⟩,h9⟩,h10⟩,h11⟩:=hv
   have hl:=hsc.len
   have hmd:=hsc.made
   refine ⟨⟨⟨⟨⟨⟨⟨⟨⟨⟨h1,?_⟩,?_⟩,h4⟩,?_⟩,h6⟩,?_⟩,h8⟩,?_⟩,?_⟩,?_⟩
   ·simp only [ZbF]; omega
   ·simp only [ZbF,List.length_map]; exact h3
   ·simp only [ZbF]; omega
   ·simp only [ZbF]; exact hmd
   ·refine Zas.2 fun j s hj=>?_
    obtain ⟨a,b⟩:=hsc.good s (List.mem_of_getElem? hj)
    show ((ZB w.network s).getD false && !decide (at_<s.at_))=true
    rw [a,decide_eq_false (show ¬ at_<s.at_ by omega)]; rfl
   ·refine Zas.2 fun j o hj=>?_
    simp only [ZbF,List.getElem?_map] at hj
    obtain ⟨o0,ho0,rfl⟩:=Option.map_eq_some_iff.1 hj
    rw [Nat.zero_add]
    exact ZmZ h hn hm he ho0 _ _
   ·unfold Zjg at h11 ⊢
    simp only [ZbF,List.foldl_map]
    rw [← h11]
    congr 1
    funext a o
    rw [(Zhv w.network at_ o).way]
 ·have:=ZgS h.fit h.ok hs
  exact ⟨this.1,by have:=this.2; omega⟩
end
def Zha (a:Int) (e:Option Int):Int:=match e with
 | some v=>if a<0∨v<a then v else a
 | none=>a
def Zc1 (w:Zd):Int:=w.orders.foldl (fun a o=>Zha a (Zbj w.network o)) (-1)
theorem Zkb {n:Za}:∀ (os:List Zf) (a:Int),(∀ o∈os,∀ e,Zbj n o=some e→0≤e)→a<0∨0≤a→
 (os.foldl (fun a o=>Zha a (Zbj n o)) a=a∧a<0∧∀ o∈os,Zbj n o=none)∨
 (0≤os.foldl (fun a o=>Zha a (Zbj n o)) a∧(os.foldl (fun a o=>Zha a (Zbj n o)) a=a∨∃ o∈os,Zbj n o=some (os.foldl (fun a o=>Zha a (Zbj n o)) a))∧(0≤a→os.foldl (fun a o=>Zha a (Zbj n o)) a≤a)∧∀ o∈os,∀ e,Zbj n o=some e→os.foldl (fun a o=>Zha a (Zbj n o)) a≤e)
 | [],a,_,ha=>by
  rcases ha with ha | ha
  ·exact .inl ⟨rfl,ha,fun o h=>by cases h⟩
  ·exact .inr ⟨ha,.inl rfl,fun _=>Int.le_refl _,fun o h=>by cases h⟩
 | o::os,a,h,ha=>by
  simp only [List.foldl_cons]
  have h0:=h o List.mem_cons_self
  have hs:=fun x hx=>h x (List.mem_cons_of_mem o hx)
  cases ho:Zbj n o with
  | none=>
   have e:Zha a none=a:=rfl
   rw [e]
   rcases Zkb os a hs ha with ⟨k1,k2,k3⟩ | ⟨k1,k2,k3,k4⟩
   ·exact .inl ⟨k1,k2,fun x hx=>by rcases List.mem_cons.1 hx with rfl | hx
                                   ·exact ho
                                   ·exact k3 x hx⟩
   ·refine .inr ⟨k1,?_,k3,fun x hx e he=>?_⟩
    ·rcases k2 with k2 | ⟨x,hx,k2⟩
     ·exact .inl k2
     ·exact .inr ⟨x,List.mem_cons_of_mem _ hx,k2⟩
    ·rcases List.mem_cons.1 hx with rfl | hx
     ·rw [ho] at he; cases he
     ·exact k4 x hx e he
  | some v=>
   have hv:=h0 v ho
   have e:0≤Zha a (some v)∧Zha a (some v)≤v∧(0≤a→Zha a (some v)≤a)∧(Zha a (some v)=a∨Zha a (some v)=v):=by
    unfold Zha; simp only; split <;> omega
   obtain ⟨e1,e2,e3,e4⟩:=e
   rcases Zkb os (Zha a (some v)) hs (.inr e1) with ⟨k1,k2,k3⟩ | ⟨k1,k2,k3,k4⟩
   ·omega
   ·have k3':=k3 e1
    refine .inr ⟨k1,?_,fun ha=>by have:=e3 ha; omega,fun x hx e he=>?_⟩
    ·rcases k2 with k2 | ⟨x,hx,k2⟩
     ·rcases e4 with e4 | e4
      ·exact .inl (by rw [k2,e4])
      ·exact .inr ⟨o,List.mem_cons_self,by rw [k2,e4,ho]⟩
     ·exact .inr ⟨x,List.mem_cons_of_mem _ hx,k2⟩
    ·rcases List.mem_cons.1 hx with rfl | hx
     ·rw [ho] at he; obtain rfl:=Option.some.inj he; omega
     ·exact k4 x hx e he
theorem ZrS {n:Za} {o:Zf} (h:ZiK n o) {e:Int} (he:Zbj n o=some e):0≤e∧e≤100000:=by
 unfold Zbj at he
 cases ht:o.way[o.gone.toNat]? with
 | none=>rw [ht] at he; cases he
 | some t=>
  rw [ht] at he
  obtain ⟨a,b,c⟩:=h.trip t (List.mem_of_getElem? ht)
  simp only [Option.map_some,Option.some.injEq] at he
  subst he
  split <;> omega
theorem Ziu {w:Zd} (h:WOk w):(Zc1 w=-1∧∀ o∈w.orders,Zbj w.network o=none)∨
 (w.now<Zc1 w∧Zc1 w≤100000∧(∃ o∈w.orders,Zbj w.network o=some (Zc1 w))∧∀ o∈w.orders,∀ e,Zbj w.network o=some e→Zc1 w≤e):=by
 have hp:∀ o∈w.orders,∀ e,Zbj w.network o=some e→0≤e∧e≤100000:=fun o ho e he=>by
  obtain ⟨i,hi,rfl⟩:=List.getElem_of_mem ho
  exact ZrS (h.way (List.getElem?_eq_getElem hi)) he
 rcases Zkb w.orders (-1) (fun o ho e he=>(hp o ho e he).1) (.inl (by omega)) with ⟨k1,_,k3⟩ | ⟨k1,k2,_,k4⟩
 ·exact .inl ⟨k1,k3⟩
 ·rcases k2 with k2 | ⟨o,ho,k2⟩
  ·exact absurd k1 (by rw [k2]; omega)
  ·refine .inr ⟨?_,(hp o ho _ k2).2,⟨o,ho,k2⟩,k4⟩
   obtain ⟨i,hi,rfl⟩:=List.getElem_of_mem ho
   have hs:=Zgs (h.state (List.getElem?_eq_getElem hi)) (h.way (List.getElem?_eq_getElem hi)).gone
   exact hs.next _ k2
theorem Zgi {w:Zd} (h:WOk w) (hn:0≤Zc1 w):WOk (ZbF w (Zc1 w))∧w.now<Zc1 w∧Zc1 w≤100000:=by
 rcases Ziu h with ⟨k,_⟩ | ⟨k1,k2,k3,k4⟩
 ·omega
 ·exact ⟨ZmY h (by omega) k2 k4,k1,k2⟩
def Zgc (w:Zd):Nat:=(w.orders.map Zeu).sum
theorem ZvC {α:Type} {f g:α→Nat}:∀ {l:List α},(∀ x∈l,f x≤g x)→(∃ x∈l,f x<g x)→(l.map f).sum<(l.map g).sum
 | [],_,⟨x,h,_⟩=>by cases h
 | a::l,h,⟨x,hx,hlt⟩=>by
  have h1:=h a List.mem_cons_self
  have h2:(l.map f).sum≤(l.map g).sum:=sum_le fun x hx=>h x (List.mem_cons_of_mem _ hx)
  simp only [List.map_cons,List.sum_cons]
  rcases List.mem_cons.1 hx with rfl | hx
  ·omega
  ·have:=ZvC (fun x hx=>h x (List.mem_cons_of_mem _ hx)) ⟨x,hx,hlt⟩
   omega
where
 sum_le {α:Type} {f g:α→Nat}:∀ {l:List α},(∀ x∈l,f x≤g x)→(l.map f).sum≤(l.map g).sum
 | [],_=>Nat.le_refl _
 | a::l,h=>by
  have h1:=h a List.mem_cons_self
  have h2:=sum_le fun x hx=>h x (List.mem_cons_of_mem _ hx)
  simp only [List.map_cons,List.sum_cons]
  omega
theorem Zgj {w:Zd} (h:WOk w) (hn:0≤Zc1 w):Zgc (ZbF w (Zc1 w))<Zgc w:=by
 rcases Ziu h with ⟨k,_⟩ | ⟨k1,k2,⟨o,ho,k3⟩,k4⟩
 ·omega
 ·have hstep:∀ x∈w.orders,Zeu (Zf2 w.network (Zc1 w) x)≤Zeu x∧(Zbj w.network x=some (Zc1 w)→Zeu (Zf2 w.network (Zc1 w) x)<Zeu x):=fun x hx=>by
   obtain ⟨i,hi,rfl⟩:=List.getElem_of_mem hx
   have hi':=List.getElem?_eq_getElem hi
   exact (Zts (h.way hi') (h.state hi') (by omega) (k4 _ hx)).2.2
  unfold Zgc ZbF
  simp only [List.map_map]
  exact ZvC (f:=Zeu ∘ Zf2 w.network (Zc1 w)) (fun x hx=>(hstep x hx).1) ⟨o,ho,(hstep o ho).2 k3⟩
def runV:Nat→Zd→Int→Zd
 | 0,w,_=>w
 | k+1,w,u=>if Zc1 w<0∨u<Zc1 w then w else runV k (ZbF w (Zc1 w)) u
theorem ZnS {w:Zd} (h:WOk w) (h0:Zgc w=0):Zc1 w=-1:=by
 rcases Ziu h with ⟨k,_⟩ | ⟨k1,k2,⟨o,ho,k3⟩,k4⟩
 ·exact k
 ·exfalso
  have hz:Zeu o=0:=by
   unfold Zgc at h0
   have:=List.sum_eq_zero_iff_forall_eq_nat.1 h0 (Zeu o) (List.mem_map_of_mem ho)
   exact this
  obtain ⟨i,hi,rfl⟩:=List.getElem_of_mem ho
  have hi':=List.getElem?_eq_getElem hi
  rw [ZtC (h.way hi') (h.state hi') hz] at k3
  cases k3
structure ZlL (w w':Zd):Prop where
 network:w'.network=w.network
 bookings:w'.bookings=w.bookings
 closed:w'.closed=w.closed
 skip:w'.skip=w.skip
 len:w'.orders.length=w.orders.length
 ord:∀ (i:Nat) (o o':Zf),w.orders[i]?=some o→w'.orders[i]?=some o'→Zgg o o'
theorem ZlL.refl (w:Zd):ZlL w w:=⟨rfl,rfl,rfl,rfl,rfl,fun i o o' h h'=>by rw [h] at h'; obtain rfl:=Option.some.inj h'; exact .refl o⟩
theorem ZlL.trans {a b c:Zd} (h:ZlL a b) (k:ZlL b c):ZlL a c:=by
 refine ⟨k.network.trans h.network,k.bookings.trans h.bookings,k.closed.trans h.closed,k.skip.trans h.skip,k.len.trans h.len,fun i o o' h1 h2=>?_⟩
 have hlt:=(List.getElem?_eq_some_iff.1 h1).1
 have hb:b.orders[i]?=some (b.orders[i]'(by rw [h.len]; exact hlt)):=List.getElem?_eq_getElem _
 exact (h.ord i o _ h1 hb).trans (k.ord i _ o' hb h2)
theorem Zor (w:Zd) (at_:Int):ZlL w (ZbF w at_):=by
 refine ⟨rfl,rfl,rfl,rfl,by simp [ZbF],fun i o o' h h'=>?_⟩
 simp only [ZbF,List.getElem?_map,h,Option.map_some,Option.some.injEq] at h'
 subst h'
 exact Zhv _ _ o
theorem Zvy:∀ (k:Nat) (w:Zd) (u:Int),WOk w→Zgc w≤k→u≤100000→WOk (runV k w u)∧(Zc1 (runV k w u)<0∨u<Zc1 (runV k w u))∧ZlL w (runV k w u)∧(w.now≤u→(runV k w u).now≤u)
 | 0,w,u,h,h0,hu=>⟨h,.inl (by have:=ZnS h (by omega); show Zc1 w<0; omega),.refl w,fun h=>h⟩
 | k+1,w,u,h,h0,hu=>by
  unfold runV
  split
  ·rename_i hc
   exact ⟨h,hc,.refl w,fun h=>h⟩
  ·rename_i hc
   obtain ⟨a,b,c⟩:=Zgi h (by omega)
   have ht:=Zgj h (by omega)
   obtain ⟨r1,r2,r3,r4⟩:=Zvy k (ZbF w (Zc1 w)) u a (by omega) hu
   exact ⟨r1,r2,(Zor w _).trans r3,fun _=>r4 (by show Zc1 w≤u; omega)⟩
theorem Zmm:∀ (k j:Nat) (w:Zd) (u:Int),WOk w→Zgc w≤k→u≤100000→runV (k+j) w u=runV k w u
 | 0,j,w,u,h,h0,hu=>by
  have:=ZnS h (by omega)
  cases j with
  | zero=>rfl
  | succ j=>show runV (0+j+1) w u=w
            unfold runV
            rw [if_pos (.inl (by omega))]
 | k+1,j,w,u,h,h0,hu=>by
  rw [show k+1+j=(k+j)+1 by omega]
  unfold runV
  split
  ·rfl
  ·rename_i hc
   obtain ⟨a,b,c⟩:=Zgi h (by omega)
   have ht:=Zgj h (by omega)
   exact Zmm k j _ u a (by omega) hu
theorem Zw6 {k j:Nat} {w:Zd} {u:Int} (h:WOk w) (hk:Zgc w≤k) (hj:Zgc w≤j) (hu:u≤100000):runV k w u=runV j w u:=by
 obtain ⟨a,rfl⟩:∃ a,k=Zgc w+a:=⟨k-Zgc w,by omega⟩
 obtain ⟨b,rfl⟩:∃ b,j=Zgc w+b:=⟨j-Zgc w,by omega⟩
 rw [Zmm _ a w u h (Nat.le_refl _) hu,Zmm _ b w u h (Nat.le_refl _) hu]
theorem Ztb {w:Zd} (h:WOk w) {u:Int} (hu:w.now≤u) (hm:u≤100000) (hn:Zc1 w<0∨u<Zc1 w):WOk { w with now:=u }:=by
 have he:∀ o∈w.orders,∀ e,Zbj w.network o=some e→u<e:=fun o ho e he=>by
  rcases Ziu h with ⟨_,k⟩ | ⟨k1,_,_,k4⟩
  ·rw [k o ho] at he; cases he
  ·have:=k4 o ho e he
   have:=h.parts.1
   omega
 have hst:∀ o∈w.orders,Zf2 w.network u o=o:=fun o ho=>by
  have hev:=he o ho
  have e1:ZS w.network u o=o:=by
   unfold ZS
   cases ht:o.way[o.gone.toNat]? with
   | none=>rfl
   | some t=>
    simp only
    rw [if_neg]
    rintro ⟨c1,c2⟩
    have:=hev u (by unfold Zbj; rw [ht]; simp [c1,c2])
    omega
  unfold Zf2
  rw [e1]
  unfold ZfS
  cases ht:o.way[o.gone.toNat]? with
  | none=>rfl
  | some t=>
   simp only
   rw [if_neg]
   rintro ⟨c1,c2⟩
   have:=hev u (by unfold Zbj; rw [ht]; simp [c1,c2])
   omega
 have hmap:w.orders.map (Zf2 w.network u)=w.orders:=by
  conv=>rhs; rw [← List.map_id w.orders]
  exact List.map_congr_left fun o ho=>hst o ho
 have hok:=ZmY h hu hm (fun o ho e h'=>by have:=he o ho e h'; omega)
 have hv:=h.ok
 have hk:=hok.ok
 refine ⟨⟨h.fit.net,h.fit.orders,h.fit.bookings,h.fit.closed,h.fit.scans,h.fit.skip,h.fit.way⟩,?_⟩
 unfold ZcB at hv hk ⊢
 simp only [Bool.and_eq_true,Bool.not_eq_true',decide_eq_true_iff,decide_eq_false_iff_not] at hv hk ⊢
 obtain ⟨⟨⟨⟨⟨⟨⟨⟨⟨⟨h1,h2⟩,h3⟩,h4⟩,h5⟩,h6⟩,h7⟩,h8⟩,h9⟩,h10⟩,h11⟩:=hv
 obtain ⟨⟨⟨⟨⟨⟨⟨⟨⟨⟨k1,k2⟩,k3⟩,k4⟩,k5⟩,k6⟩,k7⟩,k8⟩,k9⟩,k10⟩,k11⟩:=hk
 refine ⟨⟨⟨⟨⟨⟨⟨⟨⟨⟨h1,⟨by omega,hm⟩⟩,h3⟩,h4⟩,h5⟩,h6⟩,h7⟩,h8⟩,?_⟩,?_⟩,h11⟩
 ·refine Zas.2 fun j s hj=>?_
  have:=Zas.1 h9 j s hj
  unfold Zk0 at this ⊢
  simp only [Bool.and_eq_true,Bool.not_eq_true',decide_eq_false_iff_not] at this ⊢
  exact ⟨this.1,by omega⟩
 ·refine Zas.2 fun j o hj=>?_
  have hj':(ZbF w u).orders[j]?=some o:=by simp only [ZbF,hmap]; exact hj
  have:=Zas.1 k10 j o hj'
  have e:∀ i,ZcY (ZbF w u) i o=ZcY { w with now:=u } i o:=fun i=>rfl
  rw [← e]; exact this
def advV (w:Zd) (u:Int):Zd:={ runV (Zgc w) w u with now:=u }
theorem Zrn {w:Zd} (h:WOk w) {u:Int} (hu:w.now≤u) (hm:u≤100000):WOk (advV w u)∧ZlL w (advV w u)∧(Zc1 (advV w u)<0∨u<Zc1 (advV w u)):=by
 obtain ⟨a,b,c,d⟩:=Zvy _ w u h (Nat.le_refl _) hm
 exact ⟨Ztb a (d hu) hm b,⟨c.network,c.bookings,c.closed,c.skip,c.len,c.ord⟩,b⟩
set_option maxHeartbeats 16000000
def Zg8 (l:List Int) (n:Int) (s0:Int):Option (Int ⊕ (Unit ⊕ Bool)):=
 cond (decide (s0<(l.length:Int)))
 ((getI l s0).bind fun y1=>
 cond (decide (y1=n))
 (some (.inr (.inr true)))
 (some (.inl (w64 (s0+1)))))
 (some (.inr (.inl ())))
instance (l:List Int) (n:Int):ZP (Zg8 l n):=⟨fun s0=>(.un::vi n::(U 5 (.sl (l.map cInt)::vi (l.length:Int)::vi s0::(U 7 [])))),fun s0=>[]⟩
def Zf8 (l:List Int) (n:Int):Option Bool:=
 (Zj (Zg8 l n) NN 0).bind (ZY (fun o0=>
 some false) (fun r=>some r))
instance (l:List Int) (n:Int):CT Tryz.prog (Zf8 l n):=⟨204,[.sl (l.map cInt),vi n],[],fun r=>vb r,fun r=>[],fun H=>by replace H:=H0 H; unfold Zf8 at H; exact Zh Tryz.func204 rfl Tryz.ntmps204 Tryz.results204 fun Q hQ hQn=>wk3⟩
def Za1 (w:Zd) (s:Zk):Option Zd:=
 (Zf8 w.skip (if 1000000000<(w64 (w.made+1)) then 1000000000 else (w64 (w.made+1)))).bind fun y1=>
 cond (!y1)
 (cond (decide ((w.scans.length:Int)<200))
 ((chk (ZQ ((w.scans:List Zk).length+([s]:List Zk).length) 56)).bind fun _=>
 some (⟨w.network,w.orders,w.bookings,w.closed,w.now,((w.scans:List Zk)++[s]),w.skip,(if 1000000000<(w64 (w.made+1)) then 1000000000 else (w64 (w.made+1)))⟩:Zd))
 (some (⟨w.network,w.orders,w.bookings,w.closed,w.now,w.scans,w.skip,(if 1000000000<(w64 (w.made+1)) then 1000000000 else (w64 (w.made+1)))⟩:Zd)))
 (some (⟨w.network,w.orders,w.bookings,w.closed,w.now,w.scans,w.skip,(if 1000000000<(w64 (w.made+1)) then 1000000000 else (w64 (w.made+1)))⟩:Zd))
instance (w:Zd) (s:Zk):CT Tryz.prog (Za1 w s):=⟨138,[.be 0 0 0,.ag (ZF s)],[some ⟨41,10,[[.ms 1,.ms 2,vi w.network.change,.ms 3,.ms 4,.ms 5,vi w.now,.ms 6,.ms 7,vi w.made]]⟩,some ⟨67,6,w.network.legs.map cLeg⟩,some ⟨3,1,w.network.off.map cInt⟩,some ⟨62,11,w.orders.map Zw⟩,some ⟨135,4,w.bookings.map Zg⟩,some ⟨55,2,w.closed.map Zs⟩,some ⟨130,6,w.scans.map ZF⟩,some ⟨3,1,w.skip.map cInt⟩],fun r=>.tu [],fun r=>[some ⟨41,10,[[.ms 1,.ms 2,vi r.network.change,.ms 3,.ms 4,.ms 5,vi r.now,.ms 8,.ms 7,vi r.made]]⟩,some ⟨67,6,r.network.legs.map cLeg⟩,some ⟨3,1,r.network.off.map cInt⟩,some ⟨62,11,r.orders.map Zw⟩,some ⟨135,4,r.bookings.map Zg⟩,some ⟨55,2,r.closed.map Zs⟩,none,some ⟨3,1,r.skip.map cInt⟩,some ⟨130,6,r.scans.map ZF⟩],fun H=>by replace H:=H0 H; unfold Za1 at H; exact Zh Tryz.func138 rfl Tryz.ntmps138 Tryz.results138 fun Q hQ hQn=>wk3⟩
def ZbO (w:Zd) (at1_:Int) (s0:Int × Int × Int × Int × (List YLeg) × (List Int) × (List Zf) × (List Zc) × (List Ze) × (List Int) × (List Zk)):Option ((Int × Int × Int × Int × (List YLeg) × (List Int) × (List Zf) × (List Zc) × (List Ze) × (List Int) × (List Zk)) ⊕ (Int × Int × Int × (List YLeg) × (List Int) × (List Zf) × (List Zc) × (List Ze) × (List Int) × (List Zk))):=
 cond (decide (s0.1<(w.orders.length:Int)))
 ((getI s0.2.2.2.2.2.2.1 s0.1).bind fun y1=>
 cond (!decide (y1.state=2))
 (some (.inl ((w64 (s0.1+1)),s0.2.1,s0.2.2.1,s0.2.2.2.1,s0.2.2.2.2.1,s0.2.2.2.2.2.1,s0.2.2.2.2.2.2.1,s0.2.2.2.2.2.2.2.1,s0.2.2.2.2.2.2.2.2.1,s0.2.2.2.2.2.2.2.2.2.1,s0.2.2.2.2.2.2.2.2.2.2)))
 ((getI y1.way y1.gone).bind fun y2=>
 (ZO (⟨s0.2.2.2.2.1,s0.2.2.2.2.2.1,w.network.change⟩:Za) y2).bind fun y3=>
 cond (!decide (y3=at1_))
 (some (.inl ((w64 (s0.1+1)),s0.2.1,s0.2.2.1,s0.2.2.2.1,s0.2.2.2.2.1,s0.2.2.2.2.2.1,s0.2.2.2.2.2.2.1,s0.2.2.2.2.2.2.2.1,s0.2.2.2.2.2.2.2.2.1,s0.2.2.2.2.2.2.2.2.2.1,s0.2.2.2.2.2.2.2.2.2.2)))
 ((rgI s0.2.2.2.2.2.2.1 s0.1).bind fun y4=>
 (getI y4.way y4.gone).bind fun y5=>
 (rgI s0.2.2.2.2.2.2.1 s0.1).bind fun y6=>
 (getI s0.2.2.2.2.1 y5.leg).bind fun y7=>
 (rgI s0.2.2.2.2.2.2.1 s0.1).bind fun y8=>
 (frzL (s0.2.2.2.2.2.2.1.set (Int.toNat s0.1) (⟨y6.from_,y6.to_,y6.service,y6.weight,y6.at_,y6.due,y6.way,(w64 (y6.gone+1)),1,y7.to_,y6.ended⟩:Zf)) (fun y9=>(.be 0 0 0::vi at1_::.un::.un::.be 9 0 0::vi s0.1::.be 3 (Int.toNat s0.1) 0::.be 10 0 0::(U 10 (vi (w.orders.length:Int)::vi s0.1::(U 167 []))))) (fun y9=>[some ⟨41,10,[[.ms 1,.ms 2,vi s0.2.1,.ms 3,.ms 4,.ms 5,vi s0.2.2.1,.ms 8,.ms 7,vi s0.2.2.2.1]]⟩,some ⟨67,6,s0.2.2.2.2.1.map cLeg⟩,some ⟨3,1,s0.2.2.2.2.2.1.map cInt⟩,some ⟨62,11,y9.map Zw⟩,some ⟨135,4,s0.2.2.2.2.2.2.2.1.map Zg⟩,some ⟨55,2,s0.2.2.2.2.2.2.2.2.1.map Zs⟩,none,some ⟨3,1,s0.2.2.2.2.2.2.2.2.2.1.map cInt⟩,some ⟨130,6,s0.2.2.2.2.2.2.2.2.2.2.map ZF⟩,some ⟨35,3,[[.ms 1,.ms 2,vi w.network.change]]⟩,some ⟨55,2,[[vi y5.leg,vi y5.day]]⟩])).bind fun y9=>
 (rhoM [0,1,2,3,4,5,8,7]).bind fun _=>
 (Za1 (⟨(⟨s0.2.2.2.2.1,s0.2.2.2.2.2.1,s0.2.1⟩:Za),y9,s0.2.2.2.2.2.2.2.1,s0.2.2.2.2.2.2.2.2.1,s0.2.2.1,s0.2.2.2.2.2.2.2.2.2.2,s0.2.2.2.2.2.2.2.2.2.1,s0.2.2.2.1⟩:Zd) (⟨(w64 (s0.1+1)),at1_,2,⟨#[]⟩,y5⟩:Zk)).bind fun y10=>
 (rgI y10.orders s0.1).bind fun y11=>
 cond (decide (y11.place=y11.to_))
 ((frzL (y10.orders.set (Int.toNat s0.1) (⟨y11.from_,y11.to_,y11.service,y11.weight,y11.at_,y11.due,y11.way,y11.gone,3,y11.place,at1_⟩:Zf)) (fun y12=>(.be 0 0 0::vi at1_::.un::.un::.be 9 0 0::vi s0.1::.be 3 (Int.toNat s0.1) 0::(U 11 (vi (w.orders.length:Int)::vi s0.1::(U 167 []))))) (fun y12=>[some ⟨41,10,[[.ms 1,.ms 2,vi y10.network.change,.ms 3,.ms 4,.ms 5,vi y10.now,.ms 8,.ms 7,vi y10.made]]⟩,some ⟨67,6,y10.network.legs.map cLeg⟩,some ⟨3,1,y10.network.off.map cInt⟩,some ⟨62,11,y12.map Zw⟩,some ⟨135,4,y10.bookings.map Zg⟩,some ⟨55,2,y10.closed.map Zs⟩,none,some ⟨3,1,y10.skip.map cInt⟩,some ⟨130,6,y10.scans.map ZF⟩,some ⟨35,3,[[.ms 1,.ms 2,vi w.network.change]]⟩])).bind fun y12=>
 (rgI y12 s0.1).bind fun y13=>
 (rhoM [0,1,2,3,4,5,8,7]).bind fun _=>
 (Za1 (⟨y10.network,y12,y10.bookings,y10.closed,y10.now,y10.scans,y10.skip,y10.made⟩:Zd) (⟨(w64 (s0.1+1)),at1_,4,y13.place,(⟨0,0⟩:Ze)⟩:Zk)).bind fun y14=>
 some (.inl ((w64 (s0.1+1)),y14.network.change,y14.now,y14.made,y14.network.legs,y14.network.off,y14.orders,y14.bookings,y14.closed,y14.skip,y14.scans)))
 (some (.inl ((w64 (s0.1+1)),y10.network.change,y10.now,y10.made,y10.network.legs,y10.network.off,y10.orders,y10.bookings,y10.closed,y10.skip,y10.scans))))))
 (some (.inr (s0.2.1,s0.2.2.1,s0.2.2.2.1,s0.2.2.2.2.1,s0.2.2.2.2.2.1,s0.2.2.2.2.2.2.1,s0.2.2.2.2.2.2.2.1,s0.2.2.2.2.2.2.2.2.1,s0.2.2.2.2.2.2.2.2.2.1,s0.2.2.2.2.2.2.2.2.2.2)))
instance (w:Zd) (at1_:Int):ZP (ZbO w at1_):=⟨fun s0=>(.be 0 0 0::vi at1_::.un::.un::.be 9 0 0::(U 13 (vi (w.orders.length:Int)::vi s0.1::(U 167 [])))),fun s0=>[some ⟨41,10,[[.ms 1,.ms 2,vi s0.2.1,.ms 3,.ms 4,.ms 5,vi s0.2.2.1,.ms 8,.ms 7,vi s0.2.2.2.1]]⟩,some ⟨67,6,s0.2.2.2.2.1.map cLeg⟩,some ⟨3,1,s0.2.2.2.2.2.1.map cInt⟩,some ⟨62,11,s0.2.2.2.2.2.2.1.map Zw⟩,some ⟨135,4,s0.2.2.2.2.2.2.2.1.map Zg⟩,some ⟨55,2,s0.2.2.2.2.2.2.2.2.1.map Zs⟩,none,some ⟨3,1,s0.2.2.2.2.2.2.2.2.2.1.map cInt⟩,some ⟨130,6,s0.2.2.2.2.2.2.2.2.2.2.map ZF⟩,some ⟨35,3,[[.ms 1,.ms 2,vi w.network.change]]⟩]⟩
def ZbP (w:Zd) (at1_:Int) (o0:Int × Int × Int × (List YLeg) × (List Int) × (List Zf) × (List Zc) × (List Ze) × (List Int) × (List Zk)) (s1:Int × Int × Int × Int × (List YLeg) × (List Int) × (List Zf) × (List Zc) × (List Ze) × (List Int) × (List Zk)):Option ((Int × Int × Int × Int × (List YLeg) × (List Int) × (List Zf) × (List Zc) × (List Ze) × (List Int) × (List Zk)) ⊕ (Int × Int × Int × (List YLeg) × (List Int) × (List Zf) × (List Zc) × (List Ze) × (List Int) × (List Zk))):=
 cond (decide (s1.1<(o0.2.2.2.2.2.1.length:Int)))
 ((getI s1.2.2.2.2.2.2.1 s1.1).bind fun y15=>
 cond (decide (y15.state=1))
 (cond (decide (y15.gone<(y15.way.length:Int)))
 ((getI y15.way y15.gone).bind fun y16=>
 (ZH (⟨s1.2.2.2.2.1,s1.2.2.2.2.2.1,w.network.change⟩:Za) y16).bind fun y17=>
 cond (decide (y17=at1_))
 ((rgI s1.2.2.2.2.2.2.1 s1.1).bind fun y18=>
 (frzL (s1.2.2.2.2.2.2.1.set (Int.toNat s1.1) (⟨y18.from_,y18.to_,y18.service,y18.weight,y18.at_,y18.due,y18.way,y18.gone,2,⟨#[]⟩,y18.ended⟩:Zf)) (fun y19=>(.be 0 0 0::vi at1_::.un::.un::.be 9 0 0::(U 3 (vi s1.1::.be 3 (Int.toNat s1.1) 0::(U 107 (vi (o0.2.2.2.2.2.1.length:Int)::vi s1.1::(U 68 []))))))) (fun y19=>[some ⟨41,10,[[.ms 1,.ms 2,vi s1.2.1,.ms 3,.ms 4,.ms 5,vi s1.2.2.1,.ms 8,.ms 7,vi s1.2.2.2.1]]⟩,some ⟨67,6,s1.2.2.2.2.1.map cLeg⟩,some ⟨3,1,s1.2.2.2.2.2.1.map cInt⟩,some ⟨62,11,y19.map Zw⟩,some ⟨135,4,s1.2.2.2.2.2.2.2.1.map Zg⟩,some ⟨55,2,s1.2.2.2.2.2.2.2.2.1.map Zs⟩,none,some ⟨3,1,s1.2.2.2.2.2.2.2.2.2.1.map cInt⟩,some ⟨130,6,s1.2.2.2.2.2.2.2.2.2.2.map ZF⟩,some ⟨35,3,[[.ms 1,.ms 2,vi w.network.change]]⟩])).bind fun y19=>
 (drwL 8 [15]).bind fun _=>
 (rgI y19 s1.1).bind fun y20=>
 (getI y20.way y20.gone).bind fun y21=>
 (rhoM [0,1,2,3,4,5,8,7]).bind fun _=>
 (Za1 (⟨(⟨s1.2.2.2.2.1,s1.2.2.2.2.2.1,s1.2.1⟩:Za),y19,s1.2.2.2.2.2.2.2.1,s1.2.2.2.2.2.2.2.2.1,s1.2.2.1,s1.2.2.2.2.2.2.2.2.2.2,s1.2.2.2.2.2.2.2.2.2.1,s1.2.2.2.1⟩:Zd) (⟨(w64 (s1.1+1)),at1_,3,⟨#[]⟩,y21⟩:Zk)).bind fun y22=>
 some (.inl ((w64 (s1.1+1)),y22.network.change,y22.now,y22.made,y22.network.legs,y22.network.off,y22.orders,y22.bookings,y22.closed,y22.skip,y22.scans)))
 (some (.inl ((w64 (s1.1+1)),s1.2.1,s1.2.2.1,s1.2.2.2.1,s1.2.2.2.2.1,s1.2.2.2.2.2.1,s1.2.2.2.2.2.2.1,s1.2.2.2.2.2.2.2.1,s1.2.2.2.2.2.2.2.2.1,s1.2.2.2.2.2.2.2.2.2.1,s1.2.2.2.2.2.2.2.2.2.2))))
 (some (.inl ((w64 (s1.1+1)),s1.2.1,s1.2.2.1,s1.2.2.2.1,s1.2.2.2.2.1,s1.2.2.2.2.2.1,s1.2.2.2.2.2.2.1,s1.2.2.2.2.2.2.2.1,s1.2.2.2.2.2.2.2.2.1,s1.2.2.2.2.2.2.2.2.2.1,s1.2.2.2.2.2.2.2.2.2.2))))
 (some (.inl ((w64 (s1.1+1)),s1.2.1,s1.2.2.1,s1.2.2.2.1,s1.2.2.2.2.1,s1.2.2.2.2.2.1,s1.2.2.2.2.2.2.1,s1.2.2.2.2.2.2.2.1,s1.2.2.2.2.2.2.2.2.1,s1.2.2.2.2.2.2.2.2.2.1,s1.2.2.2.2.2.2.2.2.2.2))))
 (some (.inr (s1.2.1,s1.2.2.1,s1.2.2.2.1,s1.2.2.2.2.1,s1.2.2.2.2.2.1,s1.2.2.2.2.2.2.1,s1.2.2.2.2.2.2.2.1,s1.2.2.2.2.2.2.2.2.1,s1.2.2.2.2.2.2.2.2.2.1,s1.2.2.2.2.2.2.2.2.2.2)))
instance (w:Zd) (at1_:Int) (o0:Int × Int × Int × (List YLeg) × (List Int) × (List Zf) × (List Zc) × (List Ze) × (List Int) × (List Zk)):ZP (ZbP w at1_ o0):=⟨fun s1=>(.be 0 0 0::vi at1_::.un::.un::.be 9 0 0::(U 112 (vi (o0.2.2.2.2.2.1.length:Int)::vi s1.1::(U 68 [])))),fun s1=>[some ⟨41,10,[[.ms 1,.ms 2,vi s1.2.1,.ms 3,.ms 4,.ms 5,vi s1.2.2.1,.ms 8,.ms 7,vi s1.2.2.2.1]]⟩,some ⟨67,6,s1.2.2.2.2.1.map cLeg⟩,some ⟨3,1,s1.2.2.2.2.2.1.map cInt⟩,some ⟨62,11,s1.2.2.2.2.2.2.1.map Zw⟩,some ⟨135,4,s1.2.2.2.2.2.2.2.1.map Zg⟩,some ⟨55,2,s1.2.2.2.2.2.2.2.2.1.map Zs⟩,none,some ⟨3,1,s1.2.2.2.2.2.2.2.2.2.1.map cInt⟩,some ⟨130,6,s1.2.2.2.2.2.2.2.2.2.2.map ZF⟩,some ⟨35,3,[[.ms 1,.ms 2,vi w.network.change]]⟩]⟩
def Zec (w:Zd) (at1_:Int):Option Zd:=
 (Zj (ZbO w at1_) NN (0,w.network.change,w.now,w.made,w.network.legs,w.network.off,w.orders,w.bookings,w.closed,w.skip,w.scans)).bind (fun o0=>
 (Zj (ZbP w at1_ o0) NN (0,o0.1,o0.2.1,o0.2.2.1,o0.2.2.2.1,o0.2.2.2.2.1,o0.2.2.2.2.2.1,o0.2.2.2.2.2.2.1,o0.2.2.2.2.2.2.2.1,o0.2.2.2.2.2.2.2.2.1,o0.2.2.2.2.2.2.2.2.2)).bind (fun o1=>
 some (⟨(⟨o1.2.2.2.1,o1.2.2.2.2.1,o1.1⟩:Za),o1.2.2.2.2.2.1,o1.2.2.2.2.2.2.1,o1.2.2.2.2.2.2.2.1,at1_,o1.2.2.2.2.2.2.2.2.2,o1.2.2.2.2.2.2.2.2.1,o1.2.2.1⟩:Zd)))
instance (w:Zd) (at1_:Int):CT Tryz.prog (Zec w at1_):=⟨83,[.be 0 0 0,vi at1_],[some ⟨41,10,[[.ms 1,.ms 2,vi w.network.change,.ms 3,.ms 4,.ms 5,vi w.now,.ms 6,.ms 7,vi w.made]]⟩,some ⟨67,6,w.network.legs.map cLeg⟩,some ⟨3,1,w.network.off.map cInt⟩,some ⟨62,11,w.orders.map Zw⟩,some ⟨135,4,w.bookings.map Zg⟩,some ⟨55,2,w.closed.map Zs⟩,some ⟨130,6,w.scans.map ZF⟩,some ⟨3,1,w.skip.map cInt⟩],fun r=>.tu [],fun r=>[some ⟨41,10,[[.ms 1,.ms 2,vi r.network.change,.ms 3,.ms 4,.ms 5,vi r.now,.ms 8,.ms 7,vi r.made]]⟩,some ⟨67,6,r.network.legs.map cLeg⟩,some ⟨3,1,r.network.off.map cInt⟩,some ⟨62,11,r.orders.map Zw⟩,some ⟨135,4,r.bookings.map Zg⟩,some ⟨55,2,r.closed.map Zs⟩,none,some ⟨3,1,r.skip.map cInt⟩,some ⟨130,6,r.scans.map ZF⟩],fun H=>by replace H:=H0 H; unfold Zec at H; exact Zh Tryz.func83 rfl Tryz.ntmps83 Tryz.results83 fun Q hQ hQn=>wk3⟩
def Zbo (w:Zd) (s:Zk):Option Zd:=
 cond (decide (w.made<1000000000))
 ((ZdX w.skip (w64 (w.made+1))).bind fun y1=>
 cond (!y1)
 (cond (decide ((w.scans.length:Int)<200))
 ((chk (ZQ ((w.scans:List Zk).length+([s]:List Zk).length) 56)).bind fun _=>
 some (⟨w.network,w.orders,w.bookings,w.closed,w.now,((w.scans:List Zk)++[s]),w.skip,(w64 (w.made+1))⟩:Zd))
 (some (⟨w.network,w.orders,w.bookings,w.closed,w.now,w.scans,w.skip,(w64 (w.made+1))⟩:Zd)))
 (some (⟨w.network,w.orders,w.bookings,w.closed,w.now,w.scans,w.skip,(w64 (w.made+1))⟩:Zd)))
 ((ZdX w.skip w.made).bind fun y2=>
 cond (!y2)
 (cond (decide ((w.scans.length:Int)<200))
 ((chk (ZQ ((w.scans:List Zk).length+([s]:List Zk).length) 56)).bind fun _=>
 some (⟨w.network,w.orders,w.bookings,w.closed,w.now,((w.scans:List Zk)++[s]),w.skip,w.made⟩:Zd))
 (some w))
 (some w))
instance (w:Zd) (s:Zk):CT Tryz.prog (Zbo w s):=⟨133,[.be 0 0 0,.ag (ZF s)],[some ⟨41,10,[[.ms 1,.ms 2,vi w.network.change,.ms 3,.ms 4,.ms 5,vi w.now,.ms 6,.ms 7,vi w.made]]⟩,some ⟨67,6,w.network.legs.map cLeg⟩,some ⟨3,1,w.network.off.map cInt⟩,some ⟨62,11,w.orders.map Zw⟩,some ⟨135,4,w.bookings.map Zg⟩,some ⟨55,2,w.closed.map Zs⟩,some ⟨130,6,w.scans.map ZF⟩,some ⟨3,1,w.skip.map cInt⟩],fun r=>.tu [],fun r=>[some ⟨41,10,[[.ms 1,.ms 2,vi r.network.change,.ms 3,.ms 4,.ms 5,vi r.now,.ms 8,.ms 7,vi r.made]]⟩,some ⟨67,6,r.network.legs.map cLeg⟩,some ⟨3,1,r.network.off.map cInt⟩,some ⟨62,11,r.orders.map Zw⟩,some ⟨135,4,r.bookings.map Zg⟩,some ⟨55,2,r.closed.map Zs⟩,none,some ⟨3,1,r.skip.map cInt⟩,some ⟨130,6,r.scans.map ZF⟩],fun H=>by replace H:=H0 H; unfold Zbo at H; exact Zh Tryz.func133 rfl Tryz.ntmps133 Tryz.results133 fun Q hQ hQn=>wk3⟩
def Zck (at1_:Int) (s0:Int × Int × Int × Int × (List YLeg) × (List Int) × (List Zf) × (List Zc) × (List Ze) × (List Int) × (List Zk)):Option ((Int × Int × Int × Int × (List YLeg) × (List Int) × (List Zf) × (List Zc) × (List Ze) × (List Int) × (List Zk)) ⊕ (Int × Int × Int × (List YLeg) × (List Int) × (List Zf) × (List Zc) × (List Ze) × (List Int) × (List Zk))):=
 cond (decide (s0.1<(s0.2.2.2.2.2.2.1.length:Int)))
 ((getI s0.2.2.2.2.2.2.1 s0.1).bind fun y1=>
 cond (!decide (y1.state=2))
 (some (.inl ((w64 (s0.1+1)),s0.2.1,s0.2.2.1,s0.2.2.2.1,s0.2.2.2.2.1,s0.2.2.2.2.2.1,s0.2.2.2.2.2.2.1,s0.2.2.2.2.2.2.2.1,s0.2.2.2.2.2.2.2.2.1,s0.2.2.2.2.2.2.2.2.2.1,s0.2.2.2.2.2.2.2.2.2.2)))
 ((getI y1.way y1.gone).bind fun y2=>
 (Zq (⟨s0.2.2.2.2.1,s0.2.2.2.2.2.1,s0.2.1⟩:Za) y2).bind fun y3=>
 cond (!decide (y3=at1_))
 (some (.inl ((w64 (s0.1+1)),s0.2.1,s0.2.2.1,s0.2.2.2.1,s0.2.2.2.2.1,s0.2.2.2.2.2.1,s0.2.2.2.2.2.2.1,s0.2.2.2.2.2.2.2.1,s0.2.2.2.2.2.2.2.2.1,s0.2.2.2.2.2.2.2.2.2.1,s0.2.2.2.2.2.2.2.2.2.2)))
 ((getI y1.way y1.gone).bind fun y4=>
 (rhoM [0,1,2,3,4,5,8,7]).bind fun _=>
 (Zbo (⟨(⟨s0.2.2.2.2.1,s0.2.2.2.2.2.1,s0.2.1⟩:Za),s0.2.2.2.2.2.2.1,s0.2.2.2.2.2.2.2.1,s0.2.2.2.2.2.2.2.2.1,s0.2.2.1,s0.2.2.2.2.2.2.2.2.2.2,s0.2.2.2.2.2.2.2.2.2.1,s0.2.2.2.1⟩:Zd) (⟨(w64 (s0.1+1)),at1_,2,⟨#[]⟩,y4⟩:Zk)).bind fun y5=>
 (getI y1.way y1.gone).bind fun y6=>
 (getI y5.network.legs y6.leg).bind fun y7=>
 (getI y5.orders s0.1).bind fun y8=>
 (getI y5.orders s0.1).bind fun y9=>
 (getI y5.orders s0.1).bind fun y10=>
 (getI y5.orders s0.1).bind fun y11=>
 cond (decide (y7.to_=y1.to_))
 ((getI y5.orders s0.1).bind fun y12=>
 (getI y5.orders s0.1).bind fun y13=>
 (frzL (y5.orders.set (Int.toNat s0.1) (⟨y8.from_,y8.to_,y8.service,y8.weight,y8.at_,y8.due,y8.way,(w64 (y1.gone+1)),3,y7.to_,at1_⟩:Zf)) (fun y14=>(.be 0 0 0::vi at1_::.un::.un::vi s0.1::.be 9 0 0::(U 193 []))) (fun y14=>[some ⟨41,10,[[.ms 1,.ms 2,vi y5.network.change,.ms 3,.ms 4,.ms 5,vi y5.now,.ms 8,.ms 7,vi y5.made]]⟩,some ⟨67,6,y5.network.legs.map cLeg⟩,some ⟨3,1,y5.network.off.map cInt⟩,some ⟨62,11,y14.map Zw⟩,some ⟨135,4,y5.bookings.map Zg⟩,some ⟨55,2,y5.closed.map Zs⟩,none,some ⟨3,1,y5.skip.map cInt⟩,some ⟨130,6,y5.scans.map ZF⟩,some ⟨62,11,[[vs y1.from_,vs y1.to_,vi y1.service,vi y1.weight,vi y1.at_,vi y1.due,.sl (y1.way.map Zs),vi y1.gone,vi y1.state,vs y1.place,vi y1.ended]]⟩])).bind fun y14=>
 (rhoM [0,1,2,3,4,5,8,7]).bind fun _=>
 (Zbo (⟨y5.network,y14,y5.bookings,y5.closed,y5.now,y5.scans,y5.skip,y5.made⟩:Zd) (⟨(w64 (s0.1+1)),at1_,4,y1.to_,(⟨0,0⟩:Ze)⟩:Zk)).bind fun y15=>
 some (.inl ((w64 (s0.1+1)),y15.network.change,y15.now,y15.made,y15.network.legs,y15.network.off,y15.orders,y15.bookings,y15.closed,y15.skip,y15.scans)))
 (some (.inl ((w64 (s0.1+1)),y5.network.change,y5.now,y5.made,y5.network.legs,y5.network.off,(y5.orders.set (Int.toNat s0.1) (⟨y8.from_,y8.to_,y8.service,y8.weight,y8.at_,y8.due,y8.way,(w64 (y1.gone+1)),1,y7.to_,y8.ended⟩:Zf)),y5.bookings,y5.closed,y5.skip,y5.scans))))))
 (some (.inr (s0.2.1,s0.2.2.1,s0.2.2.2.1,s0.2.2.2.2.1,s0.2.2.2.2.2.1,s0.2.2.2.2.2.2.1,s0.2.2.2.2.2.2.2.1,s0.2.2.2.2.2.2.2.2.1,s0.2.2.2.2.2.2.2.2.2.1,s0.2.2.2.2.2.2.2.2.2.2)))
instance (at1_:Int):ZP (Zck at1_):=⟨fun s0=>(.be 0 0 0::vi at1_::.un::.un::vi s0.1::(U 194 [])),fun s0=>[some ⟨41,10,[[.ms 1,.ms 2,vi s0.2.1,.ms 3,.ms 4,.ms 5,vi s0.2.2.1,.ms 8,.ms 7,vi s0.2.2.2.1]]⟩,some ⟨67,6,s0.2.2.2.2.1.map cLeg⟩,some ⟨3,1,s0.2.2.2.2.2.1.map cInt⟩,some ⟨62,11,s0.2.2.2.2.2.2.1.map Zw⟩,some ⟨135,4,s0.2.2.2.2.2.2.2.1.map Zg⟩,some ⟨55,2,s0.2.2.2.2.2.2.2.2.1.map Zs⟩,none,some ⟨3,1,s0.2.2.2.2.2.2.2.2.2.1.map cInt⟩,some ⟨130,6,s0.2.2.2.2.2.2.2.2.2.2.map ZF⟩]⟩
def Zcl (at1_:Int) (s1:Int × Int × Int × Int × (List YLeg) × (List Int) × (List Zf) × (List Zc) × (List Ze) × (List Int) × (List Zk)):Option ((Int × Int × Int × Int × (List YLeg) × (List Int) × (List Zf) × (List Zc) × (List Ze) × (List Int) × (List Zk)) ⊕ (Int × Int × Int × (List YLeg) × (List Int) × (List Zf) × (List Zc) × (List Ze) × (List Int) × (List Zk))):=
 cond (decide (s1.1<(s1.2.2.2.2.2.2.1.length:Int)))
 ((getI s1.2.2.2.2.2.2.1 s1.1).bind fun y16=>
 cond (decide (y16.state=1))
 (cond (decide (y16.gone<(y16.way.length:Int)))
 ((getI y16.way y16.gone).bind fun y17=>
 (Zp (⟨s1.2.2.2.2.1,s1.2.2.2.2.2.1,s1.2.1⟩:Za) y17).bind fun y18=>
 cond (decide (y18=at1_))
 ((getI s1.2.2.2.2.2.2.1 s1.1).bind fun y19=>
 (getI s1.2.2.2.2.2.2.1 s1.1).bind fun y20=>
 (frzL (s1.2.2.2.2.2.2.1.set (Int.toNat s1.1) (⟨y19.from_,y19.to_,y19.service,y19.weight,y19.at_,y19.due,y19.way,y19.gone,2,⟨#[]⟩,y19.ended⟩:Zf)) (fun y21=>(.be 0 0 0::vi at1_::(U 4 (vi s1.1::.be 9 0 0::(U 191 []))))) (fun y21=>[some ⟨41,10,[[.ms 1,.ms 2,vi s1.2.1,.ms 3,.ms 4,.ms 5,vi s1.2.2.1,.ms 8,.ms 7,vi s1.2.2.2.1]]⟩,some ⟨67,6,s1.2.2.2.2.1.map cLeg⟩,some ⟨3,1,s1.2.2.2.2.2.1.map cInt⟩,some ⟨62,11,y21.map Zw⟩,some ⟨135,4,s1.2.2.2.2.2.2.2.1.map Zg⟩,some ⟨55,2,s1.2.2.2.2.2.2.2.2.1.map Zs⟩,none,some ⟨3,1,s1.2.2.2.2.2.2.2.2.2.1.map cInt⟩,some ⟨130,6,s1.2.2.2.2.2.2.2.2.2.2.map ZF⟩,some ⟨62,11,[[vs y16.from_,vs y16.to_,vi y16.service,vi y16.weight,vi y16.at_,vi y16.due,.sl (y16.way.map Zs),vi y16.gone,vi y16.state,vs y16.place,vi y16.ended]]⟩])).bind fun y21=>
 (getI y16.way y16.gone).bind fun y22=>
 (rhoM [0,1,2,3,4,5,8,7]).bind fun _=>
 (Zbo (⟨(⟨s1.2.2.2.2.1,s1.2.2.2.2.2.1,s1.2.1⟩:Za),y21,s1.2.2.2.2.2.2.2.1,s1.2.2.2.2.2.2.2.2.1,s1.2.2.1,s1.2.2.2.2.2.2.2.2.2.2,s1.2.2.2.2.2.2.2.2.2.1,s1.2.2.2.1⟩:Zd) (⟨(w64 (s1.1+1)),at1_,3,⟨#[]⟩,y22⟩:Zk)).bind fun y23=>
 some (.inl ((w64 (s1.1+1)),y23.network.change,y23.now,y23.made,y23.network.legs,y23.network.off,y23.orders,y23.bookings,y23.closed,y23.skip,y23.scans)))
 (some (.inl ((w64 (s1.1+1)),s1.2.1,s1.2.2.1,s1.2.2.2.1,s1.2.2.2.2.1,s1.2.2.2.2.2.1,s1.2.2.2.2.2.2.1,s1.2.2.2.2.2.2.2.1,s1.2.2.2.2.2.2.2.2.1,s1.2.2.2.2.2.2.2.2.2.1,s1.2.2.2.2.2.2.2.2.2.2))))
 (some (.inl ((w64 (s1.1+1)),s1.2.1,s1.2.2.1,s1.2.2.2.1,s1.2.2.2.2.1,s1.2.2.2.2.2.1,s1.2.2.2.2.2.2.1,s1.2.2.2.2.2.2.2.1,s1.2.2.2.2.2.2.2.2.1,s1.2.2.2.2.2.2.2.2.2.1,s1.2.2.2.2.2.2.2.2.2.2))))
 (some (.inl ((w64 (s1.1+1)),s1.2.1,s1.2.2.1,s1.2.2.2.1,s1.2.2.2.2.1,s1.2.2.2.2.2.1,s1.2.2.2.2.2.2.1,s1.2.2.2.2.2.2.2.1,s1.2.2.2.2.2.2.2.2.1,s1.2.2.2.2.2.2.2.2.2.1,s1.2.2.2.2.2.2.2.2.2.2))))
 (some (.inr (s1.2.1,s1.2.2.1,s1.2.2.2.1,s1.2.2.2.2.1,s1.2.2.2.2.2.1,s1.2.2.2.2.2.2.1,s1.2.2.2.2.2.2.2.1,s1.2.2.2.2.2.2.2.2.1,s1.2.2.2.2.2.2.2.2.2.1,s1.2.2.2.2.2.2.2.2.2.2)))
instance (at1_:Int):ZP (Zcl at1_):=⟨fun s1=>(.be 0 0 0::vi at1_::(U 4 (vi s1.1::(U 192 [])))),fun s1=>[some ⟨41,10,[[.ms 1,.ms 2,vi s1.2.1,.ms 3,.ms 4,.ms 5,vi s1.2.2.1,.ms 8,.ms 7,vi s1.2.2.2.1]]⟩,some ⟨67,6,s1.2.2.2.2.1.map cLeg⟩,some ⟨3,1,s1.2.2.2.2.2.1.map cInt⟩,some ⟨62,11,s1.2.2.2.2.2.2.1.map Zw⟩,some ⟨135,4,s1.2.2.2.2.2.2.2.1.map Zg⟩,some ⟨55,2,s1.2.2.2.2.2.2.2.2.1.map Zs⟩,none,some ⟨3,1,s1.2.2.2.2.2.2.2.2.2.1.map cInt⟩,some ⟨130,6,s1.2.2.2.2.2.2.2.2.2.2.map ZF⟩]⟩
def ZeD (w:Zd) (at1_:Int):Option Zd:=
 (Zj (Zck at1_) NN (0,w.network.change,w.now,w.made,w.network.legs,w.network.off,w.orders,w.bookings,w.closed,w.skip,w.scans)).bind (fun o0=>
 (Zj (Zcl at1_) NN (0,o0.1,o0.2.1,o0.2.2.1,o0.2.2.2.1,o0.2.2.2.2.1,o0.2.2.2.2.2.1,o0.2.2.2.2.2.2.1,o0.2.2.2.2.2.2.2.1,o0.2.2.2.2.2.2.2.2.1,o0.2.2.2.2.2.2.2.2.2)).bind (fun o1=>
 some (⟨(⟨o1.2.2.2.1,o1.2.2.2.2.1,o1.1⟩:Za),o1.2.2.2.2.2.1,o1.2.2.2.2.2.2.1,o1.2.2.2.2.2.2.2.1,at1_,o1.2.2.2.2.2.2.2.2.2,o1.2.2.2.2.2.2.2.2.1,o1.2.2.1⟩:Zd)))
instance (w:Zd) (at1_:Int):CT Tryz.prog (ZeD w at1_):=⟨73,[.be 0 0 0,vi at1_],[some ⟨41,10,[[.ms 1,.ms 2,vi w.network.change,.ms 3,.ms 4,.ms 5,vi w.now,.ms 6,.ms 7,vi w.made]]⟩,some ⟨67,6,w.network.legs.map cLeg⟩,some ⟨3,1,w.network.off.map cInt⟩,some ⟨62,11,w.orders.map Zw⟩,some ⟨135,4,w.bookings.map Zg⟩,some ⟨55,2,w.closed.map Zs⟩,some ⟨130,6,w.scans.map ZF⟩,some ⟨3,1,w.skip.map cInt⟩],fun r=>.tu [],fun r=>[some ⟨41,10,[[.ms 1,.ms 2,vi r.network.change,.ms 3,.ms 4,.ms 5,vi r.now,.ms 8,.ms 7,vi r.made]]⟩,some ⟨67,6,r.network.legs.map cLeg⟩,some ⟨3,1,r.network.off.map cInt⟩,some ⟨62,11,r.orders.map Zw⟩,some ⟨135,4,r.bookings.map Zg⟩,some ⟨55,2,r.closed.map Zs⟩,none,some ⟨3,1,r.skip.map cInt⟩,some ⟨130,6,r.scans.map ZF⟩],fun H=>by replace H:=H0 H; unfold ZeD at H; exact Zh Tryz.func73 rfl Tryz.ntmps73 Tryz.results73 fun Q hQ hQn=>wk3⟩
theorem Zr2:@Zf8=@ZdX:=rfl
def ZbK (w:Zd) (s:Zk):Zd:={ w with scans:=(ZeI w.skip (w.scans,w.made) s).1,made:=(ZeI w.skip (w.scans,w.made) s).2 }
structure ZfX (w:Zd):Prop where
 skip:w.skip.length≤1048576
 len:w.scans.length≤200
 made:0≤w.made∧w.made≤1000000000
theorem ZcC {a b c:Nat} (h:a+b≤1048576) (hc:c≤1024):chk (ZQ (a+b) c)=some ():=by
 refine Zjh ?_
 unfold ZQ
 refine decide_eq_true ⟨by omega,?_⟩
 have:(a+b)*c≤1048576*1024:=Nat.mul_le_mul h hc
 omega
theorem Zwl {α:Type} {c:Prop} [Decidable c] {l:List α} {s:α} (h:c→l.length<200) (h2:l.length≤200):(if c then l++[s] else l).length≤200:=by
 by_cases hc:c
 ·have:=h hc; rw [if_pos hc]; simp; omega
 ·rw [if_neg hc]; exact h2
theorem ZhX {w:Zd} (h:ZfX w) (s:Zk):ZfX (ZbK w s):=by
 obtain ⟨h1,h2,h3⟩:=h
 unfold ZbK ZeI
 refine ⟨h1,?_,?_⟩
 ·exact Zwl (fun h=>h.2) h2
 ·simp only
  split <;> omega
theorem ZpT {w:Zd} (h:ZfX w) (s:Zk):Za1 w s=some (ZbK w s):=by
 obtain ⟨h1,h2,h3⟩:=h
 have hw:w64 (w.made+1)=w.made+1:=Zo (by omega)
 have hm:(if 1000000000<w.made+1 then 1000000000 else w.made+1)=(if w.made<1000000000 then w.made+1 else w.made):=by split <;> split <;> omega
 have ha:=ZcC (a:=w.scans.length) (b:=1) (c:=56) (by omega) (by omega)
 unfold Za1 ZbK ZeI
 rw [hw,hm,Zr2,Zou h1]
 simp only [Option.bind_some,List.length_cons,List.length_nil,Nat.zero_add,ha]
 cases hb:w.skip.any fun y=>decide (y=if w.made<1000000000 then w.made+1 else w.made) with
 | true=>simp
 | false=>
  by_cases hl:w.scans.length<200
  ·rw [decide_eq_true (show (w.scans.length:Int)<200 by omega)]; simp [hl]
  ·rw [decide_eq_false (show ¬ (w.scans.length:Int)<200 by omega)]; simp [hl]
theorem ZpU {w:Zd} (h:ZfX w) (s:Zk):Zbo w s=some (ZbK w s):=by
 obtain ⟨h1,h2,h3⟩:=h
 have hw:w64 (w.made+1)=w.made+1:=Zo (by omega)
 have ha:=ZcC (a:=w.scans.length) (b:=1) (c:=56) (by omega) (by omega)
 unfold Zbo ZbK ZeI
 rw [hw]
 simp only [Zou h1,Option.bind_some,List.length_cons,List.length_nil,Nat.zero_add,ha]
 by_cases hm:w.made<1000000000
 ·rw [decide_eq_true hm,cond_true]
  simp only [if_pos hm]
  cases hb:w.skip.any fun y=>decide (y=w.made+1) with
  | true=>simp
  | false=>
   by_cases hl:w.scans.length<200
   ·rw [decide_eq_true (show (w.scans.length:Int)<200 by omega)]; simp [hl]
   ·rw [decide_eq_false (show ¬ (w.scans.length:Int)<200 by omega)]; simp [hl]
 ·rw [decide_eq_false hm,cond_false]
  simp only [if_neg hm]
  cases hb:w.skip.any fun y=>decide (y=w.made) with
  | true=>simp
  | false=>
   by_cases hl:w.scans.length<200
   ·rw [decide_eq_true (show (w.scans.length:Int)<200 by omega)]; simp [hl]
   ·rw [decide_eq_false (show ¬ (w.scans.length:Int)<200 by omega)]; simp [hl]
abbrev OwT:=Int × Int × Int × (List YLeg) × (List Int) × (List Zf) × (List Zc) × (List Ze) × (List Int) × (List Zk)
def owT (w:Zd):OwT:=(w.network.change,w.now,w.made,w.network.legs,w.network.off,w.orders,w.bookings,w.closed,w.skip,w.scans)
def twT (i:Int) (w:Zd):Int × OwT:=(i,owT w)
def Zb9 (w:Zd) (l:List Zk):Zd:=l.foldl ZbK w
theorem ZhY:∀ (l:List Zk) (w:Zd),Zb9 w l={ w with scans:=(l.foldl (ZeI w.skip) (w.scans,w.made)).1,made:=(l.foldl (ZeI w.skip) (w.scans,w.made)).2 }
 | [],w=>rfl
 | s::l,w=>by
  show Zb9 (ZbK w s) l=_
  rw [ZhY l (ZbK w s)]
  rfl
def ZfE (f:Zf→Zf) (g:Nat→Zf→List Zk) (i:Nat) (o:Zf) (w:Zd):Zd:=Zb9 { w with orders:=w.orders.set i (f o) } (g i o)
def ZhR (f:Zf→Zf) (g:Nat→Zf→List Zk):Nat→List Zf→Zd→Zd
 | _,[],w=>w
 | i,o::os,w=>ZhR f g (i+1) os (ZfE f g i o w)
theorem ZjE (f:Zf→Zf) (g:Nat→Zf→List Zk) (i:Nat) (o:Zf) (w:Zd):ZfE f g i o w={ w with orders:=w.orders.set i (f o),scans:=((g i o).foldl (ZeI w.skip) (w.scans,w.made)).1,made:=((g i o).foldl (ZeI w.skip) (w.scans,w.made)).2 }:=by
 unfold ZfE; rw [ZhY]
theorem Zmd (f:Zf→Zf) (g:Nat→Zf→List Zk):∀ (os pre:List Zf) (w:Zd),w.orders=pre++os→
 ZhR f g pre.length os w={ w with orders:=pre++os.map f,scans:=((Ze0 g pre.length os).foldl (ZeI w.skip) (w.scans,w.made)).1,made:=((Ze0 g pre.length os).foldl (ZeI w.skip) (w.scans,w.made)).2 }
 | [],pre,w,h=>by simp only [ZhR,Ze0,List.map_nil,List.foldl_nil]; rw [← h]
 | o::os,pre,w,h=>by
  have hset:w.orders.set pre.length (f o)=(pre++[f o])++os:=by rw [h,List.set_append_right _ _ (Nat.le_refl _)]; simp
  have:=Zmd f g os (pre++[f o]) (ZfE f g pre.length o w) (by rw [ZjE]; exact hset)
  simp only [List.length_append,List.length_cons,List.length_nil] at this
  show ZhR f g (pre.length+1) os (ZfE f g pre.length o w)=_
  rw [this,ZjE]
  simp only [Ze0,List.foldl_append,List.map_cons,List.append_assoc,List.cons_append,List.nil_append]
theorem Zhp {f:Zf→Zf} {g:Nat→Zf→List Zk} {body:Int × OwT→Option ((Int × OwT) ⊕ OwT)} {n:Nat} {Inv:Zd→Prop} {Good:Nat→Zf→Prop}
 (h1:∀ (i:Nat) (o:Zf) (w:Zd),w.orders.length=n→w.orders[i]?=some o→Inv w→Good i o→body (twT i w)=some (.inl (twT ((i+1:Nat):Int) (ZfE f g i o w)))∧Inv (ZfE f g i o w))
 (h2:∀ w:Zd,w.orders.length=n→body (twT n w)=some (.inr (owT w))):
 ∀ (os:List Zf) (i:Nat) (N:Nat) (w:Zd),w.orders.drop i=os→w.orders.length=n→i≤n→os.length<N→Inv w→(∀ (j:Nat) (o:Zf),os[j]?=some o→Good (i+j) o)→Zj body N (twT i w)=some (owT (ZhR f g i os w))
 | [],i,0,w,_,_,_,hN,_,_=>by simp at hN
 | [],i,N+1,w,hd,hl,hi,hN,hI,hG=>by
  have:i=n:=by have:=congrArg List.length hd; simp at this; omega
  subst this
  simp only [Zj,h2 w hl,ZhR]
  rfl
 | o::os,i,0,w,_,_,_,hN,_,_=>by simp at hN
 | o::os,i,N+1,w,hd,hl,hi,hN,hI,hG=>by
  have ho:w.orders[i]?=some o:=by
   have:=congrArg (fun l:List Zf=>l[0]?) hd
   simpa using this
  have hlt:i<w.orders.length:=(List.getElem?_eq_some_iff.1 ho).1
  obtain ⟨e1,e2⟩:=h1 i o w hl ho hI (by simpa using hG 0 o rfl)
  have hor:(ZfE f g i o w).orders=w.orders.set i (f o):=by rw [ZjE]
  simp only [Zj,e1,ZhR]
  refine Zhp h1 h2 os (i+1) N (ZfE f g i o w) ?_ (by rw [hor,List.length_set]; exact hl) (by omega) (by simp at hN; omega) e2 fun j o' hj=>?_
  ·rw [hor,List.drop_set]
   have:(w.orders.drop (i+1))=os:=by
    have:=congrArg (List.drop 1) hd
    simpa [List.drop_drop] using this
   rw [if_pos (by omega),this]
  ·have:=hG (j+1) o' (by simpa using hj)
   rwa [show i+(j+1)=i+1+j by omega] at this
structure Zfh (n:Za) (k:Nat) (w:Zd):Prop where
 net:w.network=n
 scans:ZfX w
 orders:w.orders.length≤1048576
theorem Zi4:∀ (l:List Zk) (w:Zd),ZfX w→ZfX (Zb9 w l)
 | [],w,h=>h
 | s::l,w,h=>Zi4 l _ (ZhX h s)
theorem Zfh.step {n:Za} {k:Nat} {w:Zd} (h:Zfh n k w) (f:Zf→Zf) (g:Nat→Zf→List Zk) (i:Nat) (o:Zf):Zfh n k (ZfE f g i o w):=by
 have hs:ZfX { w with orders:=w.orders.set i (f o) }:=⟨h.scans.skip,h.scans.len,h.scans.made⟩
 have h1:=Zi4 (g i o) _ hs
 rw [ZjE]
 unfold ZfE at *
 rw [ZhY] at h1
 exact ⟨h.net,h1,by simp only [List.length_set]; exact h.orders⟩
structure ZgC (n:Za) (o:Zf):Prop where
 gone:0≤o.gone∧o.gone≤o.way.length
 len:o.way.length≤1048576
 trip:∀ t∈o.way,ZbJ n t=true
 rides:o.state=2→o.gone<o.way.length
theorem ZfP {α:Type} {xs:List α} {i:Nat} {x:α} (h:xs[i]?=some x):xs.set i x=xs:=by
 apply List.ext_getElem?
 intro j
 rw [List.getElem?_set]
 split
 ·rename_i e; subst e
  split
  ·exact h.symm
  ·rename_i hl; exact absurd (List.getElem?_eq_some_iff.1 h).1 hl
 ·rfl
theorem ZgJ {n:Za} {at_:Int} {i:Nat} {o:Zf} (h:¬ o.state=1∨o.way[o.gone.toNat]?=none∨∃ t,o.way[o.gone.toNat]?=some t∧¬ ZM n t=at_):ZfS n at_ o=o∧Zfu n at_ i o=[]:=by
 unfold ZfS Zfu
 rcases h with h | h | ⟨t,h,h'⟩
 ·cases o.way[o.gone.toNat]? with
  | none=>exact ⟨rfl,rfl⟩
  | some t=>simp [h]
 ·rw [h]; exact ⟨rfl,rfl⟩
 ·rw [h]; simp [h']
section
variable {n:Za} (hf:Z0 n) (hn:Zi n=some true)
include hf hn
theorem ZwI (w0:Zd) (h0:w0.network=n) (hl0:w0.orders.length≤1048576) {at_:Int} (i:Nat) (o:Zf) (w:Zd) (hl:w.orders.length=w0.orders.length) (ho:w.orders[i]?=some o) (hI:Zfh n 0 w) (hG:ZgC n o):
 ZbO w0 at_ (twT i w)=some (.inl (twT ((i+1:Nat):Int) (ZfE (ZS n at_) (Zca n at_) i o w))):=by
 have hlt:=(List.getElem?_eq_some_iff.1 ho).1
 have hgg:=hG.gone
 have hg:getI w.orders (i:Int)=some o:=by rw [Zn]; exact ho
 have hr:rgI w.orders (i:Int)=some o:=hg
 have hi:w64 ((i:Int)+1)=((i+1:Nat):Int):=ZR hlt (by have:=hI.orders; omega)
 have hd:decide ((i:Int)<(w0.orders.length:Int))=true:=decide_eq_true (by omega)
 have hnet:(⟨w.network.legs,w.network.off,w0.network.change⟩:Za)=n:=by rw [hI.net,h0]
 have hnet2:(⟨w.network.legs,w.network.off,w.network.change⟩:Za)=n:=hI.net
 unfold ZbO twT owT
 simp only [hd,cond_true,hg,Option.bind_some,hi,hnet,ZfG]
 by_cases hs:o.state=2
 ·have hgl:=hG.rides hs
  have hgt:o.gone.toNat<o.way.length:=by omega
  have ht:o.way[o.gone.toNat]?=some o.way[o.gone.toNat]:=List.getElem?_eq_getElem hgt
  generalize o.way[o.gone.toNat]=t at ht
  have hgw:getI o.way o.gone=some t:=by unfold getI; rw [if_pos hG.gone.1]; exact ht
  have htb:=hG.trip t (List.mem_of_getElem? ht)
  obtain ⟨y,hy,_⟩:=Zah hf htb
  obtain ⟨t1,t2,t3,t4,t5⟩:=ZI hf hn htb
  have hto:ZL n t=y.to_:=by unfold ZL; rw [hy]; rfl
  have hyl:getI w.network.legs t.leg=some y:=by rw [hI.net]; exact hy
  have hw1:w64 (o.gone+1)=o.gone+1:=Zo (by have:=hG.len; omega)
  simp only [decide_eq_true hs,Bool.not_true,cond_false,hgw,Option.bind_some,t2]
  by_cases he:Z7 n t=at_
  ·have inv1:∀ os:List Zf,ZfX { w with orders:=os }:=fun os=>⟨hI.scans.skip,hI.scans.len,hI.scans.made⟩
   have ea:ZS n at_ o=arr1 n at_ o t:=by unfold ZS; rw [ht]; simp only [hs,he,and_self,if_true]
   have ed:Zca n at_ i o=⟨((i+1:Nat):Int),at_,2,⟨#[]⟩,t⟩::(if ZL n t=o.to_ then [⟨((i+1:Nat):Int),at_,4,ZL n t,⟨0,0⟩⟩] else []):=by unfold Zca; rw [ht]; simp only [hs,he,and_self,if_true]
   unfold ZfE
   rw [ea,ed]
   unfold arr1
   simp only [decide_eq_true he,Bool.not_true,cond_false,hr,hgw,hyl,Option.bind_some,frzL,rhoM,hnet2,Int.toNat_natCast,hw1]
   rw [show (⟨n,w.orders.set i ⟨o.from_,o.to_,o.service,o.weight,o.at_,o.due,o.way,o.gone+1,1,y.to_,o.ended⟩,w.bookings,w.closed,w.now,w.scans,w.skip,w.made⟩:Zd)={ w with orders:=w.orders.set i ⟨o.from_,o.to_,o.service,o.weight,o.at_,o.due,o.way,o.gone+1,1,y.to_,o.ended⟩ } by rw [← hI.net]]
   rw [ZpT (inv1 _)]
   have hlt':i<(w.orders.set i (⟨o.from_,o.to_,o.service,o.weight,o.at_,o.due,o.way,o.gone+1,1,y.to_,o.ended⟩:Zf)).length:=by rw [List.length_set]; exact hlt
   have hr2:rgI (w.orders.set i (⟨o.from_,o.to_,o.service,o.weight,o.at_,o.due,o.way,o.gone+1,1,y.to_,o.ended⟩:Zf)) (i:Int)=some ⟨o.from_,o.to_,o.service,o.weight,o.at_,o.due,o.way,o.gone+1,1,y.to_,o.ended⟩:=by
    unfold rgI; rw [Zn,List.getElem?_set_self hlt]
   simp only [Option.bind_some,ZbK,hr2,hto]
   by_cases hc:y.to_=o.to_
   ·have hr3:rgI (w.orders.set i (⟨o.from_,o.to_,o.service,o.weight,o.at_,o.due,o.way,o.gone+1,3,y.to_,at_⟩:Zf)) (i:Int)=some ⟨o.from_,o.to_,o.service,o.weight,o.at_,o.due,o.way,o.gone+1,3,y.to_,at_⟩:=by
     unfold rgI; rw [Zn,List.getElem?_set_self hlt]
    simp only [decide_eq_true hc,cond_true,List.set_set,hr3,Option.bind_some]
    have inv2:=ZhX (inv1 (w.orders.set i ⟨o.from_,o.to_,o.service,o.weight,o.at_,o.due,o.way,o.gone+1,3,y.to_,at_⟩)) (⟨((i+1:Nat):Int),at_,2,⟨#[]⟩,t⟩:Zk)
    have e2:=ZpT inv2 ⟨((i+1:Nat):Int),at_,4,y.to_,⟨0,0⟩⟩
    unfold ZbK at e2
    simp only at e2
    simp only [e2,Option.bind_some,if_pos hc,Zb9,List.foldl_cons,List.foldl_nil,ZbK]
   ·simp only [decide_eq_false hc,cond_false,if_neg hc,Zb9,List.foldl_cons,List.foldl_nil,ZbK]
  ·have ea:ZS n at_ o=o:=by unfold ZS; rw [ht]; simp only [he,and_false,if_false]
   have ed:Zca n at_ i o=[]:=by unfold Zca; rw [ht]; simp only [he,and_false,if_false]
   simp only [decide_eq_false he,Bool.not_false,cond_true,ZfE,ea,ed,Zb9,List.foldl_nil,ZfP ho]
 ·have ea:ZS n at_ o=o:=by
   unfold ZS
   cases o.way[o.gone.toNat]? with
   | none=>rfl
   | some t=>simp [hs]
  have ed:Zca n at_ i o=[]:=by
   unfold Zca
   cases o.way[o.gone.toNat]? with
   | none=>rfl
   | some t=>simp [hs]
  simp only [decide_eq_false hs,Bool.not_false,cond_true,ZfE,ea,ed,Zb9,List.foldl_nil,ZfP ho]
theorem ZwJ {at_:Int} (i:Nat) (o:Zf) (w:Zd) (ho:w.orders[i]?=some o) (hI:Zfh n 0 w) (hG:ZgC n o):
 Zck at_ (twT i w)=some (.inl (twT ((i+1:Nat):Int) (ZfE (ZS n at_) (Zca n at_) i o w))):=by
 have hlt:=(List.getElem?_eq_some_iff.1 ho).1
 have hgg:=hG.gone
 have hg:getI w.orders (i:Int)=some o:=by rw [Zn]; exact ho
 have hi:w64 ((i:Int)+1)=((i+1:Nat):Int):=ZR hlt (by have:=hI.orders; omega)
 have hd:decide ((i:Int)<(w.orders.length:Int))=true:=decide_eq_true (by omega)
 have hnet2:(⟨w.network.legs,w.network.off,w.network.change⟩:Za)=n:=hI.net
 unfold Zck twT owT
 simp only [hd,cond_true,hg,Option.bind_some,hi,hnet2]
 by_cases hs:o.state=2
 ·have hgl:=hG.rides hs
  have hgt:o.gone.toNat<o.way.length:=by omega
  have ht:o.way[o.gone.toNat]?=some o.way[o.gone.toNat]:=List.getElem?_eq_getElem hgt
  generalize o.way[o.gone.toNat]=t at ht
  have hgw:getI o.way o.gone=some t:=by unfold getI; rw [if_pos hG.gone.1]; exact ht
  have htb:=hG.trip t (List.mem_of_getElem? ht)
  obtain ⟨y,hy,_⟩:=Zah hf htb
  obtain ⟨t1,t2,t3,t4,t5⟩:=ZI hf hn htb
  have hto:ZL n t=y.to_:=by unfold ZL; rw [hy]; rfl
  have hw1:w64 (o.gone+1)=o.gone+1:=Zo (by have:=hG.len; omega)
  simp only [decide_eq_true hs,Bool.not_true,cond_false,hgw,Option.bind_some,t2]
  by_cases he:Z7 n t=at_
  ·have ea:ZS n at_ o=arr1 n at_ o t:=by unfold ZS; rw [ht]; simp only [hs,he,and_self,if_true]
   have ed:Zca n at_ i o=⟨((i+1:Nat):Int),at_,2,⟨#[]⟩,t⟩::(if ZL n t=o.to_ then [⟨((i+1:Nat):Int),at_,4,ZL n t,⟨0,0⟩⟩] else []):=by unfold Zca; rw [ht]; simp only [hs,he,and_self,if_true]
   unfold ZfE
   rw [ea,ed]
   unfold arr1
   simp only [decide_eq_true he,Bool.not_true,cond_false,Option.bind_some,frzL,rhoM,Int.toNat_natCast,hw1]
   have e1:=ZpU hI.scans ⟨((i+1:Nat):Int),at_,2,⟨#[]⟩,t⟩
   have hw:w=⟨n,w.orders,w.bookings,w.closed,w.now,w.scans,w.skip,w.made⟩:=by rw [← hI.net]
   rw [← hI.net] at hy
   rw [show (⟨n,w.orders,w.bookings,w.closed,w.now,w.scans,w.skip,w.made⟩:Zd)=w from hw.symm,e1]
   simp only [Option.bind_some,ZbK,hg,hy,hto]
   by_cases hc:y.to_=o.to_
   ·have inv2:ZfX { ZbK w ⟨((i+1:Nat):Int),at_,2,⟨#[]⟩,t⟩ with orders:=w.orders.set i ⟨o.from_,o.to_,o.service,o.weight,o.at_,o.due,o.way,o.gone+1,3,y.to_,at_⟩ }:=by
     obtain ⟨a,b,c⟩:=ZhX hI.scans ⟨((i+1:Nat):Int),at_,2,⟨#[]⟩,t⟩
     exact ⟨a,b,c⟩
    have e2:=ZpU inv2 ⟨((i+1:Nat):Int),at_,4,o.to_,⟨0,0⟩⟩
    unfold ZbK at e2
    simp only at e2
    have hcd:decide (y.to_=o.to_)=true:=decide_eq_true hc
    simp only [hcd,cond_true,Option.bind_some,e2,if_pos hc,Zb9,List.foldl_cons,List.foldl_nil,ZbK]
    simp only [hc]
   ·simp only [decide_eq_false hc,cond_false,if_neg hc,Zb9,List.foldl_cons,List.foldl_nil,ZbK]
  ·have ea:ZS n at_ o=o:=by unfold ZS; rw [ht]; simp only [he,and_false,if_false]
   have ed:Zca n at_ i o=[]:=by unfold Zca; rw [ht]; simp only [he,and_false,if_false]
   simp only [decide_eq_false he,Bool.not_false,cond_true,ZfE,ea,ed,Zb9,List.foldl_nil,ZfP ho]
 ·have ea:ZS n at_ o=o:=by
   unfold ZS
   cases o.way[o.gone.toNat]? with
   | none=>rfl
   | some t=>simp [hs]
  have ed:Zca n at_ i o=[]:=by
   unfold Zca
   cases o.way[o.gone.toNat]? with
   | none=>rfl
   | some t=>simp [hs]
  simp only [decide_eq_false hs,Bool.not_false,cond_true,ZfE,ea,ed,Zb9,List.foldl_nil,ZfP ho]
theorem ZwK (w0:Zd) (h0:w0.network=n) (o0:OwT) {at_:Int} (i:Nat) (o:Zf) (w:Zd) (hl:w.orders.length=o0.2.2.2.2.2.1.length) (ho:w.orders[i]?=some o) (hI:Zfh n 0 w) (hG:ZgC n o):
 ZbP w0 at_ o0 (twT i w)=some (.inl (twT ((i+1:Nat):Int) (ZfE (ZfS n at_) (Zfu n at_) i o w))):=by
 have hlt:=(List.getElem?_eq_some_iff.1 ho).1
 have hgg:=hG.gone
 have hg:getI w.orders (i:Int)=some o:=by rw [Zn]; exact ho
 have hr:rgI w.orders (i:Int)=some o:=hg
 have hi:w64 ((i:Int)+1)=((i+1:Nat):Int):=ZR hlt (by have:=hI.orders; omega)
 have hd:decide ((i:Int)<(o0.2.2.2.2.2.1.length:Int))=true:=decide_eq_true (by omega)
 have hnet:(⟨w.network.legs,w.network.off,w0.network.change⟩:Za)=n:=by rw [hI.net,h0]
 have hnet2:(⟨w.network.legs,w.network.off,w.network.change⟩:Za)=n:=hI.net
 unfold ZbP twT owT
 simp only [hd,cond_true,hg,Option.bind_some,hi,hnet,Zei]
 by_cases hs:o.state=1
 ·by_cases hgl:o.gone<o.way.length
  ·have hgt:o.gone.toNat<o.way.length:=by omega
   have ht:o.way[o.gone.toNat]?=some o.way[o.gone.toNat]:=List.getElem?_eq_getElem hgt
   generalize o.way[o.gone.toNat]=t at ht
   have hgw:getI o.way o.gone=some t:=by unfold getI; rw [if_pos hG.gone.1]; exact ht
   have htb:=hG.trip t (List.mem_of_getElem? ht)
   obtain ⟨t1,t2,t3,t4,t5⟩:=ZI hf hn htb
   simp only [decide_eq_true hs,decide_eq_true hgl,cond_true,hgw,Option.bind_some,t1]
   by_cases he:ZM n t=at_
   ·have ea:ZfS n at_ o=⟨o.from_,o.to_,o.service,o.weight,o.at_,o.due,o.way,o.gone,2,⟨#[]⟩,o.ended⟩:=by unfold ZfS; rw [ht]; simp only [hs,he,and_self,if_true]
    have ed:Zfu n at_ i o=[⟨((i+1:Nat):Int),at_,3,⟨#[]⟩,t⟩]:=by unfold Zfu; rw [ht]; simp only [hs,he,and_self,if_true]
    have hr2:rgI (w.orders.set i (⟨o.from_,o.to_,o.service,o.weight,o.at_,o.due,o.way,o.gone,2,⟨#[]⟩,o.ended⟩:Zf)) (i:Int)=some ⟨o.from_,o.to_,o.service,o.weight,o.at_,o.due,o.way,o.gone,2,⟨#[]⟩,o.ended⟩:=by
     unfold rgI; rw [Zn,List.getElem?_set_self hlt]
    have inv1:ZfX { w with orders:=w.orders.set i ⟨o.from_,o.to_,o.service,o.weight,o.at_,o.due,o.way,o.gone,2,⟨#[]⟩,o.ended⟩ }:=⟨hI.scans.skip,hI.scans.len,hI.scans.made⟩
    have e1:=ZpT inv1 ⟨((i+1:Nat):Int),at_,3,⟨#[]⟩,t⟩
    have hnw:w.network=n:=hI.net
    simp only [hnw] at e1
    unfold ZfE
    rw [ea,ed]
    simp only [decide_eq_true he,cond_true,hr,Option.bind_some,frzL,rhoM,drwL,hnet2,Int.toNat_natCast,hr2,hgw,e1,Zb9,List.foldl_cons,List.foldl_nil,ZbK,hnw]
   ·obtain ⟨ea,ed⟩:=ZgJ (n:=n) (at_:=at_) (i:=i) (.inr (.inr ⟨t,ht,he⟩))
    simp only [decide_eq_false he,cond_false,ZfE,ea,ed,Zb9,List.foldl_nil,ZfP ho]
  ·obtain ⟨ea,ed⟩:=ZgJ (n:=n) (at_:=at_) (i:=i) (o:=o) (.inr (.inl (List.getElem?_eq_none (by omega))))
   simp only [decide_eq_true hs,decide_eq_false hgl,cond_true,cond_false,ZfE,ea,ed,Zb9,List.foldl_nil,ZfP ho]
 ·obtain ⟨ea,ed⟩:=ZgJ (n:=n) (at_:=at_) (i:=i) (o:=o) (.inl hs)
  simp only [decide_eq_false hs,cond_false,ZfE,ea,ed,Zb9,List.foldl_nil,ZfP ho]
theorem ZwL {at_:Int} (i:Nat) (o:Zf) (w:Zd) (ho:w.orders[i]?=some o) (hI:Zfh n 0 w) (hG:ZgC n o):
 Zcl at_ (twT i w)=some (.inl (twT ((i+1:Nat):Int) (ZfE (ZfS n at_) (Zfu n at_) i o w))):=by
 have hlt:=(List.getElem?_eq_some_iff.1 ho).1
 have hgg:=hG.gone
 have hg:getI w.orders (i:Int)=some o:=by rw [Zn]; exact ho
 have hi:w64 ((i:Int)+1)=((i+1:Nat):Int):=ZR hlt (by have:=hI.orders; omega)
 have hd:decide ((i:Int)<(w.orders.length:Int))=true:=decide_eq_true (by omega)
 have hnet2:(⟨w.network.legs,w.network.off,w.network.change⟩:Za)=n:=hI.net
 unfold Zcl twT owT
 simp only [hd,cond_true,hg,Option.bind_some,hi,hnet2]
 by_cases hs:o.state=1
 ·by_cases hgl:o.gone<o.way.length
  ·have hgt:o.gone.toNat<o.way.length:=by omega
   have ht:o.way[o.gone.toNat]?=some o.way[o.gone.toNat]:=List.getElem?_eq_getElem hgt
   generalize o.way[o.gone.toNat]=t at ht
   have hgw:getI o.way o.gone=some t:=by unfold getI; rw [if_pos hG.gone.1]; exact ht
   have htb:=hG.trip t (List.mem_of_getElem? ht)
   obtain ⟨t1,t2,t3,t4,t5⟩:=ZI hf hn htb
   simp only [decide_eq_true hs,decide_eq_true hgl,cond_true,hgw,Option.bind_some,t1]
   by_cases he:ZM n t=at_
   ·have ea:ZfS n at_ o=⟨o.from_,o.to_,o.service,o.weight,o.at_,o.due,o.way,o.gone,2,⟨#[]⟩,o.ended⟩:=by unfold ZfS; rw [ht]; simp only [hs,he,and_self,if_true]
    have ed:Zfu n at_ i o=[⟨((i+1:Nat):Int),at_,3,⟨#[]⟩,t⟩]:=by unfold Zfu; rw [ht]; simp only [hs,he,and_self,if_true]
    have inv1:ZfX { w with orders:=w.orders.set i ⟨o.from_,o.to_,o.service,o.weight,o.at_,o.due,o.way,o.gone,2,⟨#[]⟩,o.ended⟩ }:=⟨hI.scans.skip,hI.scans.len,hI.scans.made⟩
    have e1:=ZpU inv1 ⟨((i+1:Nat):Int),at_,3,⟨#[]⟩,t⟩
    have hnw:w.network=n:=hI.net
    simp only [hnw] at e1
    unfold ZfE
    rw [ea,ed]
    simp only [decide_eq_true he,cond_true,Option.bind_some,frzL,rhoM,drwL,hnet2,Int.toNat_natCast,hgw,e1,Zb9,List.foldl_cons,List.foldl_nil,ZbK,hnw]
   ·obtain ⟨ea,ed⟩:=ZgJ (n:=n) (at_:=at_) (i:=i) (.inr (.inr ⟨t,ht,he⟩))
    simp only [decide_eq_false he,cond_false,ZfE,ea,ed,Zb9,List.foldl_nil,ZfP ho]
  ·obtain ⟨ea,ed⟩:=ZgJ (n:=n) (at_:=at_) (i:=i) (o:=o) (.inr (.inl (List.getElem?_eq_none (by omega))))
   simp only [decide_eq_true hs,decide_eq_false hgl,cond_true,cond_false,ZfE,ea,ed,Zb9,List.foldl_nil,ZfP ho]
 ·obtain ⟨ea,ed⟩:=ZgJ (n:=n) (at_:=at_) (i:=i) (o:=o) (.inl hs)
  simp only [decide_eq_false hs,cond_false,ZfE,ea,ed,Zb9,List.foldl_nil,ZfP ho]
end
structure ZmA (w:Zd):Prop where
 net:Z0 w.network
 isNet:Zi w.network=some true
 inv:Zfh w.network 0 w
 ord:∀ o∈w.orders,ZgC w.network o
theorem ZoF {n:Za} {at_:Int} {o:Zf} (h:ZgC n o):ZgC n (ZS n at_ o):=by
 have hs:=ZhZ n at_ o
 refine ⟨?_,by rw [hs.way]; exact h.len,by rw [hs.way]; exact h.trip,?_⟩
 ·rw [hs.way]
  have:=h.gone
  unfold ZS
  split
  ·rename_i t ht
   have hlt:=(List.getElem?_eq_some_iff.1 ht).1
   split
   ·unfold arr1; split <;> (simp only; omega)
   ·exact this
  ·exact this
 ·unfold ZS
  split
  ·split
   ·unfold arr1; split <;> (intro h'; simp at h')
   ·exact h.rides
  ·exact h.rides
theorem Zki {w:Zd} (h:ZmA w) (at_:Int):Zec w at_=some (ZbF w at_)∧ZeD w at_=some (ZbF w at_):=by
 have hlen:=h.inv.orders
 have p1:ZhR (ZS w.network at_) (Zca w.network at_) 0 w.orders w={ w with orders:=w.orders.map (ZS w.network at_),scans:=((Ze0 (Zca w.network at_) 0 w.orders).foldl (ZeI w.skip) (w.scans,w.made)).1,made:=((Ze0 (Zca w.network at_) 0 w.orders).foldl (ZeI w.skip) (w.scans,w.made)).2 }:=by
  have:=Zmd (ZS w.network at_) (Zca w.network at_) w.orders [] w rfl
  simpa using this
 have i1:Zfh w.network 0 (ZhR (ZS w.network at_) (Zca w.network at_) 0 w.orders w):=by
  have:∀ (os:List Zf) (i:Nat) (v:Zd),Zfh w.network 0 v→Zfh w.network 0 (ZhR (ZS w.network at_) (Zca w.network at_) i os v):=by
   intro os
   induction os with
   | nil=>intro i v hv; exact hv
   | cons o os ih=>intro i v hv; exact ih (i+1) _ (hv.step _ _ i o)
  exact this _ _ _ h.inv
 have o1:(ZhR (ZS w.network at_) (Zca w.network at_) 0 w.orders w).orders=w.orders.map (ZS w.network at_):=by rw [p1]
 have p2:=Zmd (ZfS w.network at_) (Zfu w.network at_) (w.orders.map (ZS w.network at_)) [] (ZhR (ZS w.network at_) (Zca w.network at_) 0 w.orders w) (by rw [o1]; rfl)
 simp only [List.length_nil,List.nil_append] at p2
 have hgood:∀ (j:Nat) (o:Zf),w.orders[j]?=some o→ZgC w.network o:=fun j o ho=>h.ord o (List.mem_of_getElem? ho)
 have hgood2:∀ (j:Nat) (o:Zf),(w.orders.map (ZS w.network at_))[j]?=some o→ZgC w.network o:=fun j o ho=>by
  rw [List.getElem?_map] at ho
  obtain ⟨o0,h0,rfl⟩:=Option.map_eq_some_iff.1 ho
  exact ZoF (hgood j o0 h0)
 have fin:∀ v:Zd,v=ZhR (ZfS w.network at_) (Zfu w.network at_) 0 (w.orders.map (ZS w.network at_)) (ZhR (ZS w.network at_) (Zca w.network at_) 0 w.orders w)→{ v with now:=at_ }=ZbF w at_:=by
  rintro v rfl
  rw [p2,p1]
  unfold ZbF ZiE Zf2
  simp only [List.map_map,List.foldl_append]
  rfl
 constructor
 ·unfold Zec
  have l1:=Zhp (f:=ZS w.network at_) (g:=Zca w.network at_) (body:=ZbO w at_) (n:=w.orders.length) (Inv:=Zfh w.network 0) (Good:=fun _ o=>ZgC w.network o)
   (fun i o v hv ho hI hG=>⟨ZwI h.net h.isNet w rfl hlen i o v hv ho hI hG,hI.step _ _ i o⟩)
   (fun v hv=>by unfold ZbO twT owT; simp only [decide_eq_false (show ¬ (w.orders.length:Int)<(w.orders.length:Int) by omega),cond_false]) w.orders 0 NN w rfl rfl (Nat.zero_le _) (by unfold NN; omega) h.inv hgood
  have e1:((0:Int),w.network.change,w.now,w.made,w.network.legs,w.network.off,w.orders,w.bookings,w.closed,w.skip,w.scans)=twT ((0:Nat):Int) w:=rfl
  rw [e1,l1,Option.bind_some]
  generalize hv1:ZhR (ZS w.network at_) (Zca w.network at_) 0 w.orders w=v1 at *
  have hl2:v1.orders.length=w.orders.length:=by rw [o1,List.length_map]
  have l2:=Zhp (f:=ZfS w.network at_) (g:=Zfu w.network at_) (body:=ZbP w at_ (owT v1)) (n:=v1.orders.length) (Inv:=Zfh w.network 0) (Good:=fun _ o=>ZgC w.network o)
   (fun i o v hv ho hI hG=>⟨ZwK h.net h.isNet w rfl (owT v1) i o v hv ho hI hG,hI.step _ _ i o⟩)
   (fun v hv=>by unfold ZbP twT owT; simp only [decide_eq_false (show ¬ (v1.orders.length:Int)<(v1.orders.length:Int) by omega),cond_false]) (w.orders.map (ZS w.network at_)) 0 NN v1 (by rw [o1]; rfl) rfl (Nat.zero_le _) (by rw [List.length_map]; unfold NN; omega) i1 hgood2
  have e2:((0:Int),(owT v1).1,(owT v1).2.1,(owT v1).2.2.1,(owT v1).2.2.2.1,(owT v1).2.2.2.2.1,(owT v1).2.2.2.2.2.1,(owT v1).2.2.2.2.2.2.1,(owT v1).2.2.2.2.2.2.2.1,(owT v1).2.2.2.2.2.2.2.2.1,(owT v1).2.2.2.2.2.2.2.2.2)=twT ((0:Nat):Int) v1:=rfl
  rw [e2,l2,Option.bind_some]
  exact congrArg some (fin _ rfl)
 ·unfold ZeD
  have l1:=Zhp (f:=ZS w.network at_) (g:=Zca w.network at_) (body:=Zck at_) (n:=w.orders.length) (Inv:=Zfh w.network 0) (Good:=fun _ o=>ZgC w.network o)
   (fun i o v hv ho hI hG=>⟨ZwJ h.net h.isNet i o v ho hI hG,hI.step _ _ i o⟩)
   (fun v hv=>by unfold Zck twT owT; simp only [decide_eq_false (show ¬ (w.orders.length:Int)<(v.orders.length:Int) by omega),cond_false]) w.orders 0 NN w rfl rfl (Nat.zero_le _) (by unfold NN; omega) h.inv hgood
  have e1:((0:Int),w.network.change,w.now,w.made,w.network.legs,w.network.off,w.orders,w.bookings,w.closed,w.skip,w.scans)=twT ((0:Nat):Int) w:=rfl
  rw [e1,l1,Option.bind_some]
  generalize hv1:ZhR (ZS w.network at_) (Zca w.network at_) 0 w.orders w=v1 at *
  have l2:=Zhp (f:=ZfS w.network at_) (g:=Zfu w.network at_) (body:=Zcl at_) (n:=v1.orders.length) (Inv:=Zfh w.network 0) (Good:=fun _ o=>ZgC w.network o)
   (fun i o v hv ho hI hG=>⟨ZwL h.net h.isNet i o v ho hI hG,hI.step _ _ i o⟩)
   (fun v hv=>by unfold Zcl twT owT; simp only [decide_eq_false (show ¬ (v1.orders.length:Int)<(v.orders.length:Int) by omega),cond_false]) (w.orders.map (ZS w.network at_)) 0 NN v1 (by rw [o1]; rfl) rfl (Nat.zero_le _) (by rw [List.length_map]; unfold NN; omega) i1 hgood2
  have e2:((0:Int),(owT v1).1,(owT v1).2.1,(owT v1).2.2.1,(owT v1).2.2.2.1,(owT v1).2.2.2.2.1,(owT v1).2.2.2.2.2.1,(owT v1).2.2.2.2.2.2.1,(owT v1).2.2.2.2.2.2.2.1,(owT v1).2.2.2.2.2.2.2.2.1,(owT v1).2.2.2.2.2.2.2.2.2)=twT ((0:Nat):Int) v1:=rfl
  rw [e2,l2,Option.bind_some]
  exact congrArg some (fin _ rfl)
def ZcA (n:Za):Option Za:=
 (chk (ZQ ((([]:List YLeg):List YLeg).length+(n.legs:List YLeg).length) 64)).bind fun _=>
 (chk (ZQ ((([]:List Int):List Int).length+(n.off:List Int).length) 8)).bind fun _=>
 some (⟨((([]:List YLeg):List YLeg)++n.legs),((([]:List Int):List Int)++n.off),n.change⟩:Za)
instance (n:Za):CT Tryz.prog (ZcA n):=⟨149,[.ag (Zr n)],[],fun r=>.ag [.ms 0,.ms 1,vi r.change],fun r=>[some ⟨67,6,r.legs.map cLeg⟩,some ⟨3,1,r.off.map cInt⟩],fun H=>by replace H:=H0 H; unfold ZcA at H; exact Zh Tryz.func149 rfl Tryz.ntmps149 Tryz.results149 fun Q hQ hQn=>wk3⟩
def Zbg (l:List Zc):Option (List Zc):=
 (chk (ZQ ((([]:List Zc):List Zc).length+(l:List Zc).length) 32)).bind fun _=>
 some ((([]:List Zc):List Zc)++l)
instance (l:List Zc):CT Tryz.prog (Zbg l):=⟨169,[.sl (l.map Zg)],[],fun r=>.ms 0,fun r=>[some ⟨135,4,r.map Zg⟩],fun H=>by replace H:=H0 H; unfold Zbg at H; exact Zh Tryz.func169 rfl Tryz.ntmps169 Tryz.results169 fun Q hQ hQn=>wk3⟩
def ZaP (l:List Ze):Option (List Ze):=
 (chk (ZQ ((([]:List Ze):List Ze).length+(l:List Ze).length) 16)).bind fun _=>
 some ((([]:List Ze):List Ze)++l)
instance (l:List Ze):CT Tryz.prog (ZaP l):=⟨137,[.sl (l.map Zs)],[],fun r=>.ms 0,fun r=>[some ⟨55,2,r.map Zs⟩],fun H=>by replace H:=H0 H; unfold ZaP at H; exact Zh Tryz.func137 rfl Tryz.ntmps137 Tryz.results137 fun Q hQ hQn=>wk3⟩
def Zbm (w:Zd) (y1:Za) (y2:(List Zc)) (y3:(List Ze)) (s0:Int × (List Zf)):Option ((Int × (List Zf)) ⊕ (List Zf)):=
 cond (decide (s0.1<(w.orders.length:Int)))
 ((getI w.orders s0.1).bind fun y4=>
 (ZaP y4.way).bind fun y5=>
 (frz (.un::.un::.be 0 0 0::.be 1 0 0::.un::.be 9 0 0::(U 23 (.sl (w.orders.map Zw)::vi (w.orders.length:Int)::vi s0.1::(U 15 [])))) [some ⟨41,10,[[.v (.slice none 0 0),.v (.slice none 0 0),vi 0,.v (.slice none 0 0),.v (.slice none 0 0),.v (.slice none 0 0),vi 0,.v (.slice none 0 0),.v (.slice none 0 0),vi 0]]⟩,some ⟨41,10,[[.ms 2,.ms 3,vi y1.change,.ms 4,.ms 5,.ms 6,vi w.now,.ms 7,.ms 8,vi w.made]]⟩,some ⟨67,6,y1.legs.map cLeg⟩,some ⟨3,1,y1.off.map cInt⟩,some ⟨62,11,s0.2.map Zw⟩,some ⟨135,4,y2.map Zg⟩,some ⟨55,2,y3.map Zs⟩,some ⟨130,6,((([]:List Zk):List Zk)++w.scans).map ZF⟩,some ⟨3,1,((([]:List Int):List Int)++w.skip).map cInt⟩,some ⟨62,11,[[vs y4.from_,vs y4.to_,vi y4.service,vi y4.weight,vi y4.at_,vi y4.due,.sl (y5.map Zs),vi y4.gone,vi y4.state,vs y4.place,vi y4.ended]]⟩]).bind fun _=>
 (chk (ZQ ((s0.2:List Zf).length+([(⟨y4.from_,y4.to_,y4.service,y4.weight,y4.at_,y4.due,y5,y4.gone,y4.state,y4.place,y4.ended⟩:Zf)]:List Zf).length) 128)).bind fun _=>
 some (.inl ((w64 (s0.1+1)),((s0.2:List Zf)++[(⟨y4.from_,y4.to_,y4.service,y4.weight,y4.at_,y4.due,y5,y4.gone,y4.state,y4.place,y4.ended⟩:Zf)]))))
 (some (.inr s0.2))
instance (w:Zd) (y1:Za) (y2:(List Zc)) (y3:(List Ze)):ZP (Zbm w y1 y2 y3):=⟨fun s0=>(.un::.un::.be 0 0 0::.be 1 0 0::(U 25 (.sl (w.orders.map Zw)::vi (w.orders.length:Int)::vi s0.1::(U 15 [])))),fun s0=>[some ⟨41,10,[[.v (.slice none 0 0),.v (.slice none 0 0),vi 0,.v (.slice none 0 0),.v (.slice none 0 0),.v (.slice none 0 0),vi 0,.v (.slice none 0 0),.v (.slice none 0 0),vi 0]]⟩,some ⟨41,10,[[.ms 2,.ms 3,vi y1.change,.ms 4,.ms 5,.ms 6,vi w.now,.ms 7,.ms 8,vi w.made]]⟩,some ⟨67,6,y1.legs.map cLeg⟩,some ⟨3,1,y1.off.map cInt⟩,some ⟨62,11,s0.2.map Zw⟩,some ⟨135,4,y2.map Zg⟩,some ⟨55,2,y3.map Zs⟩,some ⟨130,6,((([]:List Zk):List Zk)++w.scans).map ZF⟩,some ⟨3,1,((([]:List Int):List Int)++w.skip).map cInt⟩]⟩
def ZaZ (w:Zd):Option Zd:=
 (ZcA w.network).bind fun y1=>
 (Zbg w.bookings).bind fun y2=>
 (ZaP w.closed).bind fun y3=>
 (chk (ZQ ((([]:List Zk):List Zk).length+(w.scans:List Zk).length) 56)).bind fun _=>
 (chk (ZQ ((([]:List Int):List Int).length+(w.skip:List Int).length) 8)).bind fun _=>
 (Zj (Zbm w y1 y2 y3) NN (0,[])).bind (fun o0=>
 some (⟨y1,o0,y2,y3,w.now,((([]:List Zk):List Zk)++w.scans),((([]:List Int):List Int)++w.skip),w.made⟩:Zd))
instance (w:Zd):CT Tryz.prog (ZaZ w):=⟨80,[.ag (Zbt w)],[],fun r=>.ag [.ms 0,.ms 1,vi r.network.change,.ms 2,.ms 3,.ms 4,vi r.now,.ms 5,.ms 6,vi r.made],fun r=>[some ⟨67,6,r.network.legs.map cLeg⟩,some ⟨3,1,r.network.off.map cInt⟩,some ⟨62,11,r.orders.map Zw⟩,some ⟨135,4,r.bookings.map Zg⟩,some ⟨55,2,r.closed.map Zs⟩,some ⟨130,6,r.scans.map ZF⟩,some ⟨3,1,r.skip.map cInt⟩],fun H=>by replace H:=H0 H; unfold ZaZ at H; exact Zh Tryz.func80 rfl Tryz.ntmps80 Tryz.results80 fun Q hQ hQn=>wk3⟩
def ZbZ (l:List Int):Option (List Int):=
 (chk (ZQ ((([]:List Int):List Int).length+(l:List Int).length) 8)).bind fun _=>
 some ((([]:List Int):List Int)++l)
instance (l:List Int):CT Tryz.prog (ZbZ l):=⟨162,[.sl (l.map cInt)],[],fun r=>.ms 0,fun r=>[some ⟨3,1,r.map cInt⟩],fun H=>by replace H:=H0 H; unfold ZbZ at H; exact Zh Tryz.func162 rfl Tryz.ntmps162 Tryz.results162 fun Q hQ hQn=>wk3⟩
def Zdj (l:List Zc):Option (List Zc):=
 (chk (ZQ ((([]:List Zc):List Zc).length+(l:List Zc).length) 32)).bind fun _=>
 some ((([]:List Zc):List Zc)++l)
instance (l:List Zc):CT Tryz.prog (Zdj l):=⟨163,[.sl (l.map Zg)],[],fun r=>.ms 0,fun r=>[some ⟨135,4,r.map Zg⟩],fun H=>by replace H:=H0 H; unfold Zdj at H; exact Zh Tryz.func163 rfl Tryz.ntmps163 Tryz.results163 fun Q hQ hQn=>wk3⟩
def ZbN (w:Zd) (y1:(List Int)) (s0:Int × (List Zf)):Option ((Int × (List Zf)) ⊕ (List Zf)):=
 cond (decide (s0.1<(w.orders.length:Int)))
 ((getI w.orders s0.1).bind fun y2=>
 (chk (ZQ ((([]:List Ze):List Ze).length+(y2.way:List Ze).length) 16)).bind fun _=>
 (frz (.un::.be 0 0 0::.be 1 0 0::.be 2 0 0::vi s0.1::.be 6 0 0::(U 59 [])) [some ⟨41,10,[[.sl (w.network.legs.map cLeg),.sl (w.network.off.map cInt),vi w.network.change,.sl (w.orders.map Zw),.sl (w.bookings.map Zg),.sl (w.closed.map Zs),vi w.now,.sl (w.scans.map ZF),.sl (w.skip.map cInt),vi w.made]]⟩,some ⟨41,10,[[.v (.slice none 0 0),.v (.slice none 0 0),vi 0,.v (.slice none 0 0),.v (.slice none 0 0),.v (.slice none 0 0),vi 0,.v (.slice none 0 0),.v (.slice none 0 0),vi 0]]⟩,some ⟨41,10,[[.ms 3,.ms 4,vi w.network.change,.ms 5,.sl (w.bookings.map Zg),.sl (w.closed.map Zs),vi w.now,.sl (w.scans.map ZF),.sl (w.skip.map cInt),vi w.made]]⟩,some ⟨67,6,((([]:List YLeg):List YLeg)++w.network.legs).map cLeg⟩,some ⟨3,1,y1.map cInt⟩,some ⟨62,11,s0.2.map Zw⟩,some ⟨62,11,[[vs y2.from_,vs y2.to_,vi y2.service,vi y2.weight,vi y2.at_,vi y2.due,.sl (((([]:List Ze):List Ze)++y2.way).map Zs),vi y2.gone,vi y2.state,vs y2.place,vi y2.ended]]⟩]).bind fun _=>
 (chk (ZQ ((s0.2:List Zf).length+([(⟨y2.from_,y2.to_,y2.service,y2.weight,y2.at_,y2.due,((([]:List Ze):List Ze)++y2.way),y2.gone,y2.state,y2.place,y2.ended⟩:Zf)]:List Zf).length) 128)).bind fun _=>
 some (.inl ((w64 (s0.1+1)),((s0.2:List Zf)++[(⟨y2.from_,y2.to_,y2.service,y2.weight,y2.at_,y2.due,((([]:List Ze):List Ze)++y2.way),y2.gone,y2.state,y2.place,y2.ended⟩:Zf)]))))
 (some (.inr s0.2))
instance (w:Zd) (y1:(List Int)):ZP (ZbN w y1):=⟨fun s0=>(.un::.be 0 0 0::.be 1 0 0::.be 2 0 0::vi s0.1::(U 60 [])),fun s0=>[some ⟨41,10,[[.sl (w.network.legs.map cLeg),.sl (w.network.off.map cInt),vi w.network.change,.sl (w.orders.map Zw),.sl (w.bookings.map Zg),.sl (w.closed.map Zs),vi w.now,.sl (w.scans.map ZF),.sl (w.skip.map cInt),vi w.made]]⟩,some ⟨41,10,[[.v (.slice none 0 0),.v (.slice none 0 0),vi 0,.v (.slice none 0 0),.v (.slice none 0 0),.v (.slice none 0 0),vi 0,.v (.slice none 0 0),.v (.slice none 0 0),vi 0]]⟩,some ⟨41,10,[[.ms 3,.ms 4,vi w.network.change,.ms 5,.sl (w.bookings.map Zg),.sl (w.closed.map Zs),vi w.now,.sl (w.scans.map ZF),.sl (w.skip.map cInt),vi w.made]]⟩,some ⟨67,6,((([]:List YLeg):List YLeg)++w.network.legs).map cLeg⟩,some ⟨3,1,y1.map cInt⟩,some ⟨62,11,s0.2.map Zw⟩]⟩
def Zbf (w:Zd):Option Zd:=
 (chk (ZQ ((([]:List YLeg):List YLeg).length+(w.network.legs:List YLeg).length) 64)).bind fun _=>
 (ZbZ w.network.off).bind fun y1=>
 (Zj (ZbN w y1) NN (0,([]:List Zf))).bind (fun o0=>
 (Zdj w.bookings).bind fun y3=>
 (chk (ZQ ((([]:List Ze):List Ze).length+(w.closed:List Ze).length) 16)).bind fun _=>
 (chk (ZQ ((([]:List Zk):List Zk).length+(w.scans:List Zk).length) 56)).bind fun _=>
 (ZbZ w.skip).bind fun y4=>
 some (⟨(⟨((([]:List YLeg):List YLeg)++w.network.legs),y1,w.network.change⟩:Za),o0,y3,((([]:List Ze):List Ze)++w.closed),w.now,((([]:List Zk):List Zk)++w.scans),y4,w.made⟩:Zd))
instance (w:Zd):CT Tryz.prog (Zbf w):=⟨70,[.ag (Zbt w)],[],fun r=>.ag [.ms 0,.ms 1,vi r.network.change,.ms 2,.ms 3,.ms 4,vi r.now,.ms 5,.ms 6,vi r.made],fun r=>[some ⟨67,6,r.network.legs.map cLeg⟩,some ⟨3,1,r.network.off.map cInt⟩,some ⟨62,11,r.orders.map Zw⟩,some ⟨135,4,r.bookings.map Zg⟩,some ⟨55,2,r.closed.map Zs⟩,some ⟨130,6,r.scans.map ZF⟩,some ⟨3,1,r.skip.map cInt⟩],fun H=>by replace H:=H0 H; unfold Zbf at H; exact Zh Tryz.func70 rfl Tryz.ntmps70 Tryz.results70 fun Q hQ hQn=>wk3⟩
def Zdf (until_:Int) (s0:Int × Int × Int × Int × (List YLeg) × (List Int) × (List Zf) × (List Zc) × (List Ze) × (List Zk) × (List Int)):Option ((Int × Int × Int × Int × (List YLeg) × (List Int) × (List Zf) × (List Zc) × (List Ze) × (List Zk) × (List Int)) ⊕ (Int × Int × Int × (List YLeg) × (List Int) × (List Zf) × (List Zc) × (List Ze) × (List Zk) × (List Int))):=
 cond (decide (s0.1<240))
 ((Zeg (⟨(⟨s0.2.2.2.2.1,s0.2.2.2.2.2.1,s0.2.1⟩:Za),s0.2.2.2.2.2.2.1,s0.2.2.2.2.2.2.2.1,s0.2.2.2.2.2.2.2.2.1,s0.2.2.1,s0.2.2.2.2.2.2.2.2.2.1,s0.2.2.2.2.2.2.2.2.2.2,s0.2.2.2.1⟩:Zd)).bind fun y4=>
 cond (decide (y4<0))
 (some (.inr (s0.2.1,s0.2.2.1,s0.2.2.2.1,s0.2.2.2.2.1,s0.2.2.2.2.2.1,s0.2.2.2.2.2.2.1,s0.2.2.2.2.2.2.2.1,s0.2.2.2.2.2.2.2.2.1,s0.2.2.2.2.2.2.2.2.2.1,s0.2.2.2.2.2.2.2.2.2.2)))
 (cond (decide (until_<y4))
 (some (.inr (s0.2.1,s0.2.2.1,s0.2.2.2.1,s0.2.2.2.2.1,s0.2.2.2.2.2.1,s0.2.2.2.2.2.2.1,s0.2.2.2.2.2.2.2.1,s0.2.2.2.2.2.2.2.2.1,s0.2.2.2.2.2.2.2.2.2.1,s0.2.2.2.2.2.2.2.2.2.2)))
 ((rhoM [1,2,3,4,5,6,7,8]).bind fun _=>
 (ZeD (⟨(⟨s0.2.2.2.2.1,s0.2.2.2.2.2.1,s0.2.1⟩:Za),s0.2.2.2.2.2.2.1,s0.2.2.2.2.2.2.2.1,s0.2.2.2.2.2.2.2.2.1,s0.2.2.1,s0.2.2.2.2.2.2.2.2.2.1,s0.2.2.2.2.2.2.2.2.2.2,s0.2.2.2.1⟩:Zd) y4).bind fun y5=>
 some (.inl ((w64 (s0.1+1)),y5.network.change,y5.now,y5.made,y5.network.legs,y5.network.off,y5.orders,y5.bookings,y5.closed,y5.scans,y5.skip)))))
 (some (.inr (s0.2.1,s0.2.2.1,s0.2.2.2.1,s0.2.2.2.2.1,s0.2.2.2.2.2.1,s0.2.2.2.2.2.2.1,s0.2.2.2.2.2.2.2.1,s0.2.2.2.2.2.2.2.2.1,s0.2.2.2.2.2.2.2.2.2.1,s0.2.2.2.2.2.2.2.2.2.2)))
instance (until_:Int):ZP (Zdf until_):=⟨fun s0=>(.un::vi until_::.un::.un::.be 0 0 0::.be 1 0 0::vi s0.1::(U 32 [])),fun s0=>[some ⟨41,10,[[.v (.slice none 0 0),.v (.slice none 0 0),vi 0,.v (.slice none 0 0),.v (.slice none 0 0),.v (.slice none 0 0),vi 0,.v (.slice none 0 0),.v (.slice none 0 0),vi 0]]⟩,some ⟨41,10,[[.ms 2,.ms 3,vi s0.2.1,.ms 4,.ms 5,.ms 6,vi s0.2.2.1,.ms 7,.ms 8,vi s0.2.2.2.1]]⟩,some ⟨67,6,s0.2.2.2.2.1.map cLeg⟩,some ⟨3,1,s0.2.2.2.2.2.1.map cInt⟩,some ⟨62,11,s0.2.2.2.2.2.2.1.map Zw⟩,some ⟨135,4,s0.2.2.2.2.2.2.2.1.map Zg⟩,some ⟨55,2,s0.2.2.2.2.2.2.2.2.1.map Zs⟩,some ⟨130,6,s0.2.2.2.2.2.2.2.2.2.1.map ZF⟩,some ⟨3,1,s0.2.2.2.2.2.2.2.2.2.2.map cInt⟩]⟩
def Za0 (w:Zd) (until_:Int):Option Zd:=
 (Zbf w).bind fun y1=>
 (Zbs w).bind fun y2=>
 cond (!y2)
 (some y1)
 ((ZJ until_ w.now 100000).bind fun y3=>
 cond (!y3)
 (some y1)
 ((Zj (Zdf until_) NN (0,y1.network.change,y1.now,y1.made,y1.network.legs,y1.network.off,y1.orders,y1.bookings,y1.closed,y1.scans,y1.skip)).bind (fun o0=>
 some (⟨(⟨o0.2.2.2.1,o0.2.2.2.2.1,o0.1⟩:Za),o0.2.2.2.2.2.1,o0.2.2.2.2.2.2.1,o0.2.2.2.2.2.2.2.1,until_,o0.2.2.2.2.2.2.2.2.1,o0.2.2.2.2.2.2.2.2.2,o0.2.2.1⟩:Zd))))
instance (w:Zd) (until_:Int):CT Tryz.prog (Za0 w until_):=⟨16,[.ag (Zbt w),vi until_],[],fun r=>.ag [.ms 0,.ms 1,vi r.network.change,.ms 2,.ms 3,.ms 4,vi r.now,.ms 5,.ms 6,vi r.made],fun r=>[some ⟨67,6,r.network.legs.map cLeg⟩,some ⟨3,1,r.network.off.map cInt⟩,some ⟨62,11,r.orders.map Zw⟩,some ⟨135,4,r.bookings.map Zg⟩,some ⟨55,2,r.closed.map Zs⟩,some ⟨130,6,r.scans.map ZF⟩,some ⟨3,1,r.skip.map cInt⟩],fun H=>by replace H:=H0 H; unfold Za0 at H; exact Zh Tryz.func16 rfl Tryz.ntmps16 Tryz.results16 fun Q hQ hQn=>wk3⟩
end Go.Proofs.YtmcdjilbkmhfoaaGreat
