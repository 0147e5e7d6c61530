/- The statement FnExactNewWorldSaid: for every input that can be read the law FnExactNewWorld returns true and leaves its arguments as they were. No further condition. -/
import Derived.Test.YtooikkfldddjfaaGreatCNewWorld3
import Derived.Test.YtooikkfldddjfaaGreatCNewWorld2
import Derived.Test.YtooikkfldddjfaaGreatProg
import Derived.Laws.BytesArg
import Derived.Test.YtooikkfldddjfaaGreatRows
import Derived.OpenShut
/- What a valid world's orders are; what happens next, and when an order's end is planned: the two sides answer alike. -/
namespace Go.Proofs.YtooikkfldddjfaaGreat
set_option maxRecDepth 10000
open Go.RowKit
set_option linter.unusedVariables false
set_option linter.unusedSimpArgs false
set_option linter.unusedSectionVars false
structure LegOk (l : YLeg) : Prop where
  start : 0 ≤ l.start ∧ l.start ≤ 1439
  takes : 1 ≤ l.takes ∧ l.takes ≤ 4320
  room : 0 ≤ l.room ∧ l.room ≤ 1000000
theorem isLeg_ok {l : YLeg} (h : legFit l) (hv : m_spec_IsLeg l = some true) : LegOk l := by
  obtain ⟨_, b1, s1⟩ := isPlace_eq (s := l.from_) h.1
  obtain ⟨_, b2, s2⟩ := isPlace_eq (s := l.to_) h.2
  unfold m_spec_IsLeg at hv
  rw [s1, s2] at hv
  simp only [Option.bind_some, l1In_v] at hv
  cases b1 with
  | false => simp at hv
  | true =>
  cases b2 with
  | false => simp at hv
  | true =>
  simp only [cond_true] at hv
  cases h1 : decide (l.from_ = l.to_) with
  | true => rw [h1] at hv; simp at hv
  | false =>
  rw [h1] at hv
  cases h2 : decide (0 ≤ l.start) && decide (l.start ≤ 1439) with
  | false => rw [h2] at hv; simp at hv
  | true =>
  rw [h2] at hv
  cases h3 : decide (1 ≤ l.takes) && decide (l.takes ≤ 4320) with
  | false => rw [h3] at hv; simp at hv
  | true =>
  rw [h3] at hv
  cases h4 : decide (1 ≤ l.days) && decide (l.days ≤ 127) with
  | false => rw [h4] at hv; simp at hv
  | true =>
  rw [h4] at hv
  cases h5 : decide (0 ≤ l.room) && decide (l.room ≤ 1000000) with
  | false => rw [h5] at hv; simp at hv
  | true =>
  simp only [Bool.and_eq_true, decide_eq_true_iff] at h2 h3 h5
  exact ⟨h2, h3, h5⟩
theorem net_leg {n : YNetwork} (h : NetFit n) (hn : m_spec_IsNetwork n = some true) : ∀ l ∈ n.legs, LegOk l := by
  have e : iterF (m_spec_IsNetwork_b0 n) NN 0 = some (if allI (fun _ l => (m_spec_IsLeg l).getD false) 0 n.legs = true then .inl () else .inr false) := by
    refine iter_fold (A := Unit) (fun _ i => i) _ (fun a _ => a) id (fun a i l hl => ?_) (fun a => ?_) (by have := h.legs; unfold NN; omega) ()
    · have hlt := (List.getElem?_eq_some_iff.1 hl).1
      have hcl := h.legs
      have hg : getI n.legs (i : Int) = some l := by rw [getI_nat]; exact hl
      have hi : w64 ((i : Int) + 1) = ((i + 1 : Nat) : Int) := w64_nat hlt (by omega)
      obtain ⟨_, b, hb⟩ := isLeg_eq (h.leg l (List.mem_of_getElem? hl))
      unfold m_spec_IsNetwork_b0
      simp only [decide_eq_true (show (i : Int) < n.legs.length by omega), cond_true, hg, Option.bind_some, hb, hi, Option.getD_some]
      cases b <;> rfl
    · unfold m_spec_IsNetwork_b0
      simp
  unfold m_spec_IsNetwork at hn
  rw [e] at hn
  by_cases ha : allI (fun _ l => (m_spec_IsLeg l).getD false) 0 n.legs = true
  · intro l hl
    obtain ⟨i, hi, rfl⟩ := List.getElem_of_mem hl
    have := allI_iff.1 ha i _ (List.getElem?_eq_getElem hi)
    obtain ⟨_, b, hb⟩ := isLeg_eq (h.leg _ (List.getElem_mem hi))
    rw [hb] at this
    simp at this
    subst this
    exact isLeg_ok (h.leg _ (List.getElem_mem hi)) hb
  · rw [if_neg ha] at hn
    simp at hn
theorem trip_day {n : YNetwork} {t : YTrip} (ht : tripB n t = true) : 0 ≤ t.day ∧ t.day ≤ 60 := by
  unfold tripB m_spec_l3Runs at ht
  rw [l1In_v, l1In_v] at ht
  simp only [Option.bind_some] at ht
  cases h1 : decide (0 ≤ t.leg) && decide (t.leg ≤ w64 ((n.legs.length : Int) - 1)) with
  | false => rw [h1] at ht; simp at ht
  | true =>
  rw [h1] at ht
  simp only [cond_true] at ht
  cases h2 : decide (0 ≤ t.day) && decide (t.day ≤ 60) with
  | false => rw [h2] at ht; simp at ht
  | true => simpa only [Bool.and_eq_true, decide_eq_true_iff] using h2
/-- When a trip starts and ends. -/
def startV (n : YNetwork) (t : YTrip) : Int := (m_spec_l3Starts n t).getD 0
def endsV (n : YNetwork) (t : YTrip) : Int := (m_spec_l3Ends n t).getD 0
theorem trip_time {n : YNetwork} (h : NetFit n) (hn : m_spec_IsNetwork n = some true) {t : YTrip} (ht : tripB n t = true) :
    m_spec_l3Starts n t = some (startV n t) ∧ m_spec_l3Ends n t = some (endsV n t) ∧ 0 ≤ startV n t ∧ startV n t < endsV n t ∧ endsV n t ≤ 100000 := by
  obtain ⟨y, hy, hm⟩ := tripB_leg h ht
  obtain ⟨d0, d1⟩ := trip_day ht
  have hl := net_leg h hn y hm
  obtain ⟨a0, a1⟩ := hl.start
  obtain ⟨b0, b1⟩ := hl.takes
  have e1 : m_spec_l3Starts n t = some (t.day * 1440 + y.start) := by
    unfold m_spec_l3Starts
    rw [hy]
    simp only [Option.bind_some]
    rw [w64_in (n := t.day * 1440) (by omega), w64_in (by omega)]
  have e2 : m_spec_l3Ends n t = some (t.day * 1440 + y.start + y.takes) := by
    unfold m_spec_l3Ends
    rw [e1, hy]
    simp only [Option.bind_some]
    rw [w64_in (by omega)]
  have s1 : startV n t = t.day * 1440 + y.start := by unfold startV; rw [e1]; rfl
  have s2 : endsV n t = t.day * 1440 + y.start + y.takes := by unfold endsV; rw [e2]; rfl
  refine ⟨by rw [e1, s1], by rw [e2, s2], by omega, by omega, by omega⟩
theorem optb {b c : Bool} (h : some b = some c) : b = c := Option.some.inj h
/-- What a valid order's state says. -/
theorem state_cases {n : YNetwork} {o : YOrder} {now : Int} (h : m_spec_l10State n o now = some true) : (o.state = 1 ∧ ¬ (o.place = o.to_)) ∨ (o.state = 2 ∧ o.gone < o.way.length) ∨ (o.state = 3 ∧ o.gone = o.way.length ∧ 0 < o.gone) := by
  by_cases h1 : o.state = 1
  · refine .inl ⟨h1, fun hp => ?_⟩
    unfold m_spec_l10State at h
    rw [decide_eq_true h1] at h
    cases h0 : decide (0 < o.gone) with
    | false =>
      rw [h0] at h
      simp only [cond_false, cond_true] at h
      cases hq : decide (o.place = o.from_) with
      | false => rw [hq] at h; cases h
      | true =>
        rw [hq, decide_eq_true (show o.from_ = o.to_ from (of_decide_eq_true hq).symm.trans hp)] at h
        cases h
    | true =>
      rw [h0] at h
      simp only [cond_false, cond_true] at h
      cases hg : getI o.way (w64 (o.gone - 1)) with
      | none => rw [hg] at h; cases h
      | some y1 =>
        rw [hg] at h
        simp only [Option.bind_some] at h
        cases hl : getI n.legs y1.leg with
        | none => rw [hl] at h; cases h
        | some y2 =>
          rw [hl] at h
          simp only [Option.bind_some] at h
          cases he : m_spec_l3Ends n y1 with
          | none => rw [he] at h; cases h
          | some v =>
            rw [he] at h
            simp only [Option.bind_some] at h
            cases hc : decide (now < v) with
            | true => rw [hc] at h; cases h
            | false =>
              rw [hc] at h
              simp only [cond_false] at h
              cases hq : decide (o.place = y2.to_) with
              | false => rw [hq] at h; cases h
              | true =>
                rw [hq, decide_eq_true (show y2.to_ = o.to_ from (of_decide_eq_true hq).symm.trans hp)] at h
                cases h
  · by_cases h2 : o.state = 2
    · refine .inr (.inl ⟨h2, ?_⟩)
      rcases Classical.em (o.gone < o.way.length) with hlt | hlt
      · exact hlt
      exfalso
      unfold m_spec_l10State at h
      rw [decide_eq_false h1, decide_eq_true h2, decide_eq_false hlt] at h
      cases h0 : decide (0 < o.gone) with
      | false =>
        rw [h0] at h
        simp only [cond_false, cond_true] at h
        revert h; cases decide (o.place = ⟨#[]⟩) <;> cases decide (o.ended = 0) <;> (intro h; cases h)
      | true =>
        rw [h0] at h
        simp only [cond_false, cond_true] at h
        cases hg : getI o.way (w64 (o.gone - 1)) with
        | none => rw [hg] at h; cases h
        | some y1 =>
          rw [hg] at h
          simp only [Option.bind_some] at h
          cases hl : getI n.legs y1.leg with
          | none => rw [hl] at h; cases h
          | some y2 =>
            rw [hl] at h
            simp only [Option.bind_some] at h
            cases he : m_spec_l3Ends n y1 with
            | none => rw [he] at h; cases h
            | some v =>
              rw [he] at h
              simp only [Option.bind_some] at h
              revert h; cases decide (now < v) <;> cases decide (o.place = ⟨#[]⟩) <;> cases decide (o.ended = 0) <;> (intro h; cases h)
    · by_cases h3 : o.state = 3
      · refine .inr (.inr ⟨h3, ?_⟩)
        rcases Classical.em (o.gone = o.way.length ∧ 0 < o.gone) with hlt | hlt
        · exact hlt
        exfalso
        unfold m_spec_l10State at h
        rw [decide_eq_false h1, decide_eq_false h2, decide_eq_true h3] at h
        cases h0 : decide (0 < o.gone) with
        | false =>
          rw [h0] at h
          simp only [cond_false, cond_true] at h
          revert h; cases decide (o.place = o.to_) <;> cases decide (o.from_ = o.to_) <;> cases decide (o.gone = (o.way.length : Int)) <;> (intro h; cases h)
        | true =>
          have hne : ¬ o.gone = (o.way.length : Int) := fun e => hlt ⟨e, of_decide_eq_true h0⟩
          rw [h0, decide_eq_false hne] at h
          simp only [cond_false, cond_true] at h
          cases hg : getI o.way (w64 (o.gone - 1)) with
          | none => rw [hg] at h; cases h
          | some y1 =>
            rw [hg] at h
            simp only [Option.bind_some] at h
            cases hl : getI n.legs y1.leg with
            | none => rw [hl] at h; cases h
            | some y2 =>
              rw [hl] at h
              simp only [Option.bind_some] at h
              cases he : m_spec_l3Ends n y1 with
              | none => rw [he] at h; cases h
              | some v =>
                rw [he] at h
                simp only [Option.bind_some] at h
                revert h; cases decide (now < v) <;> cases decide (o.place = o.to_) <;> cases decide (y2.to_ = o.to_) <;> (intro h; cases h)
      · exfalso
        unfold m_spec_l10State at h
        rw [decide_eq_false h1, decide_eq_false h2, decide_eq_false h3] at h
        cases h0 : decide (0 < o.gone) with
        | false => rw [h0] at h; cases h
        | true =>
          rw [h0] at h
          simp only [cond_false, cond_true] at h
          cases hg : getI o.way (w64 (o.gone - 1)) with
          | none => rw [hg] at h; cases h
          | some y1 =>
            rw [hg] at h
            simp only [Option.bind_some] at h
            cases hl : getI n.legs y1.leg with
            | none => rw [hl] at h; cases h
            | some y2 =>
              rw [hl] at h
              simp only [Option.bind_some] at h
              cases he : m_spec_l3Ends n y1 with
              | none => rw [he] at h; cases h
              | some v =>
                rw [he] at h
                simp only [Option.bind_some] at h
                revert h; cases decide (now < v) <;> (intro h; cases h)
/-- What a valid world's order is. -/
structure OrderOk (w : YWorld) (i : Nat) (o : YOrder) : Prop where
  gone : 0 ≤ o.gone ∧ o.gone ≤ o.way.length
  trip : ∀ t ∈ o.way, tripB w.network t = true
  way : allI (wayC w ((i + 1 : Nat) : Int) o) 0 o.way = true
  isWay : m_spec_IsWay w.network o.way o.from_ (endV w.network o) (w64 (o.at_ + 1)) = some true
  st : m_spec_l10State w.network o w.now = some true
  cases : (o.state = 1 ∧ ¬ (o.place = o.to_)) ∨ (o.state = 2 ∧ o.gone < o.way.length) ∨ (o.state = 3 ∧ o.gone = o.way.length ∧ 0 < o.gone)
  open_ : ((o.way.drop (comesV o).toNat).any (closedB w.closed)) = false
  fromto : ¬ o.from_ = o.to_
  at_ : 0 ≤ o.at_ ∧ o.at_ ≤ w.now
  due : 0 ≤ o.due ∧ o.due ≤ 200000
theorem order_ok {w : YWorld} (hf : WFit w) {i : Nat} {o : YOrder} (hl : o.way.length ≤ 1048576) (h : orderV w i o = true) : OrderOk w i o := by
  unfold orderV at h
  simp only [Bool.and_eq_true, Bool.not_eq_true', decide_eq_true_iff, decide_eq_false_iff_not] at h
  obtain ⟨⟨⟨⟨⟨⟨⟨⟨⟨⟨⟨h1, h2⟩, h3⟩, h4⟩, h5⟩, h6⟩, h7⟩, h8⟩, h9⟩, h10⟩, h11⟩, h12⟩ := h
  have ht : ∀ t ∈ o.way, tripB w.network t = true := by
    intro t ht
    obtain ⟨j, hj, rfl⟩ := List.getElem_of_mem ht
    have := allI_iff.1 h9 j _ (List.getElem?_eq_getElem hj)
    unfold wayC at this
    simp only [Bool.and_eq_true] at this
    exact this.1.1
  obtain ⟨r, hr⟩ := isWay_some hf.net hl o.from_ (endV w.network o) (w64 (o.at_ + 1))
  obtain ⟨b, hb⟩ := state_some (n := w.network) h8 hl (fun t htt => by obtain ⟨y, hy, _⟩ := tripB_leg hf.net (ht t htt); exact ⟨y, hy⟩) w.now
  rw [hr] at h10
  rw [hb] at h11
  simp only [Option.getD_some] at h10 h11
  subst h10 h11
  exact ⟨h8, ht, h9, hr, hb, state_cases hb, h12, h3, h6, h7⟩
section
variable {w : YWorld} (hf : WFit w) (hv : worldV w = true)
include hf hv
theorem world_ok {i : Nat} {o : YOrder} (ho : w.orders[i]? = some o) : OrderOk w i o := order_ok hf (hf.way o (List.mem_of_getElem? ho)) (world_order hv ho)
theorem world_net : m_spec_IsNetwork w.network = some true := (books_net (world_books hv)).1
theorem way_at {o : YOrder} {i : Nat} (ho : w.orders[i]? = some o) {k : Int} (h0 : 0 ≤ k) (h1 : k < o.way.length) : ∃ t, getI o.way k = some t ∧ tripB w.network t = true := by
  have hlt : k.toNat < o.way.length := by omega
  exact ⟨o.way[k.toNat], by unfold getI; rw [if_pos h0]; exact List.getElem?_eq_getElem hlt, (world_ok hf hv ho).trip _ (List.getElem_mem hlt)⟩
theorem next_eq : m_impl_nextEvent w = (iterF (m_spec_NextEvent_b0 w) NN (0, (-1))).bind (fun o0 => some o0) := by
  have hnet := world_net hf hv
  have hor := hf.orders
  let F : Nat → Int → YOrder → Option (Int ⊕ Int) := fun _ a o =>
    if o.gone = o.way.length then some (.inl a) else (getI o.way o.gone).bind fun t =>
      let v := if o.state = 2 then endsV w.network t else startV w.network t
      some (.inl (if a < 0 ∨ v < a then v else a))
  have e1 : iterF (m_impl_nextEvent_b0 w) NN ((-1), 0) = runL F some 0 w.orders (-1) := by
    refine iter_list (A := Int) (fun a i => (a, i)) F some (fun a i o ho => ?_) (fun a => ?_) (by unfold NN; omega) (-1)
    · have hlt := (List.getElem?_eq_some_iff.1 ho).1
      have hg : getI w.orders (i : Int) = some o := by rw [getI_nat]; exact ho
      have hi : w64 ((i : Int) + 1) = ((i + 1 : Nat) : Int) := w64_nat hlt (by omega)
      have hok := world_ok hf hv ho
      unfold m_impl_nextEvent_b0
      simp only [decide_eq_true (show (i : Int) < w.orders.length by omega), cond_true, hg, Option.bind_some, hi, starts_eq, ends_eq]
      show _ = (F i a o).bind _
      simp only [F]
      by_cases hgl : o.gone < o.way.length
      · obtain ⟨t, htg, htb⟩ := way_at hf hv ho hok.gone.1 hgl
        obtain ⟨t1, t2, t3, t4, t5⟩ := trip_time hf.net hnet htb
        rw [if_neg (show ¬ o.gone = (o.way.length : Int) by omega), htg]
        simp only [Option.bind_some, t1, t2, decide_eq_true hgl]
        rcases hok.cases with ⟨c1, _⟩ | ⟨c1, _⟩ | ⟨c1, c2, _⟩
        · rw [c1]
          simp only [show decide ((1 : Int) = 2) = false from rfl, show decide ((1 : Int) = 1) = true from rfl, cond_true, cond_false, decide_eq_true t3, show ¬ ((1 : Int) = 2) by omega, if_false, selim]
          by_cases ha : a < 0
          · simp [ha]
          · by_cases hb : startV w.network t < a <;> simp [ha, hb]
        · rw [c1]
          simp only [show decide ((2 : Int) = 2) = true from rfl, cond_true, decide_eq_true (show 0 ≤ endsV w.network t by omega), if_true, selim]
          by_cases ha : a < 0
          · simp [ha]
          · by_cases hb : endsV w.network t < a <;> simp [ha, hb]
        · omega
      · have hge := hok.gone.2
        rw [if_pos (show o.gone = (o.way.length : Int) by omega), decide_eq_false hgl]
        rcases hok.cases with ⟨c1, _⟩ | ⟨c1, _⟩ | ⟨c1, c2, _⟩
        · rw [c1]; rfl
        · omega
        · rw [c1]; rfl
    · unfold m_impl_nextEvent_b0
      simp
  have e2 : iterF (m_spec_NextEvent_b0 w) NN (0, (-1)) = runL F some 0 w.orders (-1) := by
    refine iter_list (A := Int) (fun a i => (i, a)) F some (fun a i o ho => ?_) (fun a => ?_) (by unfold NN; omega) (-1)
    · have hlt := (List.getElem?_eq_some_iff.1 ho).1
      have hg : getI w.orders (i : Int) = some o := by rw [getI_nat]; exact ho
      have hi : w64 ((i : Int) + 1) = ((i + 1 : Nat) : Int) := w64_nat hlt (by omega)
      have hok := world_ok hf hv ho
      unfold m_spec_NextEvent_b0
      simp only [decide_eq_true (show (i : Int) < w.orders.length by omega), cond_true, hg, Option.bind_some, hi]
      show _ = (F i a o).bind _
      simp only [F]
      by_cases hgl : o.gone < o.way.length
      · obtain ⟨t, htg, htb⟩ := way_at hf hv ho hok.gone.1 hgl
        obtain ⟨t1, t2, t3, t4, t5⟩ := trip_time hf.net hnet htb
        rw [if_neg (show ¬ o.gone = (o.way.length : Int) by omega), decide_eq_false (show ¬ o.gone = (o.way.length : Int) by omega), htg]
        simp only [Option.bind_some, t1, t2, cond_false]
        by_cases c1 : o.state = 2
        · simp only [decide_eq_true c1, cond_true, if_pos c1, selim]
          by_cases ha : a < 0
          · simp [ha]
          · by_cases hb : endsV w.network t < a <;> simp [ha, hb]
        · simp only [decide_eq_false c1, cond_false, if_neg c1, selim]
          by_cases ha : a < 0
          · simp [ha]
          · by_cases hb : startV w.network t < a <;> simp [ha, hb]
      · have hge := hok.gone.2
        rw [if_pos (show o.gone = (o.way.length : Int) by omega), decide_eq_true (show o.gone = (o.way.length : Int) by omega)]
        rfl
    · unfold m_spec_NextEvent_b0
      simp
  unfold m_impl_nextEvent
  rw [e1, e2]
theorem next_some : ∃ v, m_impl_nextEvent w = some v := by
  rw [next_eq hf hv]
  have hnet := world_net hf hv
  have hor := hf.orders
  obtain ⟨o, ho⟩ : ∃ o, iterF (m_spec_NextEvent_b0 w) NN (0, (-1)) = some o := by
    refine iter_tot (fun k s => ∃ i : Nat, i + k = w.orders.length ∧ s.1 = (i : Int)) ?_ NN w.orders.length _ ⟨0, by omega, rfl⟩ (by unfold NN; omega)
    rintro k ⟨i', a⟩ ⟨i, hi, hs⟩
    simp only at hs
    subst hs
    unfold m_spec_NextEvent_b0
    rcases Nat.lt_or_ge i w.orders.length with hlt | hge
    · have hw := w64_nat hlt (by omega)
      have ho : w.orders[i]? = some w.orders[i] := List.getElem?_eq_getElem hlt
      have hg : getI w.orders (i : Int) = some w.orders[i] := by rw [getI_nat]; exact ho
      have hok := world_ok hf hv ho
      simp only [decide_eq_true (show (i : Int) < w.orders.length by omega), cond_true, hg, Option.bind_some, hw]
      by_cases hgl : w.orders[i].gone < w.orders[i].way.length
      · obtain ⟨t, htg, htb⟩ := way_at hf hv ho hok.gone.1 hgl
        obtain ⟨t1, t2, t3, t4, t5⟩ := trip_time hf.net hnet htb
        simp only [decide_eq_false (show ¬ w.orders[i].gone = (w.orders[i].way.length : Int) by omega), htg, t1, t2, cond_false, Option.bind_some]
        cases decide (w.orders[i].state = 2) <;> cases decide (a < 0) <;> cases decide (endsV w.network t < a) <;> cases decide (startV w.network t < a) <;> exact ⟨_, rfl, fun s' e => by cases e; exact ⟨k - 1, by omega, i + 1, by omega, rfl⟩⟩
      · have hge := hok.gone.2
        simp only [decide_eq_true (show w.orders[i].gone = (w.orders[i].way.length : Int) by omega), cond_true]
        exact ⟨_, rfl, fun s' e => by cases e; exact ⟨k - 1, by omega, i + 1, by omega, rfl⟩⟩
    · simp only [decide_eq_false (show ¬ (i : Int) < w.orders.length by omega), cond_false]
      exact ⟨_, rfl, fun s' e => by cases e⟩
  exact ⟨o, by rw [ho]; rfl⟩
end
theorem nextEvent_eq {w : YWorld} (hf : WFit w) : ∃ v, m_impl_NextEvent w = some v ∧ m_spec_NextEvent w = some v := by
  unfold m_impl_NextEvent m_spec_NextEvent
  rw [impl_world hf, spec_world hf]
  cases hv : worldV w with
  | false => exact ⟨-1, rfl, rfl⟩
  | true =>
    obtain ⟨v, h⟩ := next_some hf hv
    have h2 := next_eq hf hv
    rw [h] at h2
    simp only [Option.bind_some, Bool.not_true, cond_false, h]
    exact ⟨v, rfl, h2.symm⟩
theorem stranded_eq {w : YWorld} (hf : WFit w) (hv : worldV w = true) {i : Nat} {o : YOrder} (ho : w.orders[i]? = some o) : ∃ b, m_impl_isStranded w o = some b ∧ m_spec_l10Stranded w (i : Int) = some b ∧ (b = false → 0 < o.way.length) := by
  have hok := world_ok hf hv ho
  have hl := hf.way o (List.mem_of_getElem? ho)
  obtain ⟨c1, c2, c3⟩ := comes_v hok.gone hl
  have hg : getI w.orders (i : Int) = some o := by rw [getI_nat]; exact ho
  unfold m_impl_isStranded m_spec_l10Stranded
  rw [hg]
  simp only [Option.bind_some]
  rcases hok.cases with ⟨k1, k2⟩ | ⟨k1, k2⟩ | ⟨k1, k2, k3⟩
  · have hcv : comesV o = o.gone := by unfold comesV; rw [k1]; rfl
    have hge := hok.gone
    have hh : m_spec_l10Here w.network o = some o.place := by unfold m_spec_l10Here; rw [k1]; rfl
    rw [here_eq, hh, c1, c3, hcv, if_neg (show ¬ (o.way.length : Int) < o.gone by omega), k1]
    simp only [Option.bind_some]
    by_cases hgl : o.gone = o.way.length
    · refine ⟨true, ?_, ?_, fun h => by cases h⟩
      · rw [decide_eq_true hgl, decide_eq_false k2]; rfl
      · rw [decide_eq_true hgl, decide_eq_false k2]; rfl
    · exact ⟨false, by rw [decide_eq_false hgl]; rfl, by rw [decide_eq_false hgl]; rfl, fun _ => by omega⟩
  · have hcv : comesV o = o.gone + 1 := by unfold comesV; rw [k1]; rfl
    have hge := hok.gone
    obtain ⟨t, htg, htb⟩ := way_at hf hv ho hok.gone.1 k2
    obtain ⟨y, hy, _⟩ := tripB_leg hf.net htb
    have hh : m_spec_l10Here w.network o = some y.to_ := by unfold m_spec_l10Here; rw [k1, htg]; simp [hy]
    rw [here_eq, hh, c1, c3, hcv, if_neg (show ¬ (o.way.length : Int) < o.gone + 1 by omega), k1]
    simp only [Option.bind_some]
    cases decide (o.gone + 1 = (o.way.length : Int)) with
    | true => exact ⟨_, rfl, rfl, fun _ => by omega⟩
    | false => exact ⟨_, rfl, rfl, fun _ => by omega⟩
  · rw [k1]
    exact ⟨false, rfl, rfl, fun _ => by omega⟩
theorem plannedEnd_eq {w : YWorld} (hf : WFit w) (id : Int) : ∃ v, m_impl_PlannedEnd w id = some v ∧ m_spec_PlannedEnd w id = some v := by
  unfold m_impl_PlannedEnd m_spec_PlannedEnd
  rw [impl_world hf, spec_world hf, within_eq, l1In_v]
  cases hv : worldV w with
  | false => exact ⟨-1, rfl, rfl⟩
  | true =>
    simp only [Option.bind_some, Bool.not_true, cond_false]
    cases hr : decide (1 ≤ id) && decide (id ≤ (w.orders.length : Int)) with
    | false => exact ⟨-1, rfl, rfl⟩
    | true =>
      simp only [Bool.and_eq_true, decide_eq_true_iff] at hr
      have hor := hf.orders
      have hw : w64 (id - 1) = ((id - 1).toNat : Int) := by rw [w64_in (by omega)]; omega
      have hlt : (id - 1).toNat < w.orders.length := by omega
      have ho : w.orders[(id - 1).toNat]? = some w.orders[(id - 1).toNat] := List.getElem?_eq_getElem hlt
      have hg : getI w.orders ((id - 1).toNat : Int) = some w.orders[(id - 1).toNat] := by rw [getI_nat]; exact ho
      obtain ⟨b, b1, b2, b3⟩ := stranded_eq hf hv ho
      rw [hw, hg]
      simp only [Option.bind_some, Bool.not_true, cond_false, b1, b2]
      cases b with
      | true => exact ⟨-1, rfl, rfl⟩
      | false =>
        have hpos := b3 rfl
        have hl := hf.way _ (List.mem_of_getElem? ho)
        have hw2 : w64 ((w.orders[(id - 1).toNat].way.length : Int) - 1) = (w.orders[(id - 1).toNat].way.length : Int) - 1 := w64_in (by omega)
        obtain ⟨t, htg, htb⟩ := way_at hf hv ho (k := (w.orders[(id - 1).toNat].way.length : Int) - 1) (by omega) (by omega)
        obtain ⟨t1, t2, t3, t4, t5⟩ := trip_time hf.net (world_net hf hv) htb
        rw [decide_eq_false (show ¬ (w.orders[(id - 1).toNat].way.length : Int) = 0 by omega), hw2, htg, ends_eq]
        simp only [Option.bind_some, t2, cond_false]
        exact ⟨_, rfl, rfl⟩
end Go.Proofs.YtooikkfldddjfaaGreat

/- The mirror of laws.eqLeg, and that the code does just that (printed by a program of my own). -/
namespace Go.Proofs.YtooikkfldddjfaaGreat
set_option maxRecDepth 10000
open Go.RowKit
set_option linter.unusedVariables false
set_option maxHeartbeats 16000000
def m_laws_eqLeg (a : YLeg) (b : YLeg) : Option Bool :=
 cond (!decide (a.from_ = b.from_))
 (some false)
 (cond (!decide (a.to_ = b.to_))
 (some false)
 (cond (!decide (a.start = b.start))
 (some false)
 (cond (!decide (a.takes = b.takes))
 (some false)
 (cond (!decide (a.days = b.days))
 (some false)
 (cond (!decide (a.room = b.room))
 (some false)
 (some true))))))
theorem ok_laws_eqLeg (a : YLeg) (b : YLeg) {r : Bool} (H : m_laws_eqLeg a b = some r) : CallM Tryz.prog 123 [.ag (cLeg a), .ag (cLeg b)] [] (vb r) [] := by
  replace H := H0 H
  unfold m_laws_eqLeg at H
  refine callM_of Tryz.func123 rfl Tryz.ntmps123 Tryz.results123 fun Q hQ hQn => ?_
  exact wk
instance (a : YLeg) (b : YLeg) : CT Tryz.prog (m_laws_eqLeg a b) := ⟨123, [.ag (cLeg a), .ag (cLeg b)], [], fun r => vb r, fun r => [], ok_laws_eqLeg a b⟩
end Go.Proofs.YtooikkfldddjfaaGreat

/- The mirror of laws.toLeg, and that the code does just that (printed by a program of my own). -/
namespace Go.Proofs.YtooikkfldddjfaaGreat
set_option maxRecDepth 10000
open Go.RowKit
set_option linter.unusedVariables false
set_option maxHeartbeats 16000000
def m_laws_toLeg (a : YLeg) : Option YLeg :=
 some a
theorem ok_laws_toLeg (a : YLeg) {r : YLeg} (H : m_laws_toLeg a = some r) : CallM Tryz.prog 122 [.ag (cLeg a)] [] (.ag [vs r.from_, vs r.to_, vi r.start, vi r.takes, vi r.days, vi r.room]) [] := by
  replace H := H0 H
  unfold m_laws_toLeg at H
  refine callM_of Tryz.func122 rfl Tryz.ntmps122 Tryz.results122 fun Q hQ hQn => ?_
  exact wk
instance (a : YLeg) : CT Tryz.prog (m_laws_toLeg a) := ⟨122, [.ag (cLeg a)], [], fun r => .ag [vs r.from_, vs r.to_, vi r.start, vi r.takes, vi r.days, vi r.room], fun r => [], ok_laws_toLeg a⟩
end Go.Proofs.YtooikkfldddjfaaGreat

/- The mirror of laws.szLeg, and that the code does just that (printed by a program of my own). -/
namespace Go.Proofs.YtooikkfldddjfaaGreat
set_option maxRecDepth 10000
open Go.RowKit
set_option linter.unusedVariables false
set_option maxHeartbeats 16000000
def m_laws_szLeg (a : YLeg) (left : Int) : Option Int :=
 cond (decide ((w64 (left - (a.from_.size : Int))) < 0))
 (some (-1))
 (cond (decide ((w64 ((w64 (left - (a.from_.size : Int))) - (a.to_.size : Int))) < 0))
 (some (-1))
 (some (w64 ((w64 (left - (a.from_.size : Int))) - (a.to_.size : Int)))))
theorem ok_laws_szLeg (a : YLeg) (left : Int) {r : Int} (H : m_laws_szLeg a left = some r) : CallM Tryz.prog 119 [.ag (cLeg a), vi left] [] (vi r) [] := by
  replace H := H0 H
  unfold m_laws_szLeg at H
  refine callM_of Tryz.func119 rfl Tryz.ntmps119 Tryz.results119 fun Q hQ hQn => ?_
  exact wk
instance (a : YLeg) (left : Int) : CT Tryz.prog (m_laws_szLeg a left) := ⟨119, [.ag (cLeg a), vi left], [], fun r => vi r, fun r => [], ok_laws_szLeg a left⟩
end Go.Proofs.YtooikkfldddjfaaGreat

/- The mirror of laws.eqLegS, and that the code does just that (printed by a program of my own). -/
namespace Go.Proofs.YtooikkfldddjfaaGreat
set_option maxRecDepth 10000
open Go.RowKit
set_option linter.unusedVariables false
set_option maxHeartbeats 16000000
def m_laws_eqLegS_b0 (a : List YLeg) (b : List YLeg) (s0 : Int) : Option (Int ⊕ (Unit ⊕ Bool)) :=
 cond (decide (s0 < (a.length : Int)))
 ((getI a s0).bind fun y1 =>
 (getI b s0).bind fun y2 =>
 (m_laws_eqLeg y1 y2).bind fun y3 =>
 cond (!y3)
 (some (.inr (.inr false)))
 (some (.inl (w64 (s0 + 1)))))
 (some (.inr (.inl ())))
instance (a : List YLeg) (b : List YLeg) : LoopE (m_laws_eqLegS_b0 a b) := ⟨fun s0 => [.sl (a.map cLeg), .sl (b.map cLeg), .un, .un, .un, vi s0, .un, .un, .un, .un, .un, .un, .un, .un, .un, .un, .un, .un, .un, .un, .un, .un, .un, .un, .un, .un, .un], fun s0 => []⟩
def m_laws_eqLegS (a : List YLeg) (b : List YLeg) : Option Bool :=
 cond (!decide ((a.length : Int) = (b.length : Int)))
 (some false)
 ((iterF (m_laws_eqLegS_b0 a b) NN 0).bind (selim (fun o0 =>
 some true) (fun r => some r)))
theorem ok_laws_eqLegS (a : List YLeg) (b : List YLeg) {r : Bool} (H : m_laws_eqLegS a b = some r) : CallM Tryz.prog 78 [.sl (a.map cLeg), .sl (b.map cLeg)] [] (vb r) [] := by
  replace H := H0 H
  unfold m_laws_eqLegS at H
  refine callM_of Tryz.func78 rfl Tryz.ntmps78 Tryz.results78 fun Q hQ hQn => ?_
  exact wk
instance (a : List YLeg) (b : List YLeg) : CT Tryz.prog (m_laws_eqLegS a b) := ⟨78, [.sl (a.map cLeg), .sl (b.map cLeg)], [], fun r => vb r, fun r => [], ok_laws_eqLegS a b⟩
end Go.Proofs.YtooikkfldddjfaaGreat

/- The mirror of laws.toLegS, and that the code does just that (printed by a program of my own). -/
namespace Go.Proofs.YtooikkfldddjfaaGreat
set_option maxRecDepth 10000
open Go.RowKit
set_option linter.unusedVariables false
set_option maxHeartbeats 16000000
def m_laws_toLegS_b0 (a : List YLeg) (s0 : Int × (List YLeg)) : Option ((Int × (List YLeg)) ⊕ (List YLeg)) :=
 cond (decide (s0.1 < (a.length : Int)))
 ((getI a s0.1).bind fun y1 =>
 (m_laws_toLeg y1).bind fun y2 =>
 (getI s0.2 s0.1).bind fun y3 =>
 some (.inl ((w64 (s0.1 + 1)), (s0.2.set (Int.toNat s0.1) y2))))
 (some (.inr s0.2))
instance (a : List YLeg) : LoopE (m_laws_toLegS_b0 a) := ⟨fun s0 => [.sl (a.map cLeg), .un, .un, .ms 0, vi s0.1, .un, .un, .un, .un, .un, .un, .un, .un, .un, .un, .un, .un, .un, .un, .un, .un, .un, .un], fun s0 => [some ⟨118, 6, s0.2.map cLeg⟩]⟩
def m_laws_toLegS (a : List YLeg) : Option (List YLeg) :=
 (chk (mkOk (a.length : Int) 64)).bind fun _ =>
 (iterF (m_laws_toLegS_b0 a) NN (0, (List.replicate (Int.toNat (a.length : Int)) (⟨⟨#[]⟩, ⟨#[]⟩, 0, 0, 0, 0⟩ : YLeg)))).bind (fun o0 =>
 some o0)
theorem ok_laws_toLegS (a : List YLeg) {r : (List YLeg)} (H : m_laws_toLegS a = some r) : CallM Tryz.prog 76 [.sl (a.map cLeg)] [] (.ms 0) [some ⟨118, 6, r.map cLeg⟩] := by
  replace H := H0 H
  unfold m_laws_toLegS at H
  refine callM_of Tryz.func76 rfl Tryz.ntmps76 Tryz.results76 fun Q hQ hQn => ?_
  exact wk
instance (a : List YLeg) : CT Tryz.prog (m_laws_toLegS a) := ⟨76, [.sl (a.map cLeg)], [], fun r => .ms 0, fun r => [some ⟨118, 6, r.map cLeg⟩], ok_laws_toLegS a⟩
end Go.Proofs.YtooikkfldddjfaaGreat

/- The mirror of laws.szLegS, and that the code does just that (printed by a program of my own). -/
namespace Go.Proofs.YtooikkfldddjfaaGreat
set_option maxRecDepth 10000
open Go.RowKit
set_option linter.unusedVariables false
set_option maxHeartbeats 16000000
def m_laws_szLegS_b0 (a : List YLeg) (s0 : Int × Int) : Option ((Int × Int) ⊕ (Int ⊕ Int)) :=
 cond (decide (s0.2 < (a.length : Int)))
 ((getI a s0.2).bind fun y1 =>
 (m_laws_szLeg y1 s0.1).bind fun y2 =>
 cond (decide (y2 < 0))
 (some (.inr (.inr (-1))))
 (some (.inl (y2, (w64 (s0.2 + 1))))))
 (some (.inr (.inl s0.1)))
instance (a : List YLeg) : LoopE (m_laws_szLegS_b0 a) := ⟨fun s0 => [.sl (a.map cLeg), vi s0.1, .un, .un, .un, vi s0.2, .un, .un, .un, .un, .un, .un, .un, .un, .un, .un, .un, .un, .un, .un, .un, .un, .un, .un, .un, .un, .un], fun s0 => []⟩
def m_laws_szLegS (a : List YLeg) (left : Int) : Option Int :=
 cond (decide ((w64 (left - (a.length : Int))) < 0))
 (some (-1))
 ((iterF (m_laws_szLegS_b0 a) NN ((w64 (left - (a.length : Int))), 0)).bind (selim (fun o0 =>
 some o0) (fun r => some r)))
theorem ok_laws_szLegS (a : List YLeg) (left : Int) {r : Int} (H : m_laws_szLegS a left = some r) : CallM Tryz.prog 74 [.sl (a.map cLeg), vi left] [] (vi r) [] := by
  replace H := H0 H
  unfold m_laws_szLegS at H
  refine callM_of Tryz.func74 rfl Tryz.ntmps74 Tryz.results74 fun Q hQ hQn => ?_
  exact wk
instance (a : List YLeg) (left : Int) : CT Tryz.prog (m_laws_szLegS a left) := ⟨74, [.sl (a.map cLeg), vi left], [], fun r => vi r, fun r => [], ok_laws_szLegS a left⟩
end Go.Proofs.YtooikkfldddjfaaGreat

/- The mirror of laws.eqIntS, and that the code does just that (printed by a program of my own). -/
namespace Go.Proofs.YtooikkfldddjfaaGreat
set_option maxRecDepth 10000
open Go.RowKit
set_option linter.unusedVariables false
set_option maxHeartbeats 16000000
def m_laws_eqIntS_b0 (a : List Int) (b : List Int) (s0 : Int) : Option (Int ⊕ (Unit ⊕ Bool)) :=
 cond (decide (s0 < (a.length : Int)))
 ((getI a s0).bind fun y1 =>
 (getI b s0).bind fun y2 =>
 cond (!decide (y1 = y2))
 (some (.inr (.inr false)))
 (some (.inl (w64 (s0 + 1)))))
 (some (.inr (.inl ())))
instance (a : List Int) (b : List Int) : LoopE (m_laws_eqIntS_b0 a b) := ⟨fun s0 => [.sl (a.map cInt), .sl (b.map cInt), .un, .un, .un, vi s0, .un, .un, .un, .un, .un, .un, .un, .un, .un, .un, .un, .un, .un, .un, .un, .un, .un, .un, .un, .un], fun s0 => []⟩
def m_laws_eqIntS (a : List Int) (b : List Int) : Option Bool :=
 cond (!decide ((a.length : Int) = (b.length : Int)))
 (some false)
 ((iterF (m_laws_eqIntS_b0 a b) NN 0).bind (selim (fun o0 =>
 some true) (fun r => some r)))
theorem ok_laws_eqIntS (a : List Int) (b : List Int) {r : Bool} (H : m_laws_eqIntS a b = some r) : CallM Tryz.prog 21 [.sl (a.map cInt), .sl (b.map cInt)] [] (vb r) [] := by
  replace H := H0 H
  unfold m_laws_eqIntS at H
  refine callM_of Tryz.func21 rfl Tryz.ntmps21 Tryz.results21 fun Q hQ hQn => ?_
  exact wk
instance (a : List Int) (b : List Int) : CT Tryz.prog (m_laws_eqIntS a b) := ⟨21, [.sl (a.map cInt), .sl (b.map cInt)], [], fun r => vb r, fun r => [], ok_laws_eqIntS a b⟩
end Go.Proofs.YtooikkfldddjfaaGreat

/- The mirror of laws.toIntS, and that the code does just that (printed by a program of my own). -/
namespace Go.Proofs.YtooikkfldddjfaaGreat
set_option maxRecDepth 10000
open Go.RowKit
set_option linter.unusedVariables false
set_option maxHeartbeats 16000000
def m_laws_toIntS_b0 (a : List Int) (s0 : Int × (List Int)) : Option ((Int × (List Int)) ⊕ (List Int)) :=
 cond (decide (s0.1 < (a.length : Int)))
 ((getI a s0.1).bind fun y1 =>
 (getI s0.2 s0.1).bind fun y2 =>
 some (.inl ((w64 (s0.1 + 1)), (s0.2.set (Int.toNat s0.1) y1))))
 (some (.inr s0.2))
instance (a : List Int) : LoopE (m_laws_toIntS_b0 a) := ⟨fun s0 => [.sl (a.map cInt), .un, .un, .ms 0, vi s0.1, .un, .un, .un, .un, .un, .un, .un, .un, .un, .un, .un, .un, .un, .un, .un, .un, .un], fun s0 => [some ⟨3, 1, s0.2.map cInt⟩]⟩
def m_laws_toIntS (a : List Int) : Option (List Int) :=
 (chk (mkOk (a.length : Int) 8)).bind fun _ =>
 (iterF (m_laws_toIntS_b0 a) NN (0, (List.replicate (Int.toNat (a.length : Int)) 0))).bind (fun o0 =>
 some o0)
theorem ok_laws_toIntS (a : List Int) {r : (List Int)} (H : m_laws_toIntS a = some r) : CallM Tryz.prog 33 [.sl (a.map cInt)] [] (.ms 0) [some ⟨3, 1, r.map cInt⟩] := by
  replace H := H0 H
  unfold m_laws_toIntS at H
  refine callM_of Tryz.func33 rfl Tryz.ntmps33 Tryz.results33 fun Q hQ hQn => ?_
  exact wk
instance (a : List Int) : CT Tryz.prog (m_laws_toIntS a) := ⟨33, [.sl (a.map cInt)], [], fun r => .ms 0, fun r => [some ⟨3, 1, r.map cInt⟩], ok_laws_toIntS a⟩
end Go.Proofs.YtooikkfldddjfaaGreat

/- The mirror of laws.szIntS, and that the code does just that (printed by a program of my own). -/
namespace Go.Proofs.YtooikkfldddjfaaGreat
set_option maxRecDepth 10000
open Go.RowKit
set_option linter.unusedVariables false
set_option maxHeartbeats 16000000
def m_laws_szIntS (a : List Int) (left : Int) : Option Int :=
 cond (decide ((w64 (left - (a.length : Int))) < 0))
 (some (-1))
 (some (w64 (left - (a.length : Int))))
theorem ok_laws_szIntS (a : List Int) (left : Int) {r : Int} (H : m_laws_szIntS a left = some r) : CallM Tryz.prog 42 [.sl (a.map cInt), vi left] [] (vi r) [] := by
  replace H := H0 H
  unfold m_laws_szIntS at H
  refine callM_of Tryz.func42 rfl Tryz.ntmps42 Tryz.results42 fun Q hQ hQn => ?_
  exact wk
instance (a : List Int) (left : Int) : CT Tryz.prog (m_laws_szIntS a left) := ⟨42, [.sl (a.map cInt), vi left], [], fun r => vi r, fun r => [], ok_laws_szIntS a left⟩
end Go.Proofs.YtooikkfldddjfaaGreat

/- The mirror of laws.eqNetwork, and that the code does just that (printed by a program of my own). -/
namespace Go.Proofs.YtooikkfldddjfaaGreat
set_option maxRecDepth 10000
open Go.RowKit
set_option linter.unusedVariables false
set_option maxHeartbeats 16000000
def m_laws_eqNetwork (a : YNetwork) (b : YNetwork) : Option Bool :=
 (m_laws_eqLegS a.legs b.legs).bind fun y1 =>
 cond (!y1)
 (some false)
 ((m_laws_eqIntS a.off b.off).bind fun y2 =>
 cond (!y2)
 (some false)
 (cond (!decide (a.change = b.change))
 (some false)
 (some true)))
theorem ok_laws_eqNetwork (a : YNetwork) (b : YNetwork) {r : Bool} (H : m_laws_eqNetwork a b = some r) : CallM Tryz.prog 35 [.ag (cNetwork a), .ag (cNetwork b)] [] (vb r) [] := by
  replace H := H0 H
  unfold m_laws_eqNetwork at H
  refine callM_of Tryz.func35 rfl Tryz.ntmps35 Tryz.results35 fun Q hQ hQn => ?_
  exact wk
instance (a : YNetwork) (b : YNetwork) : CT Tryz.prog (m_laws_eqNetwork a b) := ⟨35, [.ag (cNetwork a), .ag (cNetwork b)], [], fun r => vb r, fun r => [], ok_laws_eqNetwork a b⟩
end Go.Proofs.YtooikkfldddjfaaGreat

/- The mirror of laws.toNetwork, and that the code does just that (printed by a program of my own). -/
namespace Go.Proofs.YtooikkfldddjfaaGreat
set_option maxRecDepth 10000
open Go.RowKit
set_option linter.unusedVariables false
set_option maxHeartbeats 16000000
def m_laws_toNetwork (a : YNetwork) : Option YNetwork :=
 (m_laws_toLegS a.legs).bind fun y1 =>
 (m_laws_toIntS a.off).bind fun y2 =>
 some (⟨y1, y2, a.change⟩ : YNetwork)
theorem ok_laws_toNetwork (a : YNetwork) {r : YNetwork} (H : m_laws_toNetwork a = some r) : CallM Tryz.prog 32 [.ag (cNetwork a)] [] (.ag [.sl (r.legs.map cLeg), .sl (r.off.map cInt), vi r.change]) [] := by
  replace H := H0 H
  unfold m_laws_toNetwork at H
  refine callM_of Tryz.func32 rfl Tryz.ntmps32 Tryz.results32 fun Q hQ hQn => ?_
  exact wk
instance (a : YNetwork) : CT Tryz.prog (m_laws_toNetwork a) := ⟨32, [.ag (cNetwork a)], [], fun r => .ag [.sl (r.legs.map cLeg), .sl (r.off.map cInt), vi r.change], fun r => [], ok_laws_toNetwork a⟩
end Go.Proofs.YtooikkfldddjfaaGreat

/- The mirror of laws.szNetwork, and that the code does just that (printed by a program of my own). -/
namespace Go.Proofs.YtooikkfldddjfaaGreat
set_option maxRecDepth 10000
open Go.RowKit
set_option linter.unusedVariables false
set_option maxHeartbeats 16000000
def m_laws_szNetwork (a : YNetwork) (left : Int) : Option Int :=
 (m_laws_szLegS a.legs left).bind fun y1 =>
 cond (decide (y1 < 0))
 (some (-1))
 ((m_laws_szIntS a.off y1).bind fun y2 =>
 cond (decide (y2 < 0))
 (some (-1))
 (some y2))
theorem ok_laws_szNetwork (a : YNetwork) (left : Int) {r : Int} (H : m_laws_szNetwork a left = some r) : CallM Tryz.prog 30 [.ag (cNetwork a), vi left] [] (vi r) [] := by
  replace H := H0 H
  unfold m_laws_szNetwork at H
  refine callM_of Tryz.func30 rfl Tryz.ntmps30 Tryz.results30 fun Q hQ hQn => ?_
  exact wk
instance (a : YNetwork) (left : Int) : CT Tryz.prog (m_laws_szNetwork a left) := ⟨30, [.ag (cNetwork a), vi left], [], fun r => vi r, fun r => [], ok_laws_szNetwork a left⟩
end Go.Proofs.YtooikkfldddjfaaGreat

/- The mirror of laws.eqTrip, and that the code does just that (printed by a program of my own). -/
namespace Go.Proofs.YtooikkfldddjfaaGreat
set_option maxRecDepth 10000
open Go.RowKit
set_option linter.unusedVariables false
set_option maxHeartbeats 16000000
def m_laws_eqTrip (a : YTrip) (b : YTrip) : Option Bool :=
 cond (!decide (a.leg = b.leg))
 (some false)
 (cond (!decide (a.day = b.day))
 (some false)
 (some true))
theorem ok_laws_eqTrip (a : YTrip) (b : YTrip) {r : Bool} (H : m_laws_eqTrip a b = some r) : CallM Tryz.prog 114 [.ag (cTrip a), .ag (cTrip b)] [] (vb r) [] := by
  replace H := H0 H
  unfold m_laws_eqTrip at H
  refine callM_of Tryz.func114 rfl Tryz.ntmps114 Tryz.results114 fun Q hQ hQn => ?_
  exact wk
instance (a : YTrip) (b : YTrip) : CT Tryz.prog (m_laws_eqTrip a b) := ⟨114, [.ag (cTrip a), .ag (cTrip b)], [], fun r => vb r, fun r => [], ok_laws_eqTrip a b⟩
end Go.Proofs.YtooikkfldddjfaaGreat

/- The mirror of laws.toTrip, and that the code does just that (printed by a program of my own). -/
namespace Go.Proofs.YtooikkfldddjfaaGreat
set_option maxRecDepth 10000
open Go.RowKit
set_option linter.unusedVariables false
set_option maxHeartbeats 16000000
def m_laws_toTrip (a : YTrip) : Option YTrip :=
 some a
theorem ok_laws_toTrip (a : YTrip) {r : YTrip} (H : m_laws_toTrip a = some r) : CallM Tryz.prog 28 [.ag (cTrip a)] [] (.ag [vi r.leg, vi r.day]) [] := by
  replace H := H0 H
  unfold m_laws_toTrip at H
  refine callM_of Tryz.func28 rfl Tryz.ntmps28 Tryz.results28 fun Q hQ hQn => ?_
  exact wk
instance (a : YTrip) : CT Tryz.prog (m_laws_toTrip a) := ⟨28, [.ag (cTrip a)], [], fun r => .ag [vi r.leg, vi r.day], fun r => [], ok_laws_toTrip a⟩
end Go.Proofs.YtooikkfldddjfaaGreat

/- The mirror of laws.eqTripS, and that the code does just that (printed by a program of my own). -/
namespace Go.Proofs.YtooikkfldddjfaaGreat
set_option maxRecDepth 10000
open Go.RowKit
set_option linter.unusedVariables false
set_option maxHeartbeats 16000000
def m_laws_eqTripS_b0 (a : List YTrip) (b : List YTrip) (s0 : Int) : Option (Int ⊕ (Unit ⊕ Bool)) :=
 cond (decide (s0 < (a.length : Int)))
 ((getI a s0).bind fun y1 =>
 (getI b s0).bind fun y2 =>
 (m_laws_eqTrip y1 y2).bind fun y3 =>
 cond (!y3)
 (some (.inr (.inr false)))
 (some (.inl (w64 (s0 + 1)))))
 (some (.inr (.inl ())))
instance (a : List YTrip) (b : List YTrip) : LoopE (m_laws_eqTripS_b0 a b) := ⟨fun s0 => [.sl (a.map cTrip), .sl (b.map cTrip), .un, .un, .un, vi s0, .un, .un, .un, .un, .un, .un, .un, .un, .un, .un, .un, .un, .un, .un, .un, .un, .un, .un, .un, .un, .un], fun s0 => []⟩
def m_laws_eqTripS (a : List YTrip) (b : List YTrip) : Option Bool :=
 cond (!decide ((a.length : Int) = (b.length : Int)))
 (some false)
 ((iterF (m_laws_eqTripS_b0 a b) NN 0).bind (selim (fun o0 =>
 some true) (fun r => some r)))
theorem ok_laws_eqTripS (a : List YTrip) (b : List YTrip) {r : Bool} (H : m_laws_eqTripS a b = some r) : CallM Tryz.prog 62 [.sl (a.map cTrip), .sl (b.map cTrip)] [] (vb r) [] := by
  replace H := H0 H
  unfold m_laws_eqTripS at H
  refine callM_of Tryz.func62 rfl Tryz.ntmps62 Tryz.results62 fun Q hQ hQn => ?_
  exact wk
instance (a : List YTrip) (b : List YTrip) : CT Tryz.prog (m_laws_eqTripS a b) := ⟨62, [.sl (a.map cTrip), .sl (b.map cTrip)], [], fun r => vb r, fun r => [], ok_laws_eqTripS a b⟩
end Go.Proofs.YtooikkfldddjfaaGreat

/- The mirror of laws.toTripS, and that the code does just that (printed by a program of my own). -/
namespace Go.Proofs.YtooikkfldddjfaaGreat
set_option maxRecDepth 10000
open Go.RowKit
set_option linter.unusedVariables false
set_option maxHeartbeats 16000000
def m_laws_toTripS_b0 (a : List YTrip) (s0 : Int × (List YTrip)) : Option ((Int × (List YTrip)) ⊕ (List YTrip)) :=
 cond (decide (s0.1 < (a.length : Int)))
 ((getI a s0.1).bind fun y1 =>
 (m_laws_toTrip y1).bind fun y2 =>
 (getI s0.2 s0.1).bind fun y3 =>
 some (.inl ((w64 (s0.1 + 1)), (s0.2.set (Int.toNat s0.1) y2))))
 (some (.inr s0.2))
instance (a : List YTrip) : LoopE (m_laws_toTripS_b0 a) := ⟨fun s0 => [.sl (a.map cTrip), .un, .un, .ms 0, vi s0.1, .un, .un, .un, .un, .un, .un, .un, .un, .un, .un, .un, .un, .un, .un, .un, .un, .un, .un], fun s0 => [some ⟨57, 2, s0.2.map cTrip⟩]⟩
def m_laws_toTripS (a : List YTrip) : Option (List YTrip) :=
 (chk (mkOk (a.length : Int) 16)).bind fun _ =>
 (iterF (m_laws_toTripS_b0 a) NN (0, (List.replicate (Int.toNat (a.length : Int)) (⟨0, 0⟩ : YTrip)))).bind (fun o0 =>
 some o0)
theorem ok_laws_toTripS (a : List YTrip) {r : (List YTrip)} (H : m_laws_toTripS a = some r) : CallM Tryz.prog 51 [.sl (a.map cTrip)] [] (.ms 0) [some ⟨57, 2, r.map cTrip⟩] := by
  replace H := H0 H
  unfold m_laws_toTripS at H
  refine callM_of Tryz.func51 rfl Tryz.ntmps51 Tryz.results51 fun Q hQ hQn => ?_
  exact wk
instance (a : List YTrip) : CT Tryz.prog (m_laws_toTripS a) := ⟨51, [.sl (a.map cTrip)], [], fun r => .ms 0, fun r => [some ⟨57, 2, r.map cTrip⟩], ok_laws_toTripS a⟩
end Go.Proofs.YtooikkfldddjfaaGreat

/- The mirror of laws.szTripS, and that the code does just that (printed by a program of my own). -/
namespace Go.Proofs.YtooikkfldddjfaaGreat
set_option maxRecDepth 10000
open Go.RowKit
set_option linter.unusedVariables false
set_option maxHeartbeats 16000000
def m_laws_szTripS (a : List YTrip) (left : Int) : Option Int :=
 cond (decide ((w64 (left - (a.length : Int))) < 0))
 (some (-1))
 (some (w64 (left - (a.length : Int))))
theorem ok_laws_szTripS (a : List YTrip) (left : Int) {r : Int} (H : m_laws_szTripS a left = some r) : CallM Tryz.prog 40 [.sl (a.map cTrip), vi left] [] (vi r) [] := by
  replace H := H0 H
  unfold m_laws_szTripS at H
  refine callM_of Tryz.func40 rfl Tryz.ntmps40 Tryz.results40 fun Q hQ hQn => ?_
  exact wk
instance (a : List YTrip) (left : Int) : CT Tryz.prog (m_laws_szTripS a left) := ⟨40, [.sl (a.map cTrip), vi left], [], fun r => vi r, fun r => [], ok_laws_szTripS a left⟩
end Go.Proofs.YtooikkfldddjfaaGreat

/- The mirror of laws.eqOrder, and that the code does just that (printed by a program of my own). -/
namespace Go.Proofs.YtooikkfldddjfaaGreat
set_option maxRecDepth 10000
open Go.RowKit
set_option linter.unusedVariables false
set_option maxHeartbeats 16000000
def m_laws_eqOrder (a : YOrder) (b : YOrder) : Option Bool :=
 cond (!decide (a.from_ = b.from_))
 (some false)
 (cond (!decide (a.to_ = b.to_))
 (some false)
 (cond (!decide (a.service = b.service))
 (some false)
 (cond (!decide (a.weight = b.weight))
 (some false)
 (cond (!decide (a.at_ = b.at_))
 (some false)
 (cond (!decide (a.due = b.due))
 (some false)
 ((m_laws_eqTripS a.way b.way).bind fun y1 =>
 cond (!y1)
 (some false)
 (cond (!decide (a.gone = b.gone))
 (some false)
 (cond (!decide (a.state = b.state))
 (some false)
 (cond (!decide (a.place = b.place))
 (some false)
 (cond (!decide (a.ended = b.ended))
 (some false)
 (some true)))))))))))
theorem ok_laws_eqOrder (a : YOrder) (b : YOrder) {r : Bool} (H : m_laws_eqOrder a b = some r) : CallM Tryz.prog 112 [.ag (cOrder a), .ag (cOrder b)] [] (vb r) [] := by
  replace H := H0 H
  unfold m_laws_eqOrder at H
  refine callM_of Tryz.func112 rfl Tryz.ntmps112 Tryz.results112 fun Q hQ hQn => ?_
  exact wk
instance (a : YOrder) (b : YOrder) : CT Tryz.prog (m_laws_eqOrder a b) := ⟨112, [.ag (cOrder a), .ag (cOrder b)], [], fun r => vb r, fun r => [], ok_laws_eqOrder a b⟩
end Go.Proofs.YtooikkfldddjfaaGreat

/- The mirror of laws.toOrder, and that the code does just that (printed by a program of my own). -/
namespace Go.Proofs.YtooikkfldddjfaaGreat
set_option maxRecDepth 10000
open Go.RowKit
set_option linter.unusedVariables false
set_option maxHeartbeats 16000000
def m_laws_toOrder (a : YOrder) : Option YOrder :=
 (m_laws_toTripS a.way).bind fun y1 =>
 some (⟨a.from_, a.to_, a.service, a.weight, a.at_, a.due, y1, a.gone, a.state, a.place, a.ended⟩ : YOrder)
theorem ok_laws_toOrder (a : YOrder) {r : YOrder} (H : m_laws_toOrder a = some r) : CallM Tryz.prog 98 [.ag (cOrder a)] [] (.ag [vs r.from_, vs r.to_, vi r.service, vi r.weight, vi r.at_, vi r.due, .sl (r.way.map cTrip), vi r.gone, vi r.state, vs r.place, vi r.ended]) [] := by
  replace H := H0 H
  unfold m_laws_toOrder at H
  refine callM_of Tryz.func98 rfl Tryz.ntmps98 Tryz.results98 fun Q hQ hQn => ?_
  exact wk
instance (a : YOrder) : CT Tryz.prog (m_laws_toOrder a) := ⟨98, [.ag (cOrder a)], [], fun r => .ag [vs r.from_, vs r.to_, vi r.service, vi r.weight, vi r.at_, vi r.due, .sl (r.way.map cTrip), vi r.gone, vi r.state, vs r.place, vi r.ended], fun r => [], ok_laws_toOrder a⟩
end Go.Proofs.YtooikkfldddjfaaGreat

/- The mirror of laws.szOrder, and that the code does just that (printed by a program of my own). -/
namespace Go.Proofs.YtooikkfldddjfaaGreat
set_option maxRecDepth 10000
open Go.RowKit
set_option linter.unusedVariables false
set_option maxHeartbeats 16000000
def m_laws_szOrder (a : YOrder) (left : Int) : Option Int :=
 cond (decide ((w64 (left - (a.from_.size : Int))) < 0))
 (some (-1))
 (cond (decide ((w64 ((w64 (left - (a.from_.size : Int))) - (a.to_.size : Int))) < 0))
 (some (-1))
 ((m_laws_szTripS a.way (w64 ((w64 (left - (a.from_.size : Int))) - (a.to_.size : Int)))).bind fun y1 =>
 cond (decide (y1 < 0))
 (some (-1))
 (cond (decide ((w64 (y1 - (a.place.size : Int))) < 0))
 (some (-1))
 (some (w64 (y1 - (a.place.size : Int)))))))
theorem ok_laws_szOrder (a : YOrder) (left : Int) {r : Int} (H : m_laws_szOrder a left = some r) : CallM Tryz.prog 85 [.ag (cOrder a), vi left] [] (vi r) [] := by
  replace H := H0 H
  unfold m_laws_szOrder at H
  refine callM_of Tryz.func85 rfl Tryz.ntmps85 Tryz.results85 fun Q hQ hQn => ?_
  exact wk
instance (a : YOrder) (left : Int) : CT Tryz.prog (m_laws_szOrder a left) := ⟨85, [.ag (cOrder a), vi left], [], fun r => vi r, fun r => [], ok_laws_szOrder a left⟩
end Go.Proofs.YtooikkfldddjfaaGreat

/- The mirror of laws.eqOrderS, and that the code does just that (printed by a program of my own). -/
namespace Go.Proofs.YtooikkfldddjfaaGreat
set_option maxRecDepth 10000
open Go.RowKit
set_option linter.unusedVariables false
set_option maxHeartbeats 16000000
def m_laws_eqOrderS_b0 (a : List YOrder) (b : List YOrder) (s0 : Int) : Option (Int ⊕ (Unit ⊕ Bool)) :=
 cond (decide (s0 < (a.length : Int)))
 ((getI a s0).bind fun y1 =>
 (getI b s0).bind fun y2 =>
 (m_laws_eqOrder y1 y2).bind fun y3 =>
 cond (!y3)
 (some (.inr (.inr false)))
 (some (.inl (w64 (s0 + 1)))))
 (some (.inr (.inl ())))
instance (a : List YOrder) (b : List YOrder) : LoopE (m_laws_eqOrderS_b0 a b) := ⟨fun s0 => [.sl (a.map cOrder), .sl (b.map cOrder), .un, .un, .un, vi s0, .un, .un, .un, .un, .un, .un, .un, .un, .un, .un, .un, .un, .un, .un, .un, .un, .un, .un, .un, .un, .un], fun s0 => []⟩
def m_laws_eqOrderS (a : List YOrder) (b : List YOrder) : Option Bool :=
 cond (!decide ((a.length : Int) = (b.length : Int)))
 (some false)
 ((iterF (m_laws_eqOrderS_b0 a b) NN 0).bind (selim (fun o0 =>
 some true) (fun r => some r)))
theorem ok_laws_eqOrderS (a : List YOrder) (b : List YOrder) {r : Bool} (H : m_laws_eqOrderS a b = some r) : CallM Tryz.prog 60 [.sl (a.map cOrder), .sl (b.map cOrder)] [] (vb r) [] := by
  replace H := H0 H
  unfold m_laws_eqOrderS at H
  refine callM_of Tryz.func60 rfl Tryz.ntmps60 Tryz.results60 fun Q hQ hQn => ?_
  exact wk
instance (a : List YOrder) (b : List YOrder) : CT Tryz.prog (m_laws_eqOrderS a b) := ⟨60, [.sl (a.map cOrder), .sl (b.map cOrder)], [], fun r => vb r, fun r => [], ok_laws_eqOrderS a b⟩
end Go.Proofs.YtooikkfldddjfaaGreat

/- The mirror of laws.toOrderS, and that the code does just that (printed by a program of my own). -/
namespace Go.Proofs.YtooikkfldddjfaaGreat
set_option maxRecDepth 10000
open Go.RowKit
set_option linter.unusedVariables false
set_option maxHeartbeats 16000000
def m_laws_toOrderS_b0 (a : List YOrder) (s0 : Int × (List YOrder)) : Option ((Int × (List YOrder)) ⊕ (List YOrder)) :=
 cond (decide (s0.1 < (a.length : Int)))
 ((getI a s0.1).bind fun y1 =>
 (m_laws_toOrder y1).bind fun y2 =>
 (getI s0.2 s0.1).bind fun y3 =>
 some (.inl ((w64 (s0.1 + 1)), (s0.2.set (Int.toNat s0.1) y2))))
 (some (.inr s0.2))
instance (a : List YOrder) : LoopE (m_laws_toOrderS_b0 a) := ⟨fun s0 => [.sl (a.map cOrder), .un, .un, .ms 0, vi s0.1, .un, .un, .un, .un, .un, .un, .un, .un, .un, .un, .un, .un, .un, .un, .un, .un, .un, .un], fun s0 => [some ⟨81, 11, s0.2.map cOrder⟩]⟩
def m_laws_toOrderS (a : List YOrder) : Option (List YOrder) :=
 (chk (mkOk (a.length : Int) 128)).bind fun _ =>
 (iterF (m_laws_toOrderS_b0 a) NN (0, (List.replicate (Int.toNat (a.length : Int)) (⟨⟨#[]⟩, ⟨#[]⟩, 0, 0, 0, 0, [], 0, 0, ⟨#[]⟩, 0⟩ : YOrder)))).bind (fun o0 =>
 some o0)
theorem ok_laws_toOrderS (a : List YOrder) {r : (List YOrder)} (H : m_laws_toOrderS a = some r) : CallM Tryz.prog 49 [.sl (a.map cOrder)] [] (.ms 0) [some ⟨81, 11, r.map cOrder⟩] := by
  replace H := H0 H
  unfold m_laws_toOrderS at H
  refine callM_of Tryz.func49 rfl Tryz.ntmps49 Tryz.results49 fun Q hQ hQn => ?_
  exact wk
instance (a : List YOrder) : CT Tryz.prog (m_laws_toOrderS a) := ⟨49, [.sl (a.map cOrder)], [], fun r => .ms 0, fun r => [some ⟨81, 11, r.map cOrder⟩], ok_laws_toOrderS a⟩
end Go.Proofs.YtooikkfldddjfaaGreat

/- The mirror of laws.szOrderS, and that the code does just that (printed by a program of my own). -/
namespace Go.Proofs.YtooikkfldddjfaaGreat
set_option maxRecDepth 10000
open Go.RowKit
set_option linter.unusedVariables false
set_option maxHeartbeats 16000000
def m_laws_szOrderS_b0 (a : List YOrder) (s0 : Int × Int) : Option ((Int × Int) ⊕ (Int ⊕ Int)) :=
 cond (decide (s0.2 < (a.length : Int)))
 ((getI a s0.2).bind fun y1 =>
 (m_laws_szOrder y1 s0.1).bind fun y2 =>
 cond (decide (y2 < 0))
 (some (.inr (.inr (-1))))
 (some (.inl (y2, (w64 (s0.2 + 1))))))
 (some (.inr (.inl s0.1)))
instance (a : List YOrder) : LoopE (m_laws_szOrderS_b0 a) := ⟨fun s0 => [.sl (a.map cOrder), vi s0.1, .un, .un, .un, vi s0.2, .un, .un, .un, .un, .un, .un, .un, .un, .un, .un, .un, .un, .un, .un, .un, .un, .un, .un, .un, .un, .un], fun s0 => []⟩
def m_laws_szOrderS (a : List YOrder) (left : Int) : Option Int :=
 cond (decide ((w64 (left - (a.length : Int))) < 0))
 (some (-1))
 ((iterF (m_laws_szOrderS_b0 a) NN ((w64 (left - (a.length : Int))), 0)).bind (selim (fun o0 =>
 some o0) (fun r => some r)))
theorem ok_laws_szOrderS (a : List YOrder) (left : Int) {r : Int} (H : m_laws_szOrderS a left = some r) : CallM Tryz.prog 38 [.sl (a.map cOrder), vi left] [] (vi r) [] := by
  replace H := H0 H
  unfold m_laws_szOrderS at H
  refine callM_of Tryz.func38 rfl Tryz.ntmps38 Tryz.results38 fun Q hQ hQn => ?_
  exact wk
instance (a : List YOrder) (left : Int) : CT Tryz.prog (m_laws_szOrderS a left) := ⟨38, [.sl (a.map cOrder), vi left], [], fun r => vi r, fun r => [], ok_laws_szOrderS a left⟩
end Go.Proofs.YtooikkfldddjfaaGreat

/- The mirror of laws.eqBooking, and that the code does just that (printed by a program of my own). -/
namespace Go.Proofs.YtooikkfldddjfaaGreat
set_option maxRecDepth 10000
open Go.RowKit
set_option linter.unusedVariables false
set_option maxHeartbeats 16000000
def m_laws_eqBooking (a : YBooking) (b : YBooking) : Option Bool :=
 cond (!decide (a.thing = b.thing))
 (some false)
 ((m_laws_eqTrip a.trip b.trip).bind fun y1 =>
 cond (!y1)
 (some false)
 (cond (!decide (a.weight = b.weight))
 (some false)
 (some true)))
theorem ok_laws_eqBooking (a : YBooking) (b : YBooking) {r : Bool} (H : m_laws_eqBooking a b = some r) : CallM Tryz.prog 113 [.ag (cBooking a), .ag (cBooking b)] [] (vb r) [] := by
  replace H := H0 H
  unfold m_laws_eqBooking at H
  refine callM_of Tryz.func113 rfl Tryz.ntmps113 Tryz.results113 fun Q hQ hQn => ?_
  exact wk
instance (a : YBooking) (b : YBooking) : CT Tryz.prog (m_laws_eqBooking a b) := ⟨113, [.ag (cBooking a), .ag (cBooking b)], [], fun r => vb r, fun r => [], ok_laws_eqBooking a b⟩
end Go.Proofs.YtooikkfldddjfaaGreat

/- The mirror of laws.toBooking, and that the code does just that (printed by a program of my own). -/
namespace Go.Proofs.YtooikkfldddjfaaGreat
set_option maxRecDepth 10000
open Go.RowKit
set_option linter.unusedVariables false
set_option maxHeartbeats 16000000
def m_laws_toBooking (a : YBooking) : Option YBooking :=
 (m_laws_toTrip a.trip).bind fun y1 =>
 some (⟨a.thing, y1, a.weight⟩ : YBooking)
theorem ok_laws_toBooking (a : YBooking) {r : YBooking} (H : m_laws_toBooking a = some r) : CallM Tryz.prog 99 [.ag (cBooking a)] [] (.ag [vi r.thing, vi r.trip.leg, vi r.trip.day, vi r.weight]) [] := by
  replace H := H0 H
  unfold m_laws_toBooking at H
  refine callM_of Tryz.func99 rfl Tryz.ntmps99 Tryz.results99 fun Q hQ hQn => ?_
  exact wk
instance (a : YBooking) : CT Tryz.prog (m_laws_toBooking a) := ⟨99, [.ag (cBooking a)], [], fun r => .ag [vi r.thing, vi r.trip.leg, vi r.trip.day, vi r.weight], fun r => [], ok_laws_toBooking a⟩
end Go.Proofs.YtooikkfldddjfaaGreat

/- The mirror of laws.eqBookingS, and that the code does just that (printed by a program of my own). -/
namespace Go.Proofs.YtooikkfldddjfaaGreat
set_option maxRecDepth 10000
open Go.RowKit
set_option linter.unusedVariables false
set_option maxHeartbeats 16000000
def m_laws_eqBookingS_b0 (a : List YBooking) (b : List YBooking) (s0 : Int) : Option (Int ⊕ (Unit ⊕ Bool)) :=
 cond (decide (s0 < (a.length : Int)))
 ((getI a s0).bind fun y1 =>
 (getI b s0).bind fun y2 =>
 (m_laws_eqBooking y1 y2).bind fun y3 =>
 cond (!y3)
 (some (.inr (.inr false)))
 (some (.inl (w64 (s0 + 1)))))
 (some (.inr (.inl ())))
instance (a : List YBooking) (b : List YBooking) : LoopE (m_laws_eqBookingS_b0 a b) := ⟨fun s0 => [.sl (a.map cBooking), .sl (b.map cBooking), .un, .un, .un, vi s0, .un, .un, .un, .un, .un, .un, .un, .un, .un, .un, .un, .un, .un, .un, .un, .un, .un, .un, .un, .un, .un], fun s0 => []⟩
def m_laws_eqBookingS (a : List YBooking) (b : List YBooking) : Option Bool :=
 cond (!decide ((a.length : Int) = (b.length : Int)))
 (some false)
 ((iterF (m_laws_eqBookingS_b0 a b) NN 0).bind (selim (fun o0 =>
 some true) (fun r => some r)))
theorem ok_laws_eqBookingS (a : List YBooking) (b : List YBooking) {r : Bool} (H : m_laws_eqBookingS a b = some r) : CallM Tryz.prog 61 [.sl (a.map cBooking), .sl (b.map cBooking)] [] (vb r) [] := by
  replace H := H0 H
  unfold m_laws_eqBookingS at H
  refine callM_of Tryz.func61 rfl Tryz.ntmps61 Tryz.results61 fun Q hQ hQn => ?_
  exact wk
instance (a : List YBooking) (b : List YBooking) : CT Tryz.prog (m_laws_eqBookingS a b) := ⟨61, [.sl (a.map cBooking), .sl (b.map cBooking)], [], fun r => vb r, fun r => [], ok_laws_eqBookingS a b⟩
end Go.Proofs.YtooikkfldddjfaaGreat

/- The mirror of laws.toBookingS, and that the code does just that (printed by a program of my own). -/
namespace Go.Proofs.YtooikkfldddjfaaGreat
set_option maxRecDepth 10000
open Go.RowKit
set_option linter.unusedVariables false
set_option maxHeartbeats 16000000
def m_laws_toBookingS_b0 (a : List YBooking) (s0 : Int × (List YBooking)) : Option ((Int × (List YBooking)) ⊕ (List YBooking)) :=
 cond (decide (s0.1 < (a.length : Int)))
 ((getI a s0.1).bind fun y1 =>
 (m_laws_toBooking y1).bind fun y2 =>
 (getI s0.2 s0.1).bind fun y3 =>
 some (.inl ((w64 (s0.1 + 1)), (s0.2.set (Int.toNat s0.1) y2))))
 (some (.inr s0.2))
instance (a : List YBooking) : LoopE (m_laws_toBookingS_b0 a) := ⟨fun s0 => [.sl (a.map cBooking), .un, .un, .ms 0, vi s0.1, .un, .un, .un, .un, .un, .un, .un, .un, .un, .un, .un, .un, .un, .un, .un, .un, .un, .un], fun s0 => [some ⟨114, 4, s0.2.map cBooking⟩]⟩
def m_laws_toBookingS (a : List YBooking) : Option (List YBooking) :=
 (chk (mkOk (a.length : Int) 32)).bind fun _ =>
 (iterF (m_laws_toBookingS_b0 a) NN (0, (List.replicate (Int.toNat (a.length : Int)) (⟨0, (⟨0, 0⟩ : YTrip), 0⟩ : YBooking)))).bind (fun o0 =>
 some o0)
theorem ok_laws_toBookingS (a : List YBooking) {r : (List YBooking)} (H : m_laws_toBookingS a = some r) : CallM Tryz.prog 50 [.sl (a.map cBooking)] [] (.ms 0) [some ⟨114, 4, r.map cBooking⟩] := by
  replace H := H0 H
  unfold m_laws_toBookingS at H
  refine callM_of Tryz.func50 rfl Tryz.ntmps50 Tryz.results50 fun Q hQ hQn => ?_
  exact wk
instance (a : List YBooking) : CT Tryz.prog (m_laws_toBookingS a) := ⟨50, [.sl (a.map cBooking)], [], fun r => .ms 0, fun r => [some ⟨114, 4, r.map cBooking⟩], ok_laws_toBookingS a⟩
end Go.Proofs.YtooikkfldddjfaaGreat

/- The mirror of laws.szBookingS, and that the code does just that (printed by a program of my own). -/
namespace Go.Proofs.YtooikkfldddjfaaGreat
set_option maxRecDepth 10000
open Go.RowKit
set_option linter.unusedVariables false
set_option maxHeartbeats 16000000
def m_laws_szBookingS (a : List YBooking) (left : Int) : Option Int :=
 cond (decide ((w64 (left - (a.length : Int))) < 0))
 (some (-1))
 (some (w64 (left - (a.length : Int))))
theorem ok_laws_szBookingS (a : List YBooking) (left : Int) {r : Int} (H : m_laws_szBookingS a left = some r) : CallM Tryz.prog 39 [.sl (a.map cBooking), vi left] [] (vi r) [] := by
  replace H := H0 H
  unfold m_laws_szBookingS at H
  refine callM_of Tryz.func39 rfl Tryz.ntmps39 Tryz.results39 fun Q hQ hQn => ?_
  exact wk
instance (a : List YBooking) (left : Int) : CT Tryz.prog (m_laws_szBookingS a left) := ⟨39, [.sl (a.map cBooking), vi left], [], fun r => vi r, fun r => [], ok_laws_szBookingS a left⟩
end Go.Proofs.YtooikkfldddjfaaGreat

/- The mirror of laws.eqScan, and that the code does just that (printed by a program of my own). -/
namespace Go.Proofs.YtooikkfldddjfaaGreat
set_option maxRecDepth 10000
open Go.RowKit
set_option linter.unusedVariables false
set_option maxHeartbeats 16000000
def m_laws_eqScan (a : YScan) (b : YScan) : Option Bool :=
 cond (!decide (a.thing = b.thing))
 (some false)
 (cond (!decide (a.at_ = b.at_))
 (some false)
 (cond (!decide (a.kind = b.kind))
 (some false)
 (cond (!decide (a.place = b.place))
 (some false)
 ((m_laws_eqTrip a.trip b.trip).bind fun y1 =>
 cond (!y1)
 (some false)
 (some true)))))
theorem ok_laws_eqScan (a : YScan) (b : YScan) {r : Bool} (H : m_laws_eqScan a b = some r) : CallM Tryz.prog 115 [.ag (cScan a), .ag (cScan b)] [] (vb r) [] := by
  replace H := H0 H
  unfold m_laws_eqScan at H
  refine callM_of Tryz.func115 rfl Tryz.ntmps115 Tryz.results115 fun Q hQ hQn => ?_
  exact wk
instance (a : YScan) (b : YScan) : CT Tryz.prog (m_laws_eqScan a b) := ⟨115, [.ag (cScan a), .ag (cScan b)], [], fun r => vb r, fun r => [], ok_laws_eqScan a b⟩
end Go.Proofs.YtooikkfldddjfaaGreat

/- The mirror of laws.toScan, and that the code does just that (printed by a program of my own). -/
namespace Go.Proofs.YtooikkfldddjfaaGreat
set_option maxRecDepth 10000
open Go.RowKit
set_option linter.unusedVariables false
set_option maxHeartbeats 16000000
def m_laws_toScan (a : YScan) : Option YScan :=
 (m_laws_toTrip a.trip).bind fun y1 =>
 some (⟨a.thing, a.at_, a.kind, a.place, y1⟩ : YScan)
theorem ok_laws_toScan (a : YScan) {r : YScan} (H : m_laws_toScan a = some r) : CallM Tryz.prog 100 [.ag (cScan a)] [] (.ag [vi r.thing, vi r.at_, vi r.kind, vs r.place, vi r.trip.leg, vi r.trip.day]) [] := by
  replace H := H0 H
  unfold m_laws_toScan at H
  refine callM_of Tryz.func100 rfl Tryz.ntmps100 Tryz.results100 fun Q hQ hQn => ?_
  exact wk
instance (a : YScan) : CT Tryz.prog (m_laws_toScan a) := ⟨100, [.ag (cScan a)], [], fun r => .ag [vi r.thing, vi r.at_, vi r.kind, vs r.place, vi r.trip.leg, vi r.trip.day], fun r => [], ok_laws_toScan a⟩
end Go.Proofs.YtooikkfldddjfaaGreat

/- The mirror of laws.szScan, and that the code does just that (printed by a program of my own). -/
namespace Go.Proofs.YtooikkfldddjfaaGreat
set_option maxRecDepth 10000
open Go.RowKit
set_option linter.unusedVariables false
set_option maxHeartbeats 16000000
def m_laws_szScan (a : YScan) (left : Int) : Option Int :=
 cond (decide ((w64 (left - (a.place.size : Int))) < 0))
 (some (-1))
 (some (w64 (left - (a.place.size : Int))))
theorem ok_laws_szScan (a : YScan) (left : Int) {r : Int} (H : m_laws_szScan a left = some r) : CallM Tryz.prog 86 [.ag (cScan a), vi left] [] (vi r) [] := by
  replace H := H0 H
  unfold m_laws_szScan at H
  refine callM_of Tryz.func86 rfl Tryz.ntmps86 Tryz.results86 fun Q hQ hQn => ?_
  exact wk
instance (a : YScan) (left : Int) : CT Tryz.prog (m_laws_szScan a left) := ⟨86, [.ag (cScan a), vi left], [], fun r => vi r, fun r => [], ok_laws_szScan a left⟩
end Go.Proofs.YtooikkfldddjfaaGreat

/- The mirror of laws.eqScanS, and that the code does just that (printed by a program of my own). -/
namespace Go.Proofs.YtooikkfldddjfaaGreat
set_option maxRecDepth 10000
open Go.RowKit
set_option linter.unusedVariables false
set_option maxHeartbeats 16000000
def m_laws_eqScanS_b0 (a : List YScan) (b : List YScan) (s0 : Int) : Option (Int ⊕ (Unit ⊕ Bool)) :=
 cond (decide (s0 < (a.length : Int)))
 ((getI a s0).bind fun y1 =>
 (getI b s0).bind fun y2 =>
 (m_laws_eqScan y1 y2).bind fun y3 =>
 cond (!y3)
 (some (.inr (.inr false)))
 (some (.inl (w64 (s0 + 1)))))
 (some (.inr (.inl ())))
instance (a : List YScan) (b : List YScan) : LoopE (m_laws_eqScanS_b0 a b) := ⟨fun s0 => [.sl (a.map cScan), .sl (b.map cScan), .un, .un, .un, vi s0, .un, .un, .un, .un, .un, .un, .un, .un, .un, .un, .un, .un, .un, .un, .un, .un, .un, .un, .un, .un, .un], fun s0 => []⟩
def m_laws_eqScanS (a : List YScan) (b : List YScan) : Option Bool :=
 cond (!decide ((a.length : Int) = (b.length : Int)))
 (some false)
 ((iterF (m_laws_eqScanS_b0 a b) NN 0).bind (selim (fun o0 =>
 some true) (fun r => some r)))
theorem ok_laws_eqScanS (a : List YScan) (b : List YScan) {r : Bool} (H : m_laws_eqScanS a b = some r) : CallM Tryz.prog 63 [.sl (a.map cScan), .sl (b.map cScan)] [] (vb r) [] := by
  replace H := H0 H
  unfold m_laws_eqScanS at H
  refine callM_of Tryz.func63 rfl Tryz.ntmps63 Tryz.results63 fun Q hQ hQn => ?_
  exact wk
instance (a : List YScan) (b : List YScan) : CT Tryz.prog (m_laws_eqScanS a b) := ⟨63, [.sl (a.map cScan), .sl (b.map cScan)], [], fun r => vb r, fun r => [], ok_laws_eqScanS a b⟩
end Go.Proofs.YtooikkfldddjfaaGreat

/- The mirror of laws.toScanS, and that the code does just that (printed by a program of my own). -/
namespace Go.Proofs.YtooikkfldddjfaaGreat
set_option maxRecDepth 10000
open Go.RowKit
set_option linter.unusedVariables false
set_option maxHeartbeats 16000000
def m_laws_toScanS_b0 (a : List YScan) (s0 : Int × (List YScan)) : Option ((Int × (List YScan)) ⊕ (List YScan)) :=
 cond (decide (s0.1 < (a.length : Int)))
 ((getI a s0.1).bind fun y1 =>
 (m_laws_toScan y1).bind fun y2 =>
 (getI s0.2 s0.1).bind fun y3 =>
 some (.inl ((w64 (s0.1 + 1)), (s0.2.set (Int.toNat s0.1) y2))))
 (some (.inr s0.2))
instance (a : List YScan) : LoopE (m_laws_toScanS_b0 a) := ⟨fun s0 => [.sl (a.map cScan), .un, .un, .ms 0, vi s0.1, .un, .un, .un, .un, .un, .un, .un, .un, .un, .un, .un, .un, .un, .un, .un, .un, .un, .un], fun s0 => [some ⟨78, 6, s0.2.map cScan⟩]⟩
def m_laws_toScanS (a : List YScan) : Option (List YScan) :=
 (chk (mkOk (a.length : Int) 56)).bind fun _ =>
 (iterF (m_laws_toScanS_b0 a) NN (0, (List.replicate (Int.toNat (a.length : Int)) (⟨0, 0, 0, ⟨#[]⟩, (⟨0, 0⟩ : YTrip)⟩ : YScan)))).bind (fun o0 =>
 some o0)
theorem ok_laws_toScanS (a : List YScan) {r : (List YScan)} (H : m_laws_toScanS a = some r) : CallM Tryz.prog 52 [.sl (a.map cScan)] [] (.ms 0) [some ⟨78, 6, r.map cScan⟩] := by
  replace H := H0 H
  unfold m_laws_toScanS at H
  refine callM_of Tryz.func52 rfl Tryz.ntmps52 Tryz.results52 fun Q hQ hQn => ?_
  exact wk
instance (a : List YScan) : CT Tryz.prog (m_laws_toScanS a) := ⟨52, [.sl (a.map cScan)], [], fun r => .ms 0, fun r => [some ⟨78, 6, r.map cScan⟩], ok_laws_toScanS a⟩
end Go.Proofs.YtooikkfldddjfaaGreat

/- The mirror of laws.szScanS, and that the code does just that (printed by a program of my own). -/
namespace Go.Proofs.YtooikkfldddjfaaGreat
set_option maxRecDepth 10000
open Go.RowKit
set_option linter.unusedVariables false
set_option maxHeartbeats 16000000
def m_laws_szScanS_b0 (a : List YScan) (s0 : Int × Int) : Option ((Int × Int) ⊕ (Int ⊕ Int)) :=
 cond (decide (s0.2 < (a.length : Int)))
 ((getI a s0.2).bind fun y1 =>
 (m_laws_szScan y1 s0.1).bind fun y2 =>
 cond (decide (y2 < 0))
 (some (.inr (.inr (-1))))
 (some (.inl (y2, (w64 (s0.2 + 1))))))
 (some (.inr (.inl s0.1)))
instance (a : List YScan) : LoopE (m_laws_szScanS_b0 a) := ⟨fun s0 => [.sl (a.map cScan), vi s0.1, .un, .un, .un, vi s0.2, .un, .un, .un, .un, .un, .un, .un, .un, .un, .un, .un, .un, .un, .un, .un, .un, .un, .un, .un, .un, .un], fun s0 => []⟩
def m_laws_szScanS (a : List YScan) (left : Int) : Option Int :=
 cond (decide ((w64 (left - (a.length : Int))) < 0))
 (some (-1))
 ((iterF (m_laws_szScanS_b0 a) NN ((w64 (left - (a.length : Int))), 0)).bind (selim (fun o0 =>
 some o0) (fun r => some r)))
theorem ok_laws_szScanS (a : List YScan) (left : Int) {r : Int} (H : m_laws_szScanS a left = some r) : CallM Tryz.prog 41 [.sl (a.map cScan), vi left] [] (vi r) [] := by
  replace H := H0 H
  unfold m_laws_szScanS at H
  refine callM_of Tryz.func41 rfl Tryz.ntmps41 Tryz.results41 fun Q hQ hQn => ?_
  exact wk
instance (a : List YScan) (left : Int) : CT Tryz.prog (m_laws_szScanS a left) := ⟨41, [.sl (a.map cScan), vi left], [], fun r => vi r, fun r => [], ok_laws_szScanS a left⟩
end Go.Proofs.YtooikkfldddjfaaGreat

/- The mirror of laws.eqWorld, and that the code does just that (printed by a program of my own). -/
namespace Go.Proofs.YtooikkfldddjfaaGreat
set_option maxRecDepth 10000
open Go.RowKit
set_option linter.unusedVariables false
set_option maxHeartbeats 16000000
def m_laws_eqWorld (a : YWorld) (b : YWorld) : Option Bool :=
 (m_laws_eqNetwork a.network b.network).bind fun y1 =>
 cond (!y1)
 (some false)
 ((m_laws_eqOrderS a.orders b.orders).bind fun y2 =>
 cond (!y2)
 (some false)
 ((m_laws_eqBookingS a.bookings b.bookings).bind fun y3 =>
 cond (!y3)
 (some false)
 ((m_laws_eqTripS a.closed b.closed).bind fun y4 =>
 cond (!y4)
 (some false)
 (cond (!decide (a.now = b.now))
 (some false)
 ((m_laws_eqScanS a.scans b.scans).bind fun y5 =>
 cond (!y5)
 (some false)
 ((m_laws_eqIntS a.skip b.skip).bind fun y6 =>
 cond (!y6)
 (some false)
 (cond (!decide (a.made = b.made))
 (some false)
 (some true))))))))
theorem ok_laws_eqWorld (a : YWorld) (b : YWorld) {r : Bool} (H : m_laws_eqWorld a b = some r) : CallM Tryz.prog 14 [.ag (cWorld a), .ag (cWorld b)] [] (vb r) [] := by
  replace H := H0 H
  unfold m_laws_eqWorld at H
  refine callM_of Tryz.func14 rfl Tryz.ntmps14 Tryz.results14 fun Q hQ hQn => ?_
  exact wk
instance (a : YWorld) (b : YWorld) : CT Tryz.prog (m_laws_eqWorld a b) := ⟨14, [.ag (cWorld a), .ag (cWorld b)], [], fun r => vb r, fun r => [], ok_laws_eqWorld a b⟩
end Go.Proofs.YtooikkfldddjfaaGreat

/- The mirror of laws.toWorld, and that the code does just that (printed by a program of my own). -/
namespace Go.Proofs.YtooikkfldddjfaaGreat
set_option maxRecDepth 10000
open Go.RowKit
set_option linter.unusedVariables false
set_option maxHeartbeats 16000000
def m_laws_toWorld (a : YWorld) : Option YWorld :=
 (m_laws_toNetwork a.network).bind fun y1 =>
 (m_laws_toOrderS a.orders).bind fun y2 =>
 (m_laws_toBookingS a.bookings).bind fun y3 =>
 (m_laws_toTripS a.closed).bind fun y4 =>
 (m_laws_toScanS a.scans).bind fun y5 =>
 (m_laws_toIntS a.skip).bind fun y6 =>
 some (⟨y1, y2, y3, y4, a.now, y5, y6, a.made⟩ : YWorld)
theorem ok_laws_toWorld (a : YWorld) {r : YWorld} (H : m_laws_toWorld a = some r) : CallM Tryz.prog 12 [.ag (cWorld a)] [] (.ag [.sl (r.network.legs.map cLeg), .sl (r.network.off.map cInt), vi r.network.change, .sl (r.orders.map cOrder), .sl (r.bookings.map cBooking), .sl (r.closed.map cTrip), vi r.now, .sl (r.scans.map cScan), .sl (r.skip.map cInt), vi r.made]) [] := by
  replace H := H0 H
  unfold m_laws_toWorld at H
  refine callM_of Tryz.func12 rfl Tryz.ntmps12 Tryz.results12 fun Q hQ hQn => ?_
  exact wk
instance (a : YWorld) : CT Tryz.prog (m_laws_toWorld a) := ⟨12, [.ag (cWorld a)], [], fun r => .ag [.sl (r.network.legs.map cLeg), .sl (r.network.off.map cInt), vi r.network.change, .sl (r.orders.map cOrder), .sl (r.bookings.map cBooking), .sl (r.closed.map cTrip), vi r.now, .sl (r.scans.map cScan), .sl (r.skip.map cInt), vi r.made], fun r => [], ok_laws_toWorld a⟩
end Go.Proofs.YtooikkfldddjfaaGreat

/- The mirror of laws.szWorld, and that the code does just that (printed by a program of my own). -/
namespace Go.Proofs.YtooikkfldddjfaaGreat
set_option maxRecDepth 10000
open Go.RowKit
set_option linter.unusedVariables false
set_option maxHeartbeats 16000000
def m_laws_szWorld (a : YWorld) (left : Int) : Option Int :=
 (m_laws_szNetwork a.network left).bind fun y1 =>
 cond (decide (y1 < 0))
 (some (-1))
 ((m_laws_szOrderS a.orders y1).bind fun y2 =>
 cond (decide (y2 < 0))
 (some (-1))
 ((m_laws_szBookingS a.bookings y2).bind fun y3 =>
 cond (decide (y3 < 0))
 (some (-1))
 ((m_laws_szTripS a.closed y3).bind fun y4 =>
 cond (decide (y4 < 0))
 (some (-1))
 ((m_laws_szScanS a.scans y4).bind fun y5 =>
 cond (decide (y5 < 0))
 (some (-1))
 ((m_laws_szIntS a.skip y5).bind fun y6 =>
 cond (decide (y6 < 0))
 (some (-1))
 (some y6))))))
theorem ok_laws_szWorld (a : YWorld) (left : Int) {r : Int} (H : m_laws_szWorld a left = some r) : CallM Tryz.prog 10 [.ag (cWorld a), vi left] [] (vi r) [] := by
  replace H := H0 H
  unfold m_laws_szWorld at H
  refine callM_of Tryz.func10 rfl Tryz.ntmps10 Tryz.results10 fun Q hQ hQn => ?_
  exact wk
instance (a : YWorld) (left : Int) : CT Tryz.prog (m_laws_szWorld a left) := ⟨10, [.ag (cWorld a), vi left], [], fun r => vi r, fun r => [], ok_laws_szWorld a left⟩
end Go.Proofs.YtooikkfldddjfaaGreat

/- What the mirrors of the laws' own functions answer (printed by wip/genplain.py). -/
namespace Go.Proofs.YtooikkfldddjfaaGreat
set_option maxRecDepth 10000
open Go.RowKit
set_option linter.unusedVariables false
set_option linter.unusedSimpArgs false
theorem mkOk_of {n : Nat} {b : Int} (h : n ≤ 1048576) (hb : 0 ≤ b) (hb2 : b ≤ 134217728) : mkOk (n : Int) b = true := by
  refine decide_eq_true ⟨by omega, by omega, ?_⟩
  have : b * (n : Int) ≤ 134217728 * 1048576 := Int.mul_le_mul hb2 (by omega) (by omega) (by omega)
  omega
theorem totS_len {α : Type} (f : α → Nat) (xs : List α) : xs.length ≤ totS f xs := by unfold totS; omega
theorem totS_mem {α : Type} (f : α → Nat) {xs : List α} {y : α} (h : y ∈ xs) : f y ≤ totS f xs := by
  have : f y ≤ (xs.map f).sum := by
    induction xs with
    | nil => cases h
    | cons x xs ih =>
      simp only [List.map_cons, List.sum_cons]
      rcases List.mem_cons.1 h with rfl | h
      · omega
      · have := ih h; omega
  unfold totS; omega
theorem iter_sz {α : Type} {xs : List α} {f : α → Nat} {body : Int × Int → Option ((Int × Int) ⊕ (Int ⊕ Int))}
    (h1 : ∀ (i : Nat) (l : Int) x, xs[i]? = some x → 0 ≤ l → l ≤ 1048576 → body (l, (i : Int)) = some (if l < f x then .inr (.inr (-1)) else .inl (l - f x, ((i + 1 : Nat) : Int))))
    (h2 : ∀ l, body (l, (xs.length : Int)) = some (.inr (.inl l))) (hN : xs.length < NN) {l : Int} (hl : 0 ≤ l) (hl2 : l ≤ 1048576) :
    iterF body NN (l, 0) = some (if l < ((xs.map f).sum : Nat) then .inr (-1) else .inl (l - ((xs.map f).sum : Nat))) := by
  have key : ∀ (ys : List α) (i N : Nat) (l : Int), xs.drop i = ys → i ≤ xs.length → ys.length < N → 0 ≤ l → l ≤ 1048576 → iterF body N (l, (i : Int)) = some (if l < ((ys.map f).sum : Nat) then .inr (-1) else .inl (l - ((ys.map f).sum : Nat))) := by
    intro ys
    induction ys with
    | nil =>
      intro i N l hd hi hN h0 h1'
      cases N with
      | zero => omega
      | succ N =>
        have : i = xs.length := by have := congrArg List.length hd; simp at this; omega
        subst this
        simp only [iterF, h2]
        show some (Sum.inl l) = _
        rw [if_neg (by simp; omega)]; simp
    | cons y ys ih =>
      intro i N l hd hi hN h0 h1'
      cases N with
      | zero => simp at hN
      | succ N =>
        have hy : xs[i]? = some y := by
          have := congrArg (fun l => l[0]?) hd
          simpa using this
        have hlt : i < xs.length := (List.getElem?_eq_some_iff.1 hy).1
        have hd' : xs.drop (i + 1) = ys := by
          have := congrArg (List.drop 1) hd
          simpa [List.drop_drop] using this
        simp only [iterF, h1 i l y hy h0 h1', List.map_cons, List.sum_cons]
        by_cases hc : l < f y
        · rw [if_pos hc, if_pos (by omega)]; rfl
        · rw [if_neg hc]
          show iterF body N (l - f y, ((i + 1 : Nat) : Int)) = _
          rw [ih (i + 1) N _ hd' hlt (by simp at hN; omega) (by omega) (by omega)]
          by_cases hc2 : l - f y < ((ys.map f).sum : Nat)
          · rw [if_pos hc2, if_pos (by omega)]
          · rw [if_neg hc2, if_neg (by omega)]; congr 2; omega
  exact key xs 0 NN l rfl (Nat.zero_le _) hN hl hl2
theorem szTo_nn {l : Int} {n : Nat} (h : ¬ szTo l n < 0) (h0 : 0 ≤ l) : (n : Int) ≤ l ∧ szTo l n = l - n := by
  rcases szTo_spec l n with ⟨_, e⟩ | ⟨h1, e⟩
  · rw [e] at h; omega
  · exact ⟨h1, e⟩
theorem eqr_Leg (x : YLeg) (h : totLeg x ≤ 1048576) : m_laws_eqLeg x x = some true := by
  simp [m_laws_eqLeg]
theorem cpy_Leg (x : YLeg) (h : totLeg x ≤ 1048576) : m_laws_toLeg x = some x := by
  simp [m_laws_toLeg]
theorem sz_Leg (x : YLeg) {left : Int} (h0 : 0 ≤ left) (h1 : left ≤ 1048576) (ok : okLeg x) : m_laws_szLeg x left = some (szTo left (totLeg x)) := by
  obtain ⟨k0, k1, k2, k3, k4, k5⟩ := ok
  have ht : totLeg x = x.from_.size + x.to_.size := rfl
  unfold m_laws_szLeg
  unfold okStr maxLen at k0
  rw [w64_in (by omega)]
  by_cases c0 : left - ((x.from_.size : Nat) : Int) < 0
  · rw [decide_eq_true c0]; show some (-1) = _; rw [ht]; rcases szTo_spec left (x.from_.size + x.to_.size) with ⟨h, e⟩ | ⟨h, e⟩; · rw [e]
    omega
  rw [decide_eq_false c0]; simp only [cond_false]
  obtain ⟨l1, hl1⟩ : ∃ l : Int, l = left - ((x.from_.size : Nat) : Int) := ⟨_, rfl⟩
  rw [← hl1]
  unfold okStr maxLen at k1
  rw [w64_in (by omega)]
  by_cases c1 : l1 - ((x.to_.size : Nat) : Int) < 0
  · rw [decide_eq_true c1]; show some (-1) = _; rw [ht]; rcases szTo_spec left (x.from_.size + x.to_.size) with ⟨h, e⟩ | ⟨h, e⟩; · rw [e]
    omega
  rw [decide_eq_false c1]; simp only [cond_false]
  obtain ⟨l2, hl2⟩ : ∃ l : Int, l = l1 - ((x.to_.size : Nat) : Int) := ⟨_, rfl⟩
  rw [← hl2]
  rw [ht]; rcases szTo_spec left (x.from_.size + x.to_.size) with ⟨h, e⟩ | ⟨h, e⟩
  · omega
  · rw [e]; (first | (congr 1; omega) | congr 1)
theorem eqr_LegS (a : List YLeg) (hl : a.length ≤ 1048576) (he : ∀ x ∈ a, m_laws_eqLeg x x = some true) : m_laws_eqLegS a a = some true := by
  have e : iterF (m_laws_eqLegS_b0 a a) NN 0 = some (.inl ()) := by
    refine iter_pass (xs := a) (fun i x hx => ?_) ?_ (by unfold NN; omega)
    · obtain ⟨hi, rfl⟩ := List.getElem?_eq_some_iff.1 hx
      have hw := w64_nat hi (by omega)
      have hx2 := he _ (List.mem_of_getElem? hx)
      simp [m_laws_eqLegS_b0, getI_nat, hx, hi, hw, hx2]
    · simp [m_laws_eqLegS_b0]
  unfold m_laws_eqLegS; simp [e]
theorem cpy_LegS (a : List YLeg) (hl : a.length ≤ 1048576) (he : ∀ x ∈ a, m_laws_toLeg x = some x) : m_laws_toLegS a = some a := by
  have e : ∀ z, iterF (m_laws_toLegS_b0 a) NN (0, List.replicate a.length z) = some a := by
    intro z
    refine iter_copy (fun i out x hx ho => ?_) (fun out => ?_) (by unfold NN; omega)
    · obtain ⟨hi, rfl⟩ := List.getElem?_eq_some_iff.1 hx
      have hw := w64_nat hi (by omega)
      have hx3 : out[i]? = some out[i] := List.getElem?_eq_getElem (by omega)
      have hx2 := he _ (List.mem_of_getElem? hx)
      simp [m_laws_toLegS_b0, getI_nat, hx, hx3, hi, hw, hx2]
    · simp [m_laws_toLegS_b0]
  unfold m_laws_toLegS; rw [chk_t (mkOk_of hl (by decide) (by decide))]; simp [e]
theorem sz_LegS (a : List YLeg) {left : Int} (h0 : 0 ≤ left) (h1 : left ≤ 1048576) (hl : a.length ≤ maxLen) (he : ∀ x ∈ a, ∀ l : Int, 0 ≤ l → l ≤ 1048576 → m_laws_szLeg x l = some (szTo l (totLeg x))) : m_laws_szLegS a left = some (szTo left (totS totLeg a)) := by
  unfold maxLen at hl
  unfold m_laws_szLegS
  rw [w64_in (by omega)]
  by_cases hc : left - (a.length : Int) < 0
  · rw [decide_eq_true hc]; show some (-1) = _
    rcases szTo_spec left (totS totLeg a) with ⟨h, e⟩ | ⟨h, e⟩
    · rw [e]
    · have := totS_len totLeg a; omega
  · rw [decide_eq_false hc]
    have e : iterF (m_laws_szLegS_b0 a) NN (left - (a.length : Int), 0) = some (if left - (a.length : Int) < ((a.map totLeg).sum : Nat) then .inr (-1) else .inl (left - (a.length : Int) - ((a.map totLeg).sum : Nat))) := by
      refine iter_sz (fun i l x hx h0 h1 => ?_) (fun l => ?_) (by unfold NN; omega) (by omega) (by omega)
      · obtain ⟨hi, rfl⟩ := List.getElem?_eq_some_iff.1 hx
        have hw := w64_nat hi (by omega)
        have hx2 := he _ (List.mem_of_getElem? hx) l h0 h1
        rcases szTo_spec l (totLeg a[i]) with ⟨h, e⟩ | ⟨h, e⟩
        · rw [e] at hx2; rw [if_pos h]; simp [m_laws_szLegS_b0, getI_nat, hx, hi, hx2]
        · rw [e] at hx2; rw [if_neg (by omega)]; simp [m_laws_szLegS_b0, getI_nat, hx, hi, hx2, hw, show ¬ (l - (totLeg a[i] : Int) < 0) by omega]
      · simp [m_laws_szLegS_b0]
    show (iterF (m_laws_szLegS_b0 a) NN (left - (a.length : Int), 0)).bind _ = _
    rw [e]
    have ht : totS totLeg a = a.length + (a.map totLeg).sum := rfl
    rcases szTo_spec left (totS totLeg a) with ⟨h, e⟩ | ⟨h, e⟩
    · rw [e, if_pos (by omega)]; rfl
    · rw [e, if_neg (by omega)]; show some _ = some _; congr 1; omega
theorem eqr_IntS (a : List Int) (hl : a.length ≤ 1048576) : m_laws_eqIntS a a = some true := by
  have e : iterF (m_laws_eqIntS_b0 a a) NN 0 = some (.inl ()) := by
    refine iter_pass (xs := a) (fun i x hx => ?_) ?_ (by unfold NN; omega)
    · obtain ⟨hi, rfl⟩ := List.getElem?_eq_some_iff.1 hx
      have hw := w64_nat hi (by omega)
      simp [m_laws_eqIntS_b0, getI_nat, hx, hi, hw]
    · simp [m_laws_eqIntS_b0]
  unfold m_laws_eqIntS; simp [e]
theorem cpy_IntS (a : List Int) (hl : a.length ≤ 1048576) : m_laws_toIntS a = some a := by
  have e : ∀ z, iterF (m_laws_toIntS_b0 a) NN (0, List.replicate a.length z) = some a := by
    intro z
    refine iter_copy (fun i out x hx ho => ?_) (fun out => ?_) (by unfold NN; omega)
    · obtain ⟨hi, rfl⟩ := List.getElem?_eq_some_iff.1 hx
      have hw := w64_nat hi (by omega)
      have hx3 : out[i]? = some out[i] := List.getElem?_eq_getElem (by omega)
      simp [m_laws_toIntS_b0, getI_nat, hx, hx3, hi, hw]
    · simp [m_laws_toIntS_b0]
  unfold m_laws_toIntS; rw [chk_t (mkOk_of hl (by decide) (by decide))]; simp [e]
theorem sz_IntS (a : List Int) {left : Int} (h0 : 0 ≤ left) (h1 : left ≤ 1048576) (hl : a.length ≤ maxLen) : m_laws_szIntS a left = some (szTo left a.length) := by
  unfold maxLen at hl
  unfold m_laws_szIntS
  rw [w64_in (by omega)]
  rcases szTo_spec left a.length with ⟨h, e⟩ | ⟨h, e⟩
  · rw [e, decide_eq_true (by omega)]; rfl
  · rw [e, decide_eq_false (by omega)]; rfl
theorem eqr_Network (x : YNetwork) (h : totNetwork x ≤ 1048576) : m_laws_eqNetwork x x = some true := by
  have e0 := eqr_LegS x.legs (by unfold totNetwork at h; have := totS_len totLeg x.legs; omega) (fun y hy => eqr_Leg y (by unfold totNetwork at h; have := totS_mem totLeg hy; omega))
  have e1 := eqr_IntS x.off (by unfold totNetwork at h; have := totS_len totLeg x.legs; omega)
  simp [m_laws_eqNetwork, e0, e1]
theorem cpy_Network (x : YNetwork) (h : totNetwork x ≤ 1048576) : m_laws_toNetwork x = some x := by
  have e0 := cpy_LegS x.legs (by unfold totNetwork at h; have := totS_len totLeg x.legs; omega) (fun y hy => cpy_Leg y (by unfold totNetwork at h; have := totS_mem totLeg hy; omega))
  have e1 := cpy_IntS x.off (by unfold totNetwork at h; have := totS_len totLeg x.legs; omega)
  simp [m_laws_toNetwork, e0, e1]
theorem sz_Network (x : YNetwork) {left : Int} (h0 : 0 ≤ left) (h1 : left ≤ 1048576) (ok : okNetwork x) : m_laws_szNetwork x left = some (szTo left (totNetwork x)) := by
  obtain ⟨k0, k1, k2⟩ := ok
  have ht : totNetwork x = totS totLeg x.legs + x.off.length := rfl
  unfold m_laws_szNetwork
  rw [sz_LegS x.legs (by omega) (by omega) k0.1 (fun y hy l g0 g1 => sz_Leg y g0 g1 (k0.2 y hy))]; simp only [Option.bind_some]
  by_cases c0 : szTo left (totS totLeg x.legs) < 0
  · rw [decide_eq_true c0]; show some (-1) = _; rw [ht]; rcases szTo_spec left (totS totLeg x.legs) with ⟨h2, e2⟩ | ⟨h2, e2⟩; rcases szTo_spec left (totS totLeg x.legs + x.off.length) with ⟨h, e⟩ | ⟨h, e⟩; · rw [e]
    all_goals omega
  rw [decide_eq_false c0]; simp only [cond_false]
  obtain ⟨d0, e0⟩ := szTo_nn c0 (by omega)
  rw [e0]
  obtain ⟨l1, hl1⟩ : ∃ l : Int, l = left - ((totS totLeg x.legs : Nat) : Int) := ⟨_, rfl⟩
  rw [← hl1]
  rw [sz_IntS x.off (by omega) (by omega) k1.1]; simp only [Option.bind_some]
  by_cases c1 : szTo l1 (x.off.length) < 0
  · rw [decide_eq_true c1]; show some (-1) = _; rw [ht]; rcases szTo_spec l1 (x.off.length) with ⟨h2, e2⟩ | ⟨h2, e2⟩; rcases szTo_spec left (totS totLeg x.legs + x.off.length) with ⟨h, e⟩ | ⟨h, e⟩; · rw [e]
    all_goals omega
  rw [decide_eq_false c1]; simp only [cond_false]
  obtain ⟨d1, e1⟩ := szTo_nn c1 (by omega)
  rw [e1]
  obtain ⟨l2, hl2⟩ : ∃ l : Int, l = l1 - ((x.off.length : Nat) : Int) := ⟨_, rfl⟩
  rw [← hl2]
  rw [ht]; rcases szTo_spec left (totS totLeg x.legs + x.off.length) with ⟨h, e⟩ | ⟨h, e⟩
  · omega
  · rw [e]; (first | (congr 1; omega) | congr 1)
theorem eqr_Trip (x : YTrip) : m_laws_eqTrip x x = some true := by
  simp [m_laws_eqTrip]
theorem cpy_Trip (x : YTrip) : m_laws_toTrip x = some x := by
  simp [m_laws_toTrip]
theorem eqr_TripS (a : List YTrip) (hl : a.length ≤ 1048576) (he : ∀ x ∈ a, m_laws_eqTrip x x = some true) : m_laws_eqTripS a a = some true := by
  have e : iterF (m_laws_eqTripS_b0 a a) NN 0 = some (.inl ()) := by
    refine iter_pass (xs := a) (fun i x hx => ?_) ?_ (by unfold NN; omega)
    · obtain ⟨hi, rfl⟩ := List.getElem?_eq_some_iff.1 hx
      have hw := w64_nat hi (by omega)
      have hx2 := he _ (List.mem_of_getElem? hx)
      simp [m_laws_eqTripS_b0, getI_nat, hx, hi, hw, hx2]
    · simp [m_laws_eqTripS_b0]
  unfold m_laws_eqTripS; simp [e]
theorem cpy_TripS (a : List YTrip) (hl : a.length ≤ 1048576) (he : ∀ x ∈ a, m_laws_toTrip x = some x) : m_laws_toTripS a = some a := by
  have e : ∀ z, iterF (m_laws_toTripS_b0 a) NN (0, List.replicate a.length z) = some a := by
    intro z
    refine iter_copy (fun i out x hx ho => ?_) (fun out => ?_) (by unfold NN; omega)
    · obtain ⟨hi, rfl⟩ := List.getElem?_eq_some_iff.1 hx
      have hw := w64_nat hi (by omega)
      have hx3 : out[i]? = some out[i] := List.getElem?_eq_getElem (by omega)
      have hx2 := he _ (List.mem_of_getElem? hx)
      simp [m_laws_toTripS_b0, getI_nat, hx, hx3, hi, hw, hx2]
    · simp [m_laws_toTripS_b0]
  unfold m_laws_toTripS; rw [chk_t (mkOk_of hl (by decide) (by decide))]; simp [e]
theorem sz_TripS (a : List YTrip) {left : Int} (h0 : 0 ≤ left) (h1 : left ≤ 1048576) (hl : a.length ≤ maxLen) : m_laws_szTripS a left = some (szTo left a.length) := by
  unfold maxLen at hl
  unfold m_laws_szTripS
  rw [w64_in (by omega)]
  rcases szTo_spec left a.length with ⟨h, e⟩ | ⟨h, e⟩
  · rw [e, decide_eq_true (by omega)]; rfl
  · rw [e, decide_eq_false (by omega)]; rfl
theorem eqr_Order (x : YOrder) (h : totOrder x ≤ 1048576) : m_laws_eqOrder x x = some true := by
  have e0 := eqr_TripS x.way (by unfold totOrder at h; omega) (fun y hy => eqr_Trip y)
  simp [m_laws_eqOrder, e0]
theorem cpy_Order (x : YOrder) (h : totOrder x ≤ 1048576) : m_laws_toOrder x = some x := by
  have e0 := cpy_TripS x.way (by unfold totOrder at h; omega) (fun y hy => cpy_Trip y)
  simp [m_laws_toOrder, e0]
theorem sz_Order (x : YOrder) {left : Int} (h0 : 0 ≤ left) (h1 : left ≤ 1048576) (ok : okOrder x) : m_laws_szOrder x left = some (szTo left (totOrder x)) := by
  obtain ⟨k0, k1, k2, k3, k4, k5, k6, k7, k8, k9, k10⟩ := ok
  have ht : totOrder x = x.from_.size + x.to_.size + x.way.length + x.place.size := rfl
  unfold m_laws_szOrder
  unfold okStr maxLen at k0
  rw [w64_in (by omega)]
  by_cases c0 : left - ((x.from_.size : Nat) : Int) < 0
  · rw [decide_eq_true c0]; show some (-1) = _; rw [ht]; rcases szTo_spec left (x.from_.size + x.to_.size + x.way.length + x.place.size) with ⟨h, e⟩ | ⟨h, e⟩; · rw [e]
    omega
  rw [decide_eq_false c0]; simp only [cond_false]
  obtain ⟨l1, hl1⟩ : ∃ l : Int, l = left - ((x.from_.size : Nat) : Int) := ⟨_, rfl⟩
  rw [← hl1]
  unfold okStr maxLen at k1
  rw [w64_in (by omega)]
  by_cases c1 : l1 - ((x.to_.size : Nat) : Int) < 0
  · rw [decide_eq_true c1]; show some (-1) = _; rw [ht]; rcases szTo_spec left (x.from_.size + x.to_.size + x.way.length + x.place.size) with ⟨h, e⟩ | ⟨h, e⟩; · rw [e]
    omega
  rw [decide_eq_false c1]; simp only [cond_false]
  obtain ⟨l2, hl2⟩ : ∃ l : Int, l = l1 - ((x.to_.size : Nat) : Int) := ⟨_, rfl⟩
  rw [← hl2]
  rw [sz_TripS x.way (by omega) (by omega) k6.1]; simp only [Option.bind_some]
  by_cases c2 : szTo l2 (x.way.length) < 0
  · rw [decide_eq_true c2]; show some (-1) = _; rw [ht]; rcases szTo_spec l2 (x.way.length) with ⟨h2, e2⟩ | ⟨h2, e2⟩; rcases szTo_spec left (x.from_.size + x.to_.size + x.way.length + x.place.size) with ⟨h, e⟩ | ⟨h, e⟩; · rw [e]
    all_goals omega
  rw [decide_eq_false c2]; simp only [cond_false]
  obtain ⟨d2, e2⟩ := szTo_nn c2 (by omega)
  rw [e2]
  obtain ⟨l3, hl3⟩ : ∃ l : Int, l = l2 - ((x.way.length : Nat) : Int) := ⟨_, rfl⟩
  rw [← hl3]
  unfold okStr maxLen at k9
  rw [w64_in (by omega)]
  by_cases c3 : l3 - ((x.place.size : Nat) : Int) < 0
  · rw [decide_eq_true c3]; show some (-1) = _; rw [ht]; rcases szTo_spec left (x.from_.size + x.to_.size + x.way.length + x.place.size) with ⟨h, e⟩ | ⟨h, e⟩; · rw [e]
    omega
  rw [decide_eq_false c3]; simp only [cond_false]
  obtain ⟨l4, hl4⟩ : ∃ l : Int, l = l3 - ((x.place.size : Nat) : Int) := ⟨_, rfl⟩
  rw [← hl4]
  rw [ht]; rcases szTo_spec left (x.from_.size + x.to_.size + x.way.length + x.place.size) with ⟨h, e⟩ | ⟨h, e⟩
  · omega
  · rw [e]; (first | (congr 1; omega) | congr 1)
theorem eqr_OrderS (a : List YOrder) (hl : a.length ≤ 1048576) (he : ∀ x ∈ a, m_laws_eqOrder x x = some true) : m_laws_eqOrderS a a = some true := by
  have e : iterF (m_laws_eqOrderS_b0 a a) NN 0 = some (.inl ()) := by
    refine iter_pass (xs := a) (fun i x hx => ?_) ?_ (by unfold NN; omega)
    · obtain ⟨hi, rfl⟩ := List.getElem?_eq_some_iff.1 hx
      have hw := w64_nat hi (by omega)
      have hx2 := he _ (List.mem_of_getElem? hx)
      simp [m_laws_eqOrderS_b0, getI_nat, hx, hi, hw, hx2]
    · simp [m_laws_eqOrderS_b0]
  unfold m_laws_eqOrderS; simp [e]
theorem cpy_OrderS (a : List YOrder) (hl : a.length ≤ 1048576) (he : ∀ x ∈ a, m_laws_toOrder x = some x) : m_laws_toOrderS a = some a := by
  have e : ∀ z, iterF (m_laws_toOrderS_b0 a) NN (0, List.replicate a.length z) = some a := by
    intro z
    refine iter_copy (fun i out x hx ho => ?_) (fun out => ?_) (by unfold NN; omega)
    · obtain ⟨hi, rfl⟩ := List.getElem?_eq_some_iff.1 hx
      have hw := w64_nat hi (by omega)
      have hx3 : out[i]? = some out[i] := List.getElem?_eq_getElem (by omega)
      have hx2 := he _ (List.mem_of_getElem? hx)
      simp [m_laws_toOrderS_b0, getI_nat, hx, hx3, hi, hw, hx2]
    · simp [m_laws_toOrderS_b0]
  unfold m_laws_toOrderS; rw [chk_t (mkOk_of hl (by decide) (by decide))]; simp [e]
theorem sz_OrderS (a : List YOrder) {left : Int} (h0 : 0 ≤ left) (h1 : left ≤ 1048576) (hl : a.length ≤ maxLen) (he : ∀ x ∈ a, ∀ l : Int, 0 ≤ l → l ≤ 1048576 → m_laws_szOrder x l = some (szTo l (totOrder x))) : m_laws_szOrderS a left = some (szTo left (totS totOrder a)) := by
  unfold maxLen at hl
  unfold m_laws_szOrderS
  rw [w64_in (by omega)]
  by_cases hc : left - (a.length : Int) < 0
  · rw [decide_eq_true hc]; show some (-1) = _
    rcases szTo_spec left (totS totOrder a) with ⟨h, e⟩ | ⟨h, e⟩
    · rw [e]
    · have := totS_len totOrder a; omega
  · rw [decide_eq_false hc]
    have e : iterF (m_laws_szOrderS_b0 a) NN (left - (a.length : Int), 0) = some (if left - (a.length : Int) < ((a.map totOrder).sum : Nat) then .inr (-1) else .inl (left - (a.length : Int) - ((a.map totOrder).sum : Nat))) := by
      refine iter_sz (fun i l x hx h0 h1 => ?_) (fun l => ?_) (by unfold NN; omega) (by omega) (by omega)
      · obtain ⟨hi, rfl⟩ := List.getElem?_eq_some_iff.1 hx
        have hw := w64_nat hi (by omega)
        have hx2 := he _ (List.mem_of_getElem? hx) l h0 h1
        rcases szTo_spec l (totOrder a[i]) with ⟨h, e⟩ | ⟨h, e⟩
        · rw [e] at hx2; rw [if_pos h]; simp [m_laws_szOrderS_b0, getI_nat, hx, hi, hx2]
        · rw [e] at hx2; rw [if_neg (by omega)]; simp [m_laws_szOrderS_b0, getI_nat, hx, hi, hx2, hw, show ¬ (l - (totOrder a[i] : Int) < 0) by omega]
      · simp [m_laws_szOrderS_b0]
    show (iterF (m_laws_szOrderS_b0 a) NN (left - (a.length : Int), 0)).bind _ = _
    rw [e]
    have ht : totS totOrder a = a.length + (a.map totOrder).sum := rfl
    rcases szTo_spec left (totS totOrder a) with ⟨h, e⟩ | ⟨h, e⟩
    · rw [e, if_pos (by omega)]; rfl
    · rw [e, if_neg (by omega)]; show some _ = some _; congr 1; omega
theorem eqr_Booking (x : YBooking) : m_laws_eqBooking x x = some true := by
  have e0 := eqr_Trip x.trip
  simp [m_laws_eqBooking, e0]
theorem cpy_Booking (x : YBooking) : m_laws_toBooking x = some x := by
  have e0 := cpy_Trip x.trip
  simp [m_laws_toBooking, e0]
theorem eqr_BookingS (a : List YBooking) (hl : a.length ≤ 1048576) (he : ∀ x ∈ a, m_laws_eqBooking x x = some true) : m_laws_eqBookingS a a = some true := by
  have e : iterF (m_laws_eqBookingS_b0 a a) NN 0 = some (.inl ()) := by
    refine iter_pass (xs := a) (fun i x hx => ?_) ?_ (by unfold NN; omega)
    · obtain ⟨hi, rfl⟩ := List.getElem?_eq_some_iff.1 hx
      have hw := w64_nat hi (by omega)
      have hx2 := he _ (List.mem_of_getElem? hx)
      simp [m_laws_eqBookingS_b0, getI_nat, hx, hi, hw, hx2]
    · simp [m_laws_eqBookingS_b0]
  unfold m_laws_eqBookingS; simp [e]
theorem cpy_BookingS (a : List YBooking) (hl : a.length ≤ 1048576) (he : ∀ x ∈ a, m_laws_toBooking x = some x) : m_laws_toBookingS a = some a := by
  have e : ∀ z, iterF (m_laws_toBookingS_b0 a) NN (0, List.replicate a.length z) = some a := by
    intro z
    refine iter_copy (fun i out x hx ho => ?_) (fun out => ?_) (by unfold NN; omega)
    · obtain ⟨hi, rfl⟩ := List.getElem?_eq_some_iff.1 hx
      have hw := w64_nat hi (by omega)
      have hx3 : out[i]? = some out[i] := List.getElem?_eq_getElem (by omega)
      have hx2 := he _ (List.mem_of_getElem? hx)
      simp [m_laws_toBookingS_b0, getI_nat, hx, hx3, hi, hw, hx2]
    · simp [m_laws_toBookingS_b0]
  unfold m_laws_toBookingS; rw [chk_t (mkOk_of hl (by decide) (by decide))]; simp [e]
theorem sz_BookingS (a : List YBooking) {left : Int} (h0 : 0 ≤ left) (h1 : left ≤ 1048576) (hl : a.length ≤ maxLen) : m_laws_szBookingS a left = some (szTo left a.length) := by
  unfold maxLen at hl
  unfold m_laws_szBookingS
  rw [w64_in (by omega)]
  rcases szTo_spec left a.length with ⟨h, e⟩ | ⟨h, e⟩
  · rw [e, decide_eq_true (by omega)]; rfl
  · rw [e, decide_eq_false (by omega)]; rfl
theorem eqr_Scan (x : YScan) (h : totScan x ≤ 1048576) : m_laws_eqScan x x = some true := by
  have e0 := eqr_Trip x.trip
  simp [m_laws_eqScan, e0]
theorem cpy_Scan (x : YScan) (h : totScan x ≤ 1048576) : m_laws_toScan x = some x := by
  have e0 := cpy_Trip x.trip
  simp [m_laws_toScan, e0]
theorem sz_Scan (x : YScan) {left : Int} (h0 : 0 ≤ left) (h1 : left ≤ 1048576) (ok : okScan x) : m_laws_szScan x left = some (szTo left (totScan x)) := by
  obtain ⟨k0, k1, k2, k3, k4⟩ := ok
  have ht : totScan x = x.place.size := rfl
  unfold m_laws_szScan
  unfold okStr maxLen at k3
  rw [w64_in (by omega)]
  by_cases c0 : left - ((x.place.size : Nat) : Int) < 0
  · rw [decide_eq_true c0]; show some (-1) = _; rw [ht]; rcases szTo_spec left (x.place.size) with ⟨h, e⟩ | ⟨h, e⟩; · rw [e]
    omega
  rw [decide_eq_false c0]; simp only [cond_false]
  obtain ⟨l1, hl1⟩ : ∃ l : Int, l = left - ((x.place.size : Nat) : Int) := ⟨_, rfl⟩
  rw [← hl1]
  rw [ht]; rcases szTo_spec left (x.place.size) with ⟨h, e⟩ | ⟨h, e⟩
  · omega
  · rw [e]; (first | (congr 1; omega) | congr 1)
theorem eqr_ScanS (a : List YScan) (hl : a.length ≤ 1048576) (he : ∀ x ∈ a, m_laws_eqScan x x = some true) : m_laws_eqScanS a a = some true := by
  have e : iterF (m_laws_eqScanS_b0 a a) NN 0 = some (.inl ()) := by
    refine iter_pass (xs := a) (fun i x hx => ?_) ?_ (by unfold NN; omega)
    · obtain ⟨hi, rfl⟩ := List.getElem?_eq_some_iff.1 hx
      have hw := w64_nat hi (by omega)
      have hx2 := he _ (List.mem_of_getElem? hx)
      simp [m_laws_eqScanS_b0, getI_nat, hx, hi, hw, hx2]
    · simp [m_laws_eqScanS_b0]
  unfold m_laws_eqScanS; simp [e]
theorem cpy_ScanS (a : List YScan) (hl : a.length ≤ 1048576) (he : ∀ x ∈ a, m_laws_toScan x = some x) : m_laws_toScanS a = some a := by
  have e : ∀ z, iterF (m_laws_toScanS_b0 a) NN (0, List.replicate a.length z) = some a := by
    intro z
    refine iter_copy (fun i out x hx ho => ?_) (fun out => ?_) (by unfold NN; omega)
    · obtain ⟨hi, rfl⟩ := List.getElem?_eq_some_iff.1 hx
      have hw := w64_nat hi (by omega)
      have hx3 : out[i]? = some out[i] := List.getElem?_eq_getElem (by omega)
      have hx2 := he _ (List.mem_of_getElem? hx)
      simp [m_laws_toScanS_b0, getI_nat, hx, hx3, hi, hw, hx2]
    · simp [m_laws_toScanS_b0]
  unfold m_laws_toScanS; rw [chk_t (mkOk_of hl (by decide) (by decide))]; simp [e]
theorem sz_ScanS (a : List YScan) {left : Int} (h0 : 0 ≤ left) (h1 : left ≤ 1048576) (hl : a.length ≤ maxLen) (he : ∀ x ∈ a, ∀ l : Int, 0 ≤ l → l ≤ 1048576 → m_laws_szScan x l = some (szTo l (totScan x))) : m_laws_szScanS a left = some (szTo left (totS totScan a)) := by
  unfold maxLen at hl
  unfold m_laws_szScanS
  rw [w64_in (by omega)]
  by_cases hc : left - (a.length : Int) < 0
  · rw [decide_eq_true hc]; show some (-1) = _
    rcases szTo_spec left (totS totScan a) with ⟨h, e⟩ | ⟨h, e⟩
    · rw [e]
    · have := totS_len totScan a; omega
  · rw [decide_eq_false hc]
    have e : iterF (m_laws_szScanS_b0 a) NN (left - (a.length : Int), 0) = some (if left - (a.length : Int) < ((a.map totScan).sum : Nat) then .inr (-1) else .inl (left - (a.length : Int) - ((a.map totScan).sum : Nat))) := by
      refine iter_sz (fun i l x hx h0 h1 => ?_) (fun l => ?_) (by unfold NN; omega) (by omega) (by omega)
      · obtain ⟨hi, rfl⟩ := List.getElem?_eq_some_iff.1 hx
        have hw := w64_nat hi (by omega)
        have hx2 := he _ (List.mem_of_getElem? hx) l h0 h1
        rcases szTo_spec l (totScan a[i]) with ⟨h, e⟩ | ⟨h, e⟩
        · rw [e] at hx2; rw [if_pos h]; simp [m_laws_szScanS_b0, getI_nat, hx, hi, hx2]
        · rw [e] at hx2; rw [if_neg (by omega)]; simp [m_laws_szScanS_b0, getI_nat, hx, hi, hx2, hw, show ¬ (l - (totScan a[i] : Int) < 0) by omega]
      · simp [m_laws_szScanS_b0]
    show (iterF (m_laws_szScanS_b0 a) NN (left - (a.length : Int), 0)).bind _ = _
    rw [e]
    have ht : totS totScan a = a.length + (a.map totScan).sum := rfl
    rcases szTo_spec left (totS totScan a) with ⟨h, e⟩ | ⟨h, e⟩
    · rw [e, if_pos (by omega)]; rfl
    · rw [e, if_neg (by omega)]; show some _ = some _; congr 1; omega
theorem eqr_World (x : YWorld) (h : totWorld x ≤ 1048576) : m_laws_eqWorld x x = some true := by
  have e0 := eqr_Network x.network (by unfold totWorld at h; have := totS_len totOrder x.orders; have := totS_len totScan x.scans; omega)
  have e1 := eqr_OrderS x.orders (by unfold totWorld at h; have := totS_len totOrder x.orders; have := totS_len totScan x.scans; omega) (fun y hy => eqr_Order y (by unfold totWorld at h; have := totS_mem totOrder hy; omega))
  have e2 := eqr_BookingS x.bookings (by unfold totWorld at h; have := totS_len totOrder x.orders; have := totS_len totScan x.scans; omega) (fun y hy => eqr_Booking y)
  have e3 := eqr_TripS x.closed (by unfold totWorld at h; have := totS_len totOrder x.orders; have := totS_len totScan x.scans; omega) (fun y hy => eqr_Trip y)
  have e4 := eqr_ScanS x.scans (by unfold totWorld at h; have := totS_len totOrder x.orders; have := totS_len totScan x.scans; omega) (fun y hy => eqr_Scan y (by unfold totWorld at h; have := totS_mem totScan hy; omega))
  have e5 := eqr_IntS x.skip (by unfold totWorld at h; have := totS_len totOrder x.orders; have := totS_len totScan x.scans; omega)
  simp [m_laws_eqWorld, e0, e1, e2, e3, e4, e5]
theorem cpy_World (x : YWorld) (h : totWorld x ≤ 1048576) : m_laws_toWorld x = some x := by
  have e0 := cpy_Network x.network (by unfold totWorld at h; have := totS_len totOrder x.orders; have := totS_len totScan x.scans; omega)
  have e1 := cpy_OrderS x.orders (by unfold totWorld at h; have := totS_len totOrder x.orders; have := totS_len totScan x.scans; omega) (fun y hy => cpy_Order y (by unfold totWorld at h; have := totS_mem totOrder hy; omega))
  have e2 := cpy_BookingS x.bookings (by unfold totWorld at h; have := totS_len totOrder x.orders; have := totS_len totScan x.scans; omega) (fun y hy => cpy_Booking y)
  have e3 := cpy_TripS x.closed (by unfold totWorld at h; have := totS_len totOrder x.orders; have := totS_len totScan x.scans; omega) (fun y hy => cpy_Trip y)
  have e4 := cpy_ScanS x.scans (by unfold totWorld at h; have := totS_len totOrder x.orders; have := totS_len totScan x.scans; omega) (fun y hy => cpy_Scan y (by unfold totWorld at h; have := totS_mem totScan hy; omega))
  have e5 := cpy_IntS x.skip (by unfold totWorld at h; have := totS_len totOrder x.orders; have := totS_len totScan x.scans; omega)
  simp [m_laws_toWorld, e0, e1, e2, e3, e4, e5]
theorem sz_World (x : YWorld) {left : Int} (h0 : 0 ≤ left) (h1 : left ≤ 1048576) (ok : okWorld x) : m_laws_szWorld x left = some (szTo left (totWorld x)) := by
  obtain ⟨k0, k1, k2, k3, k4, k5, k6, k7⟩ := ok
  have ht : totWorld x = totNetwork x.network + totS totOrder x.orders + x.bookings.length + x.closed.length + totS totScan x.scans + x.skip.length := rfl
  unfold m_laws_szWorld
  rw [sz_Network x.network (by omega) (by omega) k0]; simp only [Option.bind_some]
  by_cases c0 : szTo left (totNetwork x.network) < 0
  · rw [decide_eq_true c0]; show some (-1) = _; rw [ht]; rcases szTo_spec left (totNetwork x.network) with ⟨h2, e2⟩ | ⟨h2, e2⟩; rcases szTo_spec left (totNetwork x.network + totS totOrder x.orders + x.bookings.length + x.closed.length + totS totScan x.scans + x.skip.length) with ⟨h, e⟩ | ⟨h, e⟩; · rw [e]
    all_goals omega
  rw [decide_eq_false c0]; simp only [cond_false]
  obtain ⟨d0, e0⟩ := szTo_nn c0 (by omega)
  rw [e0]
  obtain ⟨l1, hl1⟩ : ∃ l : Int, l = left - ((totNetwork x.network : Nat) : Int) := ⟨_, rfl⟩
  rw [← hl1]
  rw [sz_OrderS x.orders (by omega) (by omega) k1.1 (fun y hy l g0 g1 => sz_Order y g0 g1 (k1.2 y hy))]; simp only [Option.bind_some]
  by_cases c1 : szTo l1 (totS totOrder x.orders) < 0
  · rw [decide_eq_true c1]; show some (-1) = _; rw [ht]; rcases szTo_spec l1 (totS totOrder x.orders) with ⟨h2, e2⟩ | ⟨h2, e2⟩; rcases szTo_spec left (totNetwork x.network + totS totOrder x.orders + x.bookings.length + x.closed.length + totS totScan x.scans + x.skip.length) with ⟨h, e⟩ | ⟨h, e⟩; · rw [e]
    all_goals omega
  rw [decide_eq_false c1]; simp only [cond_false]
  obtain ⟨d1, e1⟩ := szTo_nn c1 (by omega)
  rw [e1]
  obtain ⟨l2, hl2⟩ : ∃ l : Int, l = l1 - ((totS totOrder x.orders : Nat) : Int) := ⟨_, rfl⟩
  rw [← hl2]
  rw [sz_BookingS x.bookings (by omega) (by omega) k2.1]; simp only [Option.bind_some]
  by_cases c2 : szTo l2 (x.bookings.length) < 0
  · rw [decide_eq_true c2]; show some (-1) = _; rw [ht]; rcases szTo_spec l2 (x.bookings.length) with ⟨h2, e2⟩ | ⟨h2, e2⟩; rcases szTo_spec left (totNetwork x.network + totS totOrder x.orders + x.bookings.length + x.closed.length + totS totScan x.scans + x.skip.length) with ⟨h, e⟩ | ⟨h, e⟩; · rw [e]
    all_goals omega
  rw [decide_eq_false c2]; simp only [cond_false]
  obtain ⟨d2, e2⟩ := szTo_nn c2 (by omega)
  rw [e2]
  obtain ⟨l3, hl3⟩ : ∃ l : Int, l = l2 - ((x.bookings.length : Nat) : Int) := ⟨_, rfl⟩
  rw [← hl3]
  rw [sz_TripS x.closed (by omega) (by omega) k3.1]; simp only [Option.bind_some]
  by_cases c3 : szTo l3 (x.closed.length) < 0
  · rw [decide_eq_true c3]; show some (-1) = _; rw [ht]; rcases szTo_spec l3 (x.closed.length) with ⟨h2, e2⟩ | ⟨h2, e2⟩; rcases szTo_spec left (totNetwork x.network + totS totOrder x.orders + x.bookings.length + x.closed.length + totS totScan x.scans + x.skip.length) with ⟨h, e⟩ | ⟨h, e⟩; · rw [e]
    all_goals omega
  rw [decide_eq_false c3]; simp only [cond_false]
  obtain ⟨d3, e3⟩ := szTo_nn c3 (by omega)
  rw [e3]
  obtain ⟨l4, hl4⟩ : ∃ l : Int, l = l3 - ((x.closed.length : Nat) : Int) := ⟨_, rfl⟩
  rw [← hl4]
  rw [sz_ScanS x.scans (by omega) (by omega) k5.1 (fun y hy l g0 g1 => sz_Scan y g0 g1 (k5.2 y hy))]; simp only [Option.bind_some]
  by_cases c4 : szTo l4 (totS totScan x.scans) < 0
  · rw [decide_eq_true c4]; show some (-1) = _; rw [ht]; rcases szTo_spec l4 (totS totScan x.scans) with ⟨h2, e2⟩ | ⟨h2, e2⟩; rcases szTo_spec left (totNetwork x.network + totS totOrder x.orders + x.bookings.length + x.closed.length + totS totScan x.scans + x.skip.length) with ⟨h, e⟩ | ⟨h, e⟩; · rw [e]
    all_goals omega
  rw [decide_eq_false c4]; simp only [cond_false]
  obtain ⟨d4, e4⟩ := szTo_nn c4 (by omega)
  rw [e4]
  obtain ⟨l5, hl5⟩ : ∃ l : Int, l = l4 - ((totS totScan x.scans : Nat) : Int) := ⟨_, rfl⟩
  rw [← hl5]
  rw [sz_IntS x.skip (by omega) (by omega) k6.1]; simp only [Option.bind_some]
  by_cases c5 : szTo l5 (x.skip.length) < 0
  · rw [decide_eq_true c5]; show some (-1) = _; rw [ht]; rcases szTo_spec l5 (x.skip.length) with ⟨h2, e2⟩ | ⟨h2, e2⟩; rcases szTo_spec left (totNetwork x.network + totS totOrder x.orders + x.bookings.length + x.closed.length + totS totScan x.scans + x.skip.length) with ⟨h, e⟩ | ⟨h, e⟩; · rw [e]
    all_goals omega
  rw [decide_eq_false c5]; simp only [cond_false]
  obtain ⟨d5, e5⟩ := szTo_nn c5 (by omega)
  rw [e5]
  obtain ⟨l6, hl6⟩ : ∃ l : Int, l = l5 - ((x.skip.length : Nat) : Int) := ⟨_, rfl⟩
  rw [← hl6]
  rw [ht]; rcases szTo_spec left (totNetwork x.network + totS totOrder x.orders + x.bookings.length + x.closed.length + totS totScan x.scans + x.skip.length) with ⟨h, e⟩ | ⟨h, e⟩
  · omega
  · rw [e]; (first | (congr 1; omega) | congr 1)
end Go.Proofs.YtooikkfldddjfaaGreat

/- The mirror of laws.FnExactIsWorld, and that the code does just that (printed by a program of my own). -/
namespace Go.Proofs.YtooikkfldddjfaaGreat
set_option maxRecDepth 10000
open Go.RowKit
set_option linter.unusedVariables false
set_option maxHeartbeats 16000000
def m_laws_FnExactIsWorld (aW : YWorld) : Option Bool :=
 (m_laws_szWorld aW 1048576).bind fun y1 =>
 cond (decide (y1 < 0))
 (some true)
 ((m_laws_toWorld aW).bind fun y2 =>
 (m_spec_IsWorld y2).bind fun y3 =>
 (m_laws_toWorld aW).bind fun y4 =>
 (m_impl_IsWorld y4).bind fun y5 =>
 cond (!(y5 == y3))
 (some false)
 ((m_laws_toWorld aW).bind fun y6 =>
 (m_laws_eqWorld y4 y6).bind fun y7 =>
 cond (!y7)
 (some false)
 (some true)))
theorem ok_laws_FnExactIsWorld (aW : YWorld) {r : Bool} (H : m_laws_FnExactIsWorld aW = some r) : CallM Tryz.prog 3 [.ag (cWorld aW)] [] (vb r) [] := by
  replace H := H0 H
  unfold m_laws_FnExactIsWorld at H
  refine callM_of Tryz.func3 rfl Tryz.ntmps3 Tryz.results3 fun Q hQ hQn => ?_
  exact wk
instance (aW : YWorld) : CT Tryz.prog (m_laws_FnExactIsWorld aW) := ⟨3, [.ag (cWorld aW)], [], fun r => vb r, fun r => [], ok_laws_FnExactIsWorld aW⟩
end Go.Proofs.YtooikkfldddjfaaGreat

/- The mirror of laws.FnExactNextEvent, and that the code does just that (printed by a program of my own). -/
namespace Go.Proofs.YtooikkfldddjfaaGreat
set_option maxRecDepth 10000
open Go.RowKit
set_option linter.unusedVariables false
set_option maxHeartbeats 16000000
def m_laws_FnExactNextEvent (aW : YWorld) : Option Bool :=
 (m_laws_szWorld aW 1048576).bind fun y1 =>
 cond (decide (y1 < 0))
 (some true)
 ((m_laws_toWorld aW).bind fun y2 =>
 (m_spec_NextEvent y2).bind fun y3 =>
 (m_laws_toWorld aW).bind fun y4 =>
 (m_impl_NextEvent y4).bind fun y5 =>
 cond (!decide (y5 = y3))
 (some false)
 ((m_laws_toWorld aW).bind fun y6 =>
 (m_laws_eqWorld y4 y6).bind fun y7 =>
 cond (!y7)
 (some false)
 (some true)))
theorem ok_laws_FnExactNextEvent (aW : YWorld) {r : Bool} (H : m_laws_FnExactNextEvent aW = some r) : CallM Tryz.prog 5 [.ag (cWorld aW)] [] (vb r) [] := by
  replace H := H0 H
  unfold m_laws_FnExactNextEvent at H
  refine callM_of Tryz.func5 rfl Tryz.ntmps5 Tryz.results5 fun Q hQ hQn => ?_
  exact wk
instance (aW : YWorld) : CT Tryz.prog (m_laws_FnExactNextEvent aW) := ⟨5, [.ag (cWorld aW)], [], fun r => vb r, fun r => [], ok_laws_FnExactNextEvent aW⟩
end Go.Proofs.YtooikkfldddjfaaGreat

/- The mirror of laws.FnExactPlannedEnd, and that the code does just that (printed by a program of my own). -/
namespace Go.Proofs.YtooikkfldddjfaaGreat
set_option maxRecDepth 10000
open Go.RowKit
set_option linter.unusedVariables false
set_option maxHeartbeats 16000000
def m_laws_FnExactPlannedEnd (aW : YWorld) (aId : Int) : Option Bool :=
 (m_laws_szWorld aW 1048576).bind fun y1 =>
 cond (decide (y1 < 0))
 (some true)
 ((m_laws_toWorld aW).bind fun y2 =>
 (m_spec_PlannedEnd y2 aId).bind fun y3 =>
 (m_laws_toWorld aW).bind fun y4 =>
 (m_impl_PlannedEnd y4 aId).bind fun y5 =>
 cond (!decide (y5 = y3))
 (some false)
 ((m_laws_toWorld aW).bind fun y6 =>
 (m_laws_eqWorld y4 y6).bind fun y7 =>
 cond (!y7)
 (some false)
 (some true)))
theorem ok_laws_FnExactPlannedEnd (aW : YWorld) (aId : Int) {r : Bool} (H : m_laws_FnExactPlannedEnd aW aId = some r) : CallM Tryz.prog 4 [.ag (cWorld aW), vi aId] [] (vb r) [] := by
  replace H := H0 H
  unfold m_laws_FnExactPlannedEnd at H
  refine callM_of Tryz.func4 rfl Tryz.ntmps4 Tryz.results4 fun Q hQ hQn => ?_
  exact wk
instance (aW : YWorld) (aId : Int) : CT Tryz.prog (m_laws_FnExactPlannedEnd aW aId) := ⟨4, [.ag (cWorld aW), vi aId], [], fun r => vb r, fun r => [], ok_laws_FnExactPlannedEnd aW aId⟩
end Go.Proofs.YtooikkfldddjfaaGreat

/- The laws of IsWorld, NextEvent and PlannedEnd, in plain values. -/
namespace Go.Proofs.YtooikkfldddjfaaGreat
set_option maxRecDepth 10000
open Go.RowKit
set_option linter.unusedVariables false
set_option linter.unusedSimpArgs false
theorem netFit_of {n : YNetwork} (h : totNetwork n ≤ 1048576) : NetFit n := by
  unfold totNetwork at h
  refine ⟨by have := totS_len totLeg n.legs; omega, by omega, fun l hl => ?_⟩
  have h2 : totLeg l = l.from_.size + l.to_.size := rfl
  have := totS_mem totLeg hl
  unfold legFit B60
  omega
theorem wFit_of {w : YWorld} (h : totWorld w ≤ 1048576) : WFit w := by
  unfold totWorld at h
  have h1 := totS_len totOrder w.orders
  have h2 := totS_len totScan w.scans
  refine ⟨netFit_of (by omega), by omega, by omega, by omega, by omega, by omega, fun o ho => ?_⟩
  have h3 : totOrder o = o.from_.size + o.to_.size + o.way.length + o.place.size := rfl
  have := totS_mem totOrder ho
  omega
theorem fit_or {w : YWorld} (ok : okWorld w) : m_laws_szWorld w 1048576 = some (-1) ∨ ∃ y, m_laws_szWorld w 1048576 = some y ∧ ¬ y < 0 ∧ totWorld w ≤ 1048576 := by
  rw [sz_World w (by omega) (by omega) ok]
  by_cases h : szTo 1048576 (totWorld w) < 0
  · left
    unfold szTo at *
    split at h
    · rw [if_pos (by assumption)]
    · omega
  · right
    obtain ⟨h1, _⟩ := szTo_nn h (by omega)
    exact ⟨_, rfl, h, by omega⟩
theorem lawFnExactIsWorld (w : YWorld) (ok : okWorld w) : CallOk Tryz.prog 3 [.ag (cWorld w)] (vb true) [] := by
  refine ok_laws_FnExactIsWorld w ?_
  unfold m_laws_FnExactIsWorld
  rcases fit_or ok with h | ⟨y, h, h1, ht⟩
  · rw [h]; rfl
  · have hf := wFit_of ht
    simp only [h, cpy_World w ht, spec_world hf, impl_world hf, eqr_World w ht, Option.bind_some, decide_eq_false h1, cond_false, Bool.not_true, beq_self_eq_true]
theorem lawFnExactNextEvent (w : YWorld) (ok : okWorld w) : CallOk Tryz.prog 5 [.ag (cWorld w)] (vb true) [] := by
  refine ok_laws_FnExactNextEvent w ?_
  unfold m_laws_FnExactNextEvent
  rcases fit_or ok with h | ⟨y, h, h1, ht⟩
  · rw [h]; rfl
  · have hf := wFit_of ht
    obtain ⟨v, e1, e2⟩ := nextEvent_eq hf
    simp only [h, cpy_World w ht, e1, e2, eqr_World w ht, Option.bind_some, decide_eq_false h1, cond_false, Bool.not_true, decide_true, beq_self_eq_true]
theorem lawFnExactPlannedEnd (w : YWorld) (id : Int) (ok : okWorld w) (_ : (Lit.int .i64 id).wf = true) : CallOk Tryz.prog 4 [.ag (cWorld w), vi id] (vb true) [] := by
  refine ok_laws_FnExactPlannedEnd w id ?_
  unfold m_laws_FnExactPlannedEnd
  rcases fit_or ok with h | ⟨y, h, h1, ht⟩
  · rw [h]; rfl
  · have hf := wFit_of ht
    obtain ⟨v, e1, e2⟩ := plannedEnd_eq hf id
    simp only [h, cpy_World w ht, e1, e2, eqr_World w ht, Option.bind_some, decide_eq_false h1, cond_false, Bool.not_true, decide_true, beq_self_eq_true]
end Go.Proofs.YtooikkfldddjfaaGreat

/- The second script: as_ wk; nested own rows are frozen ahead of a region that appends them. No function of the program in sight. -/
namespace Go.Proofs.YtooikkfldddjfaaGreat
set_option maxRecDepth 10000
open Go.RowKit
set_option linter.unusedVariables false
set_option linter.unusedSimpArgs false
/-- A mark in a mirror: here the state is cut to this one. -/
def frz (t : List PV) (m : Mem) : Option Unit := some ()
theorem Cuts.trans {n0 : Nat} {t t1 t2 : List PV} {m m1 m2 : Mem} (h : Cuts n0 t m t1 m1) (k : Cuts n0 t1 m1 t2 m2) : Cuts n0 t m t2 m2 := by
  induction h with
  | one h => exact .two h k
  | two h h' ih => exact .two h (ih k)
theorem pwp_frz {P : Program} {n0 : Nat} {Q : Exit → List PV → Mem → Prop} {t T : List PV} {m M : Mem} {α β : Type} {F : Unit → Option α} {K : α → Option β} {r : β} {i : Nat} {ops : Array Oper} {draw : Bool}
    (H : ((frz T M).bind F).bind K = some r) (hc : Cuts n0 t m T M) (hk : (F ()).bind K = some r → pwp P n0 (.region i ops draw) Q T M) : pwp P n0 (.region i ops draw) Q t m := by
  rcases hk H with h | ⟨t1, m1, h1, h2⟩
  · exact .inr ⟨T, M, hc, h⟩
  · exact .inr ⟨t1, m1, hc.trans h1, h2⟩
/-- The same, for rows that were written to: they get a name. -/
def frzL {α : Type} (x : α) (t : α → List PV) (m : α → Mem) : Option α := some x
theorem pwp_frzL {P : Program} {n0 : Nat} {Q : Exit → List PV → Mem → Prop} {t : List PV} {m : Mem} {ξ α β : Type} {x : ξ} {T : ξ → List PV} {M : ξ → Mem} {F : ξ → Option α} {K : α → Option β} {r : β} {i : Nat} {ops : Array Oper} {draw : Bool}
    (H : ((frzL x T M).bind F).bind K = some r) (hc : Cuts n0 t m (T x) (M x)) (hk : ∀ z, (F z).bind K = some r → pwp P n0 (.region i ops draw) Q (T z) (M z)) : pwp P n0 (.region i ops draw) Q t m := by
  rcases hk x H with h | ⟨t1, m1, h1, h2⟩
  · exact .inr ⟨T x, M x, hc, h⟩
  · exact .inr ⟨t1, m1, hc.trans h1, h2⟩
/-- A mark in a mirror: the own rows that the next call is handed. -/
def rhoM (ρ : List Nat) : Option Unit := some ()
theorem call_io {R α β : Type} {P : Program} {ρ : List Nat} {A : Option R} [C : CT P A] {F : Unit → Option α} {G : R → Option α} {K : α → Option β} {r : β} {f : FuncId} {ps : List PV} {io : Bool} {wd ν : Nat} {m : Mem} {KA : PV → Mem → Prop}
    (H : ((rhoM ρ).bind F).bind K = some r) (hF : F () = A.bind G) (hf : C.f = f) (hio : io = true) (hps : ps = C.args.map (renA (sig ρ ν))) (hq : ∀ q ∈ C.args, goodA false q ∧ lowA C.m0.length q = true) (hn : ρ.Nodup) (hin : inRows (sig ρ ν) m C.m0.length ρ C.m0)
    (hlen : ∀ y, C.m0.length ≤ (C.mem y).length ∧ (C.mem y).length - C.m0.length ≤ wd) (hm : ∀ y, ∀ mb, some mb ∈ C.mem y → ∀ cs ∈ mb.es, ∀ p ∈ cs, goodC false p) (hg : ∀ y, goodV false (C.res y))
    (hk : ∀ y, A = some y → (G y).bind K = some r → KA (renV (sig ρ ν) (C.res y)) (putNew (sig ρ ν) ν ((C.mem y).drop ρ.length) (putIn (sig ρ ν) ρ (C.mem y) m))) : pCall P io wd ν f ps m KA := by
  have H' : (F ()).bind K = some r := H
  rw [hF] at H'
  obtain ⟨y, hy, H2⟩ := Hcall H'
  subst hf
  exact .inr ⟨ρ, C.m0, C.args, C.res y, C.mem y, .inl hio, C.ok hy, (hlen y).1, (hlen y).2, hps, hq, hn, hin, hm y, hg y, hk y hy H2⟩
theorem inRows_nil {σ : Nat → Nat} {m : Mem} {n : Nat} : inRows σ m n [] [] := trivial
theorem lowC_isC {n : Nat} {p : PV} (h : isC p = true) : lowC n p = true := by
  cases p with
  | fn f cs =>
    simp only [isC, List.all_eq_true] at h
    simp only [lowC, List.all_eq_true]
    intro c hc
    have := h c hc
    cases c <;> simp_all [isC1, low1]
  | _ => simp_all [isC, isC1, lowC, low1]
theorem inRows_map {α : Type} {f : α → List PV} [hf : PlainC f] {σ : Nat → Nat} {m : Mem} {n l T k : Nat} {xs : List α} {ρ : List Nat} {m0 : Mem} (hl : look m l = some ⟨T, k, xs.map f⟩) (h : inRows σ m n ρ m0) : inRows σ m n (l :: ρ) (some ⟨T, k, xs.map f⟩ :: m0) := by
  refine ⟨?_, fun cs hcs p hp => ?_, h⟩
  · rw [look_iff.1 hl]
    simp only [renMB, renEs_map]
  · obtain ⟨x, _, rfl⟩ := List.mem_map.1 hcs
    exact ⟨goodC_of (hf.h x p hp), lowC_isC (hf.h x p hp)⟩
theorem inRows_one {σ : Nat → Nat} {m : Mem} {n l T k : Nat} {cs cs' : List PV} {ρ : List Nat} {m0 : Mem} (hl : look m l = some ⟨T, k, [cs']⟩) (hc : cs' = cs.map (renC σ)) (hg : ∀ p ∈ cs, goodC false p ∧ lowC n p = true) (h : inRows σ m n ρ m0) : inRows σ m n (l :: ρ) (some ⟨T, k, [cs]⟩ :: m0) := by
  subst hc
  refine ⟨look_iff.1 hl, fun ds hds p hp => ?_, h⟩
  obtain rfl : ds = cs := by simpa using hds
  exact hg p hp
/-- A value that may stand for another: the nil slice reads as_ the empty list. -/
inductive SubC : PV → PV → Prop
  | r (p : PV) : SubC p p
  | nil (c : Nat) : SubC (.v (.slice none 0 c)) (.sl [])
inductive SubL : List PV → List PV → Prop
  | n : SubL [] []
  | c {p q : PV} {ps qs : List PV} (h : SubC p q) (k : SubL ps qs) : SubL (p :: ps) (q :: qs)
inductive SubV : PV → PV → Prop
  | c {p q : PV} (h : SubC p q) : SubV p q
  | ag {cs ds : List PV} (h : SubL cs ds) : SubV (.ag cs) (.ag ds)
inductive SubA : List PV → List PV → Prop
  | n : SubA [] []
  | c {p q : PV} {ps qs : List PV} (h : SubV p q) (k : SubA ps qs) : SubA (p :: ps) (q :: qs)
theorem SubC.rep {w : World} {E : Env} {p q : PV} {x : Value} (h : SubC p q) (hr : Rep w E p x) : Rep w E q x := by
  cases h with
  | r => exact hr
  | nil c =>
    cases hr with
    | c h => cases h with
      | v _ _ => exact .c (.nil none c)
theorem SubL.len {cs ds : List PV} (h : SubL cs ds) : cs.length = ds.length := by
  induction h with
  | n => rfl
  | c _ _ ih => simp [ih]
theorem SubL.get {cs ds : List PV} (h : SubL cs ds) : ∀ (j : Nat) (q : PV), ds[j]? = some q → ∃ p, cs[j]? = some p ∧ SubC p q := by
  induction h with
  | n => intro j q hq; simp at hq
  | c h k ih =>
    intro j q hq
    cases j with
    | zero => simp at hq; subst hq; exact ⟨_, by simp, h⟩
    | succ j => simpa using ih j q (by simpa using hq)
theorem SubV.rep {w : World} {E : Env} {p q : PV} {x : Value} (h : SubV p q) (hr : Rep w E p x) : Rep w E q x := by
  cases h with
  | c h => exact h.rep hr
  | ag h =>
    obtain ⟨vs, rfl, hl, h1, hc⟩ := Rep.ag_inv hr
    exact .ag _ vs (by rw [hl, h.len]) h1 fun j p y hp hy => by
      obtain ⟨p', hp', hs⟩ := h.get j p hp
      exact hs.rep (hc j p' y hp' hy)
theorem SubA.len {cs ds : List PV} (h : SubA cs ds) : cs.length = ds.length := by
  induction h with
  | n => rfl
  | c _ _ ih => simp [ih]
theorem SubA.get {cs ds : List PV} (h : SubA cs ds) : ∀ (j : Nat) (q : PV), ds[j]? = some q → ∃ p, cs[j]? = some p ∧ SubV p q := by
  induction h with
  | n => intro j q hq; simp at hq
  | c h k ih =>
    intro j q hq
    cases j with
    | zero => simp at hq; subst hq; exact ⟨_, by simp, h⟩
    | succ j => simpa using ih j q (by simpa using hq)
theorem CallM.weak {P : Program} {f : FuncId} {ps qs : List PV} {m0 : Mem} {r : PV} {m1 : Mem} (h : CallM P f qs m0 r m1) (hs : SubA ps qs) : CallM P f ps m0 r m1 := by
  intro S β w vs hok hl ha
  refine h S β w vs hok (by rw [hl, hs.len]) fun i q hq => ?_
  obtain ⟨p, hp, hv⟩ := hs.get i q hq
  obtain ⟨x, hx, hr⟩ := ha i p hp
  exact ⟨x, hx, hv.rep hr⟩
/-- As isC, own rows too. -/
def isCM : PV → Bool
  | .ms _ => true
  | p => isC p
def isCAM : PV → Bool
  | .ag cs => cs.all isCM
  | .tu _ => false
  | p => isCM p
theorem goodM_of {p : PV} (h : isCM p = true) : goodC false p := by
  cases p with
  | ms l => simp [goodC]
  | _ => exact goodC_of h
theorem gV_agM {cs : List PV} (h : cs.all isCM = true) : goodV false (.ag cs) := fun c hc => goodM_of (List.all_eq_true.1 h c hc)
theorem gV_tuM {ps : List PV} (h : ps.all isCAM = true) : goodV false (.tu ps) := by
  intro c hc
  have := List.all_eq_true.1 h c hc
  cases c with
  | ag cs => exact fun d hd => goodM_of (List.all_eq_true.1 this d hd)
  | tu vs => simp [isCAM] at this
  | fn f cs => exact goodC_of (c := .fn f cs) this
  | _ => simp [goodA, goodC]
theorem cutC_nilsl0 {m m' : Mem} {ρ : Nat → Option Nat} {c : Nat} : CutC ρ m m' (.v (.slice none 0 c)) (.sl []) := .nilsl c
theorem rowsOk_new0 {m m' : Mem} {rs rr : List (Option Nat)} {T k : Nat} {mm : Mem} (hk : decide (0 < k) = true) (h : rowsOk rs m m' rr mm) : rowsOk rs m m' (none :: rr) (some ⟨T, k, []⟩ :: mm) := ⟨⟨rfl, of_decide_eq_true hk⟩, h⟩
theorem lowB_0 {i : Nat} {rs : List (Option Nat)} {m : Mem} : lowB 0 i rs m = true := rfl
theorem lowB_c {n i : Nat} {rs : List (Option Nat)} {mb : MB} {m : Mem} (h : lowB n (i + 1) rs m = true) : lowB (n + 1) i (some i :: rs) (some mb :: m) = true := by simp [lowB, h]
theorem lowB_d {n i : Nat} {rs : List (Option Nat)} {m : Mem} (h : lowB n (i + 1) rs m = true) : lowB (n + 1) i (none :: rs) (none :: m) = true := by simpa [lowB] using h
theorem cutL_0 {n0 : Nat} {t t' : List PV} {m : Mem} (hl : lowB n0 0 [] [] = true) (hT : cutT (rho []) m [] t t') (hM : rowsOk [] m [] [] []) (hi : injB [] = true) : Cuts n0 t m t' [] := cut_mk hT hM hi hl
theorem cutL_1 {n0 : Nat} {t t' : List PV} {m : Mem} {a : Option MB} (r0 : Option Nat) (hl : lowB n0 0 [r0] [a] = true) (hT : cutT (rho [r0]) m [a] t t') (hM : rowsOk [r0] m [a] [r0] [a]) (hi : injB [r0] = true) : Cuts n0 t m t' [a] := cut_mk hT hM hi hl
theorem cutL_2 {n0 : Nat} {t t' : List PV} {m : Mem} {a b : Option MB} (r0 r1 : Option Nat) (hl : lowB n0 0 [r0, r1] [a, b] = true) (hT : cutT (rho [r0, r1]) m [a, b] t t') (hM : rowsOk [r0, r1] m [a, b] [r0, r1] [a, b]) (hi : injB [r0, r1] = true) : Cuts n0 t m t' [a, b] := cut_mk hT hM hi hl
theorem cutL_3 {n0 : Nat} {t t' : List PV} {m : Mem} {a b c : Option MB} (r0 r1 r2 : Option Nat) (hl : lowB n0 0 [r0, r1, r2] [a, b, c] = true) (hT : cutT (rho [r0, r1, r2]) m [a, b, c] t t') (hM : rowsOk [r0, r1, r2] m [a, b, c] [r0, r1, r2] [a, b, c]) (hi : injB [r0, r1, r2] = true) : Cuts n0 t m t' [a, b, c] := cut_mk hT hM hi hl
theorem cutL_4 {n0 : Nat} {t t' : List PV} {m : Mem} {a b c d : Option MB} (r0 r1 r2 r3 : Option Nat) (hl : lowB n0 0 [r0, r1, r2, r3] [a, b, c, d] = true) (hT : cutT (rho [r0, r1, r2, r3]) m [a, b, c, d] t t') (hM : rowsOk [r0, r1, r2, r3] m [a, b, c, d] [r0, r1, r2, r3] [a, b, c, d]) (hi : injB [r0, r1, r2, r3] = true) : Cuts n0 t m t' [a, b, c, d] := cut_mk hT hM hi hl
theorem cutL_5 {n0 : Nat} {t t' : List PV} {m : Mem} {a b c d e : Option MB} (r0 r1 r2 r3 r4 : Option Nat) (hl : lowB n0 0 [r0, r1, r2, r3, r4] [a, b, c, d, e] = true) (hT : cutT (rho [r0, r1, r2, r3, r4]) m [a, b, c, d, e] t t') (hM : rowsOk [r0, r1, r2, r3, r4] m [a, b, c, d, e] [r0, r1, r2, r3, r4] [a, b, c, d, e]) (hi : injB [r0, r1, r2, r3, r4] = true) : Cuts n0 t m t' [a, b, c, d, e] := cut_mk hT hM hi hl
theorem cutL_6 {n0 : Nat} {t t' : List PV} {m : Mem} {a b c d e f : Option MB} (r0 r1 r2 r3 r4 r5 : Option Nat) (hl : lowB n0 0 [r0, r1, r2, r3, r4, r5] [a, b, c, d, e, f] = true) (hT : cutT (rho [r0, r1, r2, r3, r4, r5]) m [a, b, c, d, e, f] t t') (hM : rowsOk [r0, r1, r2, r3, r4, r5] m [a, b, c, d, e, f] [r0, r1, r2, r3, r4, r5] [a, b, c, d, e, f]) (hi : injB [r0, r1, r2, r3, r4, r5] = true) : Cuts n0 t m t' [a, b, c, d, e, f] := cut_mk hT hM hi hl
theorem cutL_7 {n0 : Nat} {t t' : List PV} {m : Mem} {a b c d e f g : Option MB} (r0 r1 r2 r3 r4 r5 r6 : Option Nat) (hl : lowB n0 0 [r0, r1, r2, r3, r4, r5, r6] [a, b, c, d, e, f, g] = true) (hT : cutT (rho [r0, r1, r2, r3, r4, r5, r6]) m [a, b, c, d, e, f, g] t t') (hM : rowsOk [r0, r1, r2, r3, r4, r5, r6] m [a, b, c, d, e, f, g] [r0, r1, r2, r3, r4, r5, r6] [a, b, c, d, e, f, g]) (hi : injB [r0, r1, r2, r3, r4, r5, r6] = true) : Cuts n0 t m t' [a, b, c, d, e, f, g] := cut_mk hT hM hi hl
theorem cutL_8 {n0 : Nat} {t t' : List PV} {m : Mem} {a b c d e f g h : Option MB} (r0 r1 r2 r3 r4 r5 r6 r7 : Option Nat) (hl : lowB n0 0 [r0, r1, r2, r3, r4, r5, r6, r7] [a, b, c, d, e, f, g, h] = true) (hT : cutT (rho [r0, r1, r2, r3, r4, r5, r6, r7]) m [a, b, c, d, e, f, g, h] t t') (hM : rowsOk [r0, r1, r2, r3, r4, r5, r6, r7] m [a, b, c, d, e, f, g, h] [r0, r1, r2, r3, r4, r5, r6, r7] [a, b, c, d, e, f, g, h]) (hi : injB [r0, r1, r2, r3, r4, r5, r6, r7] = true) : Cuts n0 t m t' [a, b, c, d, e, f, g, h] := cut_mk hT hM hi hl
theorem cutL_9 {n0 : Nat} {t t' : List PV} {m : Mem} {a b c d e f g h i : Option MB} (r0 r1 r2 r3 r4 r5 r6 r7 r8 : Option Nat) (hl : lowB n0 0 [r0, r1, r2, r3, r4, r5, r6, r7, r8] [a, b, c, d, e, f, g, h, i] = true) (hT : cutT (rho [r0, r1, r2, r3, r4, r5, r6, r7, r8]) m [a, b, c, d, e, f, g, h, i] t t') (hM : rowsOk [r0, r1, r2, r3, r4, r5, r6, r7, r8] m [a, b, c, d, e, f, g, h, i] [r0, r1, r2, r3, r4, r5, r6, r7, r8] [a, b, c, d, e, f, g, h, i]) (hi : injB [r0, r1, r2, r3, r4, r5, r6, r7, r8] = true) : Cuts n0 t m t' [a, b, c, d, e, f, g, h, i] := cut_mk hT hM hi hl
theorem cutL_10 {n0 : Nat} {t t' : List PV} {m : Mem} {a b c d e f g h i j : Option MB} (r0 r1 r2 r3 r4 r5 r6 r7 r8 r9 : Option Nat) (hl : lowB n0 0 [r0, r1, r2, r3, r4, r5, r6, r7, r8, r9] [a, b, c, d, e, f, g, h, i, j] = true) (hT : cutT (rho [r0, r1, r2, r3, r4, r5, r6, r7, r8, r9]) m [a, b, c, d, e, f, g, h, i, j] t t') (hM : rowsOk [r0, r1, r2, r3, r4, r5, r6, r7, r8, r9] m [a, b, c, d, e, f, g, h, i, j] [r0, r1, r2, r3, r4, r5, r6, r7, r8, r9] [a, b, c, d, e, f, g, h, i, j]) (hi : injB [r0, r1, r2, r3, r4, r5, r6, r7, r8, r9] = true) : Cuts n0 t m t' [a, b, c, d, e, f, g, h, i, j] := cut_mk hT hM hi hl
theorem cutL_11 {n0 : Nat} {t t' : List PV} {m : Mem} {a b c d e f g h i j k : Option MB} (r0 r1 r2 r3 r4 r5 r6 r7 r8 r9 r10 : Option Nat) (hl : lowB n0 0 [r0, r1, r2, r3, r4, r5, r6, r7, r8, r9, r10] [a, b, c, d, e, f, g, h, i, j, k] = true) (hT : cutT (rho [r0, r1, r2, r3, r4, r5, r6, r7, r8, r9, r10]) m [a, b, c, d, e, f, g, h, i, j, k] t t') (hM : rowsOk [r0, r1, r2, r3, r4, r5, r6, r7, r8, r9, r10] m [a, b, c, d, e, f, g, h, i, j, k] [r0, r1, r2, r3, r4, r5, r6, r7, r8, r9, r10] [a, b, c, d, e, f, g, h, i, j, k]) (hi : injB [r0, r1, r2, r3, r4, r5, r6, r7, r8, r9, r10] = true) : Cuts n0 t m t' [a, b, c, d, e, f, g, h, i, j, k] := cut_mk hT hM hi hl
theorem cutL_12 {n0 : Nat} {t t' : List PV} {m : Mem} {a b c d e f g h i j k l : Option MB} (r0 r1 r2 r3 r4 r5 r6 r7 r8 r9 r10 r11 : Option Nat) (hl : lowB n0 0 [r0, r1, r2, r3, r4, r5, r6, r7, r8, r9, r10, r11] [a, b, c, d, e, f, g, h, i, j, k, l] = true) (hT : cutT (rho [r0, r1, r2, r3, r4, r5, r6, r7, r8, r9, r10, r11]) m [a, b, c, d, e, f, g, h, i, j, k, l] t t') (hM : rowsOk [r0, r1, r2, r3, r4, r5, r6, r7, r8, r9, r10, r11] m [a, b, c, d, e, f, g, h, i, j, k, l] [r0, r1, r2, r3, r4, r5, r6, r7, r8, r9, r10, r11] [a, b, c, d, e, f, g, h, i, j, k, l]) (hi : injB [r0, r1, r2, r3, r4, r5, r6, r7, r8, r9, r10, r11] = true) : Cuts n0 t m t' [a, b, c, d, e, f, g, h, i, j, k, l] := cut_mk hT hM hi hl
theorem goodD_cells {b : Bool} {T k : Nat} {es : List (List PV)} (h : ∀ cs ∈ es, ∀ p ∈ cs, goodC b p) : ∀ mb, some mb ∈ ([some ⟨T, k, es⟩] : Mem) → ∀ cs ∈ mb.es, ∀ p ∈ cs, goodC b p := by
  intro mb hm
  simp only [List.mem_singleton, Option.some.injEq] at hm
  subst hm
  exact h
theorem hm_none {m : Mem} {b : Bool} (h2 : ∀ mb, some mb ∈ m → ∀ cs ∈ mb.es, ∀ p ∈ cs, goodC b p) : ∀ mb, some mb ∈ ((none : Option MB) :: m) → ∀ cs ∈ mb.es, ∀ p ∈ cs, goodC b p := by
  intro mb h
  rcases List.mem_cons.1 h with h | h
  · cases h
  · exact h2 mb h
theorem hm_e {T k : Nat} {b : Bool} : ∀ mb, some mb ∈ ([some ⟨T, k, []⟩] : Mem) → ∀ cs ∈ mb.es, ∀ p ∈ cs, goodC b p := goodD_cells (by simp)
theorem Hnone {α β : Type} {K : α → Option β} {r : β} (h : (none : Option α).bind K = some r) : False := by cases h

theorem wk2 {p : Prop} (h : p := by
  (simp only [List.length_cons, List.length_nil, Nat.reduceAdd, Nat.reduceSub, List.replicate_succ, List.replicate_zero, List.cons_append, List.nil_append, go_sem]);
  repeat' (first
    | ((refine call_io H rfl rfl rfl ?_ ?_ ?_ ?_ ?_ ?_ ?_ ?_); (focus (first | rfl | (simp only [CT.args, List.map_cons, List.map_nil, renA, renC, ren1, sig_z, sig_s, sig_n]; done))); (focus (simp [CT.args, CT.m0, goodA, goodC, lowA, lowC, low1, isR])); (focus (first | exact List.nodup_nil | decide)); (focus ((simp only [CT.m0]); (repeat' (first | exact inRows_nil | (refine inRows_map (by rfl) ?_) | (refine inRows_one (by rfl) (by rfl) (by simp [goodC, lowC, low1, isR]) ?_))))); (focus (intro y_; simp [CT.mem, CT.m0])); (focus (intro y_; (simp only [CT.mem]); (repeat (first | exact hm_nil | exact hm_one | exact hm_oneT | (refine hm_c hm_one ?_) | (refine hm_c (goodD_cells (by simp [goodC, isR])) ?_) | exact goodD_cells (by simp [goodC, isR]) | (refine hm_none ?_))))); (focus (intro y_; (simp [CT.res, goodV, goodA, goodC, isR]))); (clear H; intro y_ hy H; simp only [CT.res, CT.mem, putIn, List.drop_succ_cons, List.drop_zero, Option.map_none, go_sem, Nat.reduceAdd, Nat.reduceSub, Nat.reduceMul, Nat.reduceLT, Nat.reduceLeDiff, Nat.reduceEqDiff, if_true, eq_self]))
    | ((with_reducible refine pwp_frzL H ?_ ?_); (focus ((with_reducible refine cutS ?_); (first | (with_reducible apply cutL_0) | (with_reducible apply cutL_1) | (with_reducible apply cutL_2) | (with_reducible apply cutL_3) | (with_reducible apply cutL_4) | (with_reducible apply cutL_5) | (with_reducible apply cutL_6) | (with_reducible apply cutL_7) | (with_reducible apply cutL_8) | (with_reducible apply cutL_9) | (with_reducible apply cutL_10) | (with_reducible apply cutL_11) | (with_reducible apply cutL_12)); (repeat' (first       | (exact lowB_0) | (refine lowB_c ?_) | (refine lowB_d ?_) | (with_reducible refine cutT_un ?_)       | (with_reducible refine cutT_c ?_ ?_)       | (with_reducible exact cutT_nil)       | (with_reducible exact cutV_c rfl)       | exact cutV_c rfl       | (with_reducible exact cutL_nil)       | (with_reducible refine cutL_c ?_ ?_)       | exact .c _ rfl       | exact .un _       | exact cutC_ms rfl rfl       | exact cutC_be rfl rfl       | exact cutC_nilsl0 | exact cutC_nilsl       | exact cutC_nilms rfl rfl       | (refine cutC_fms rfl ?_)       | (refine cutC_fbe rfl rfl ?_)       | (with_reducible refine cutV_ag ?_)       | (with_reducible refine cutV_tu ?_)       | (with_reducible exact cutAs_nil)       | (with_reducible refine cutAs_c ?_ ?_)       | (with_reducible refine cutA_ag ?_)       | (with_reducible refine cutA_k ?_)       | (with_reducible refine cutV_k ?_)       | (with_reducible exact rowsOk_nil)       | (refine rowsOk_live rfl ?_ ?_)       | (refine rowsOk_new0 rfl ?_) | (refine rowsOk_new rfl ?_)       | (with_reducible refine rowsOk_dead ?_)       | (with_reducible refine cutB_one ?_)       | (with_reducible exact cutB_nil)       | (with_reducible refine cutB_two ?_)       | (with_reducible exact cutE_n)       | (with_reducible refine cutE_c ?_ ?_)       | (with_reducible exact cutB_same)       | (with_reducible refine cutB_set ?_)       | exact cutB_same       | (refine cutB_set ?_)       | (refine cutB_rep ?_)       | (refine cutB_snoc ?_)       | (simp only [cInt, cStr, cBool, cLabel, cParcel, cZone, cRate, cLeg, cNetwork, cTrip, cBooking, cScan, cOrder, cWorld, cLine, cAct, cOffice, cItem, cChute, cInlet, cCentre, cThing, cBelief])       | (with_unfolding_all rfl))); (all_goals first | (exact dropped_of rfl) | exact none))); (clear H; intro z_ H))
    | ((with_reducible refine pwp_frz H ?_ ?_); (focus ((with_reducible refine cutS ?_); (first | (with_reducible apply cutL_0) | (with_reducible apply cutL_1) | (with_reducible apply cutL_2) | (with_reducible apply cutL_3) | (with_reducible apply cutL_4) | (with_reducible apply cutL_5) | (with_reducible apply cutL_6) | (with_reducible apply cutL_7) | (with_reducible apply cutL_8) | (with_reducible apply cutL_9) | (with_reducible apply cutL_10) | (with_reducible apply cutL_11) | (with_reducible apply cutL_12)); (repeat' (first       | (exact lowB_0) | (refine lowB_c ?_) | (refine lowB_d ?_) | (with_reducible refine cutT_un ?_)       | (with_reducible refine cutT_c ?_ ?_)       | (with_reducible exact cutT_nil)       | (with_reducible exact cutV_c rfl)       | exact cutV_c rfl       | (with_reducible exact cutL_nil)       | (with_reducible refine cutL_c ?_ ?_)       | exact .c _ rfl       | exact .un _       | exact cutC_ms rfl rfl       | exact cutC_be rfl rfl       | exact cutC_nilsl0 | exact cutC_nilsl       | exact cutC_nilms rfl rfl       | (refine cutC_fms rfl ?_)       | (refine cutC_fbe rfl rfl ?_)       | (with_reducible refine cutV_ag ?_)       | (with_reducible refine cutV_tu ?_)       | (with_reducible exact cutAs_nil)       | (with_reducible refine cutAs_c ?_ ?_)       | (with_reducible refine cutA_ag ?_)       | (with_reducible refine cutA_k ?_)       | (with_reducible refine cutV_k ?_)       | (with_reducible exact rowsOk_nil)       | (refine rowsOk_live rfl ?_ ?_)       | (refine rowsOk_new0 rfl ?_) | (refine rowsOk_new rfl ?_)       | (with_reducible refine rowsOk_dead ?_)       | (with_reducible refine cutB_one ?_)       | (with_reducible exact cutB_nil)       | (with_reducible refine cutB_two ?_)       | (with_reducible exact cutE_n)       | (with_reducible refine cutE_c ?_ ?_)       | (with_reducible exact cutB_same)       | (with_reducible refine cutB_set ?_)       | exact cutB_same       | (refine cutB_set ?_)       | (refine cutB_rep ?_)       | (refine cutB_snoc ?_)       | (simp only [cInt, cStr, cBool, cLabel, cParcel, cZone, cRate, cLeg, cNetwork, cTrip, cBooking, cScan, cOrder, cWorld, cLine, cAct, cOffice, cItem, cChute, cInlet, cCentre, cThing, cBelief])       | (with_unfolding_all rfl))); (all_goals first | (exact dropped_of rfl) | exact none))); (clear H; intro H))
    | ((with_reducible refine pwp_seq ?_); intro K_ hK)
    | ((with_reducible refine pwp_block ?_))
    | ((with_reducible refine pwp_region ?_); simp only [go_sem, Nat.reduceAdd, Nat.reduceSub, Nat.reduceMul, Nat.reduceLT, Nat.reduceLeDiff, Nat.reduceEqDiff, if_true, eq_self])
    | ((with_reducible refine pwp_skip ?_); simp only [thenP_normal, blockP_normal])
    | ((with_reducible refine pwp_exit ?_); (simp only [thenP_exit, blockP_exit, thenP_normal, blockP_normal, if_true, if_false, eq_self, Nat.reduceEqDiff, Nat.one_ne_zero, Nat.zero_ne_one]); (try simp only [bexR, bsr, bsl] at H))
    | ((with_reducible refine pwp_ret ?_); (try simp only [thenP_ret, blockP_ret]))
    | ((with_reducible refine hQ _ _ ?_); (try simp only [bexR, bsr, bsl] at H); replace H := Hret H; subst H; simp only [Fin, resP, oneP, go_sem, Nat.reduceAdd, Nat.reduceSub, Nat.reduceMul, Nat.reduceLT, Nat.reduceLeDiff, Nat.reduceEqDiff, if_true, eq_self]; (with_reducible refine cutS ?_); (first | (with_reducible apply cutL_0) | (with_reducible apply cutL_1) | (with_reducible apply cutL_2) | (with_reducible apply cutL_3) | (with_reducible apply cutL_4) | (with_reducible apply cutL_5) | (with_reducible apply cutL_6) | (with_reducible apply cutL_7) | (with_reducible apply cutL_8) | (with_reducible apply cutL_9) | (with_reducible apply cutL_10) | (with_reducible apply cutL_11) | (with_reducible apply cutL_12)); (repeat' (first       | (exact lowB_0) | (refine lowB_c ?_) | (refine lowB_d ?_) | (with_reducible refine cutT_un ?_)       | (with_reducible refine cutT_c ?_ ?_)       | (with_reducible exact cutT_nil)       | (with_reducible exact cutV_c rfl)       | exact cutV_c rfl       | (with_reducible exact cutL_nil)       | (with_reducible refine cutL_c ?_ ?_)       | exact .c _ rfl       | exact .un _       | exact cutC_ms rfl rfl       | exact cutC_be rfl rfl       | exact cutC_nilsl0 | exact cutC_nilsl       | exact cutC_nilms rfl rfl       | (refine cutC_fms rfl ?_)       | (refine cutC_fbe rfl rfl ?_)       | (with_reducible refine cutV_ag ?_)       | (with_reducible refine cutV_tu ?_)       | (with_reducible exact cutAs_nil)       | (with_reducible refine cutAs_c ?_ ?_)       | (with_reducible refine cutA_ag ?_)       | (with_reducible refine cutA_k ?_)       | (with_reducible refine cutV_k ?_)       | (with_reducible exact rowsOk_nil)       | (refine rowsOk_live rfl ?_ ?_)       | (refine rowsOk_new0 rfl ?_) | (refine rowsOk_new rfl ?_)       | (with_reducible refine rowsOk_dead ?_)       | (with_reducible refine cutB_one ?_)       | (with_reducible exact cutB_nil)       | (with_reducible refine cutB_two ?_)       | (with_reducible exact cutE_n)       | (with_reducible refine cutE_c ?_ ?_)       | (with_reducible exact cutB_same)       | (with_reducible refine cutB_set ?_)       | exact cutB_same       | (refine cutB_set ?_)       | (refine cutB_rep ?_)       | (refine cutB_snoc ?_)       | (simp only [cInt, cStr, cBool, cLabel, cParcel, cZone, cRate, cLeg, cNetwork, cTrip, cBooking, cScan, cOrder, cWorld, cLine, cAct, cOffice, cItem, cChute, cInlet, cCentre, cThing, cBelief])       | (with_unfolding_all rfl))); (all_goals first | (exact dropped_of rfl) | exact none))
    | ((with_reducible refine hQn _ _ ?_); (try simp only [bexR, bsr, bsl] at H); replace H := Hret H; subst H; simp only [Fin, resP, oneP, go_sem, Nat.reduceAdd, Nat.reduceSub, Nat.reduceMul, Nat.reduceLT, Nat.reduceLeDiff, Nat.reduceEqDiff, if_true, eq_self]; (with_reducible refine cutS ?_); (first | (with_reducible apply cutL_0) | (with_reducible apply cutL_1) | (with_reducible apply cutL_2) | (with_reducible apply cutL_3) | (with_reducible apply cutL_4) | (with_reducible apply cutL_5) | (with_reducible apply cutL_6) | (with_reducible apply cutL_7) | (with_reducible apply cutL_8) | (with_reducible apply cutL_9) | (with_reducible apply cutL_10) | (with_reducible apply cutL_11) | (with_reducible apply cutL_12)); (repeat' (first       | (exact lowB_0) | (refine lowB_c ?_) | (refine lowB_d ?_) | (with_reducible refine cutT_un ?_)       | (with_reducible refine cutT_c ?_ ?_)       | (with_reducible exact cutT_nil)       | (with_reducible exact cutV_c rfl)       | exact cutV_c rfl       | (with_reducible exact cutL_nil)       | (with_reducible refine cutL_c ?_ ?_)       | exact .c _ rfl       | exact .un _       | exact cutC_ms rfl rfl       | exact cutC_be rfl rfl       | exact cutC_nilsl0 | exact cutC_nilsl       | exact cutC_nilms rfl rfl       | (refine cutC_fms rfl ?_)       | (refine cutC_fbe rfl rfl ?_)       | (with_reducible refine cutV_ag ?_)       | (with_reducible refine cutV_tu ?_)       | (with_reducible exact cutAs_nil)       | (with_reducible refine cutAs_c ?_ ?_)       | (with_reducible refine cutA_ag ?_)       | (with_reducible refine cutA_k ?_)       | (with_reducible refine cutV_k ?_)       | (with_reducible exact rowsOk_nil)       | (refine rowsOk_live rfl ?_ ?_)       | (refine rowsOk_new0 rfl ?_) | (refine rowsOk_new rfl ?_)       | (with_reducible refine rowsOk_dead ?_)       | (with_reducible refine cutB_one ?_)       | (with_reducible exact cutB_nil)       | (with_reducible refine cutB_two ?_)       | (with_reducible exact cutE_n)       | (with_reducible refine cutE_c ?_ ?_)       | (with_reducible exact cutB_same)       | (with_reducible refine cutB_set ?_)       | exact cutB_same       | (refine cutB_set ?_)       | (refine cutB_rep ?_)       | (refine cutB_snoc ?_)       | (simp only [cInt, cStr, cBool, cLabel, cParcel, cZone, cRate, cLeg, cNetwork, cTrip, cBooking, cScan, cOrder, cWorld, cLine, cAct, cOffice, cItem, cChute, cInlet, cCentre, cThing, cBelief])       | (with_unfolding_all rfl))); (all_goals first | (exact dropped_of rfl) | exact none))
    | ((with_reducible refine gateS ?_); (refine gate2_intro (fun hg => Hc1k H hg ?_) (fun hg => Hc2k H hg ?_)) <;> (clear H; intro H; simp only [go_sem, Nat.reduceAdd, Nat.reduceSub, Nat.reduceMul, Nat.reduceLT, Nat.reduceLeDiff, Nat.reduceEqDiff, if_true, eq_self]))
    | ((with_reducible refine pwp_condE ?_); simp only [evP_tmp, getD_z, getD_s, evP_bool]; (first | (with_reducible refine condP_tt ?_) | (with_reducible refine condP_ff ?_) | ((refine condP_intro (fun hg => Hc1k H hg ?_) (fun hg => Hc2k H hg ?_)) <;> (clear H; intro H))))
    | ((with_reducible refine idxS ?_); replace H := Hcall H; obtain ⟨y_, hy, H⟩ := H; (with_reducible apply idx_sl hy); (focus (first | (simp only [go_sem]; done) | (simp only [go_sem]; decide))); (focus (first | rfl | (simp only [go_sem]; rfl))); simp only [go_sem, Nat.reduceAdd, Nat.reduceSub, Nat.reduceMul, Nat.reduceLT, Nat.reduceLeDiff, Nat.reduceEqDiff, if_true, eq_self])
    | ((with_reducible refine idxM ?_); replace H := Hcall H; obtain ⟨y_, hy, H⟩ := H; (refine idx_msb hy (by rfl) (by first | (simp only [go_sem]; done) | (simp only [go_sem]; decide)) (by first | rfl | (simp only [go_sem]; rfl)) ?_); simp only [go_sem, Nat.reduceAdd, Nat.reduceSub, Nat.reduceMul, Nat.reduceLT, Nat.reduceLeDiff, Nat.reduceEqDiff, if_true, eq_self])
    | ((with_reducible refine idxB ?_); replace H := Hcall H; obtain ⟨y_, hy, H⟩ := H; (with_reducible apply idx_str hy); (focus (simp only [go_sem])); simp only [go_sem, Nat.reduceAdd, Nat.reduceSub, Nat.reduceMul, Nat.reduceLT, Nat.reduceLeDiff, Nat.reduceEqDiff, if_true, eq_self])
    | ((with_reducible refine callS ?_); replace H := Hcall H; obtain ⟨y_, hy, H⟩ := H; (first | ((with_reducible apply call_deep); (focus (exact CT.ok hy)); (focus (simp [isCA, isC, isC1])); (focus (exact Nat.le_of_ble_eq_true rfl)); (focus (first | exact hm_nil | (repeat (first | exact hm_one | exact hm_oneT | exact hm_e | (refine hm_c hm_one ?_) | (refine hm_c hm_oneT ?_) | (refine hm_c hm_e ?_) | (refine hm_none ?_))))); (focus (first | exact gV_ag rfl | exact gV_tu rfl | exact gV_agM rfl | exact gV_tuM rfl | exact (fun h => (by cases h)) | (simp [CT.res, goodV, goodA, goodC]))); (simp only [CT.res, CT.mem, go_sem, Nat.reduceAdd, Nat.reduceSub, Nat.reduceMul, Nat.reduceLT, Nat.reduceLeDiff, Nat.reduceEqDiff, if_true, eq_self])) | ((with_reducible apply call_deep); (focus ((refine CallM.weak (CT.ok hy) ?_); (repeat' (first | exact SubA.n | (refine SubA.c ?_ ?_) | exact SubV.c (SubC.r _) | (refine SubV.ag ?_) | exact SubL.n | (refine SubL.c ?_ ?_) | exact SubC.r _ | exact SubC.nil _)))); (focus (simp [isCA, isC, isC1])); (focus (exact Nat.le_of_ble_eq_true rfl)); (focus (first | exact hm_nil | (repeat (first | exact hm_one | exact hm_oneT | exact hm_e | (refine hm_c hm_one ?_) | (refine hm_c hm_oneT ?_) | (refine hm_c hm_e ?_) | (refine hm_none ?_))))); (focus (first | exact gV_ag rfl | exact gV_tu rfl | exact gV_agM rfl | exact gV_tuM rfl | exact (fun h => (by cases h)) | (simp [CT.res, goodV, goodA, goodC]))); (simp only [CT.res, CT.mem, go_sem, Nat.reduceAdd, Nat.reduceSub, Nat.reduceMul, Nat.reduceLT, Nat.reduceLeDiff, Nat.reduceEqDiff, if_true, eq_self])) | ((with_reducible apply call_flat); (focus (first | (simp only [snapA, snapV, snapC, snapL, live_look, look_z, look_s, rowQ_map, List.forall_mem_nil, true_and, and_true]; (first | exact CT.ok hy | (simp only [all_nil, all_cons, isC, isC1, true_and, and_true]; exact CT.ok hy))) | (simp only [snapA, snapV, snapC, snapL, live_look, look_z, look_s, rowQ_map, List.forall_mem_nil, true_and, and_true]; (first | ((refine CallM.weak (CT.ok hy) ?_); (repeat' (first | exact SubA.n | (refine SubA.c ?_ ?_) | exact SubV.c (SubC.r _) | (refine SubV.ag ?_) | exact SubL.n | (refine SubL.c ?_ ?_) | exact SubC.r _ | exact SubC.nil _))) | (simp only [all_nil, all_cons, isC, isC1, true_and, and_true]; ((refine CallM.weak (CT.ok hy) ?_); (repeat' (first | exact SubA.n | (refine SubA.c ?_ ?_) | exact SubV.c (SubC.r _) | (refine SubV.ag ?_) | exact SubL.n | (refine SubL.c ?_ ?_) | exact SubC.r _ | exact SubC.nil _)))))))); (focus (exact Nat.le_of_ble_eq_true rfl)); (focus (first | exact hm_nil | (repeat (first | exact hm_one | exact hm_oneT | exact hm_e | (refine hm_c hm_one ?_) | (refine hm_c hm_oneT ?_) | (refine hm_c hm_e ?_) | (refine hm_none ?_))))); (focus (first | exact gV_agF rfl | exact (fun _ => rfl) | (simp [CT.res, goodV, goodA, goodC, isF]))); (simp only [CT.res, CT.mem, go_sem, Nat.reduceAdd, Nat.reduceSub, Nat.reduceMul, Nat.reduceLT, Nat.reduceLeDiff, Nat.reduceEqDiff, if_true, eq_self]))))
    | ((with_reducible refine slcS ?_); replace H := Hchk H; obtain ⟨hc, H⟩ := H; (first | ((with_reducible apply slice_sl hc); (focus rfl); (focus rfl); (focus (first | (simp only [go_sem]; done) | (simp only [go_sem]; decide))); (focus (first | rfl | (intro x_; rfl))); simp only [go_sem, Nat.reduceAdd, Nat.reduceSub, Nat.reduceMul, Nat.reduceLT, Nat.reduceLeDiff, Nat.reduceEqDiff, if_true, eq_self]) | ((refine slice_msb hc (by rfl) (by rfl) (by rfl) (by first | (simp only [go_sem]; done) | (simp only [go_sem]; decide)) (by first | rfl | (simp only [go_sem]; rfl)) ?_); simp only [go_sem, Nat.reduceAdd, Nat.reduceSub, Nat.reduceMul, Nat.reduceLT, Nat.reduceLeDiff, Nat.reduceEqDiff, if_true, eq_self]) | ((with_reducible apply slice_str hc); (focus rfl); (focus rfl); (focus (simp only [go_sem])); simp only [go_sem, Nat.reduceAdd, Nat.reduceSub, Nat.reduceMul, Nat.reduceLT, Nat.reduceLeDiff, Nat.reduceEqDiff, if_true, eq_self])))
    | ((with_reducible refine appS ?_); replace H := Hchk H; obtain ⟨hc, H⟩ := H; (first | (refine app_msb hc (by first | (simp only [go_sem]; done) | (simp only [go_sem]; rfl)) (by first | (simp only [go_sem]; done) | (simp only [go_sem]; rfl)) (by first | (simp only [go_sem]; done) | (simp only [go_sem]; rfl)) (by first | (simp only [go_sem]; done) | (simp only [go_sem]; rfl)) (by rfl) (by first | rfl | exact src_ss' (by rfl) (by rfl) (by rfl)) rfl rfl (by intro x_; rfl) rfl ?_) | (refine app_nlb hc (by first | (simp only [go_sem]; done) | (simp only [go_sem]; rfl)) (by first | (simp only [go_sem]; done) | (simp only [go_sem]; rfl)) (by first | (simp only [go_sem]; done) | (simp only [go_sem]; rfl)) (by first | (simp only [go_sem]; done) | (simp only [go_sem]; rfl)) (by first | rfl | exact src_ss' (by rfl) (by rfl) (by rfl)) rfl rfl (by intro x_; rfl) ?_)); simp only [go_sem, Nat.reduceAdd, Nat.reduceSub, Nat.reduceMul, Nat.reduceLT, Nat.reduceLeDiff, Nat.reduceEqDiff, if_true, eq_self])
    | ((with_reducible refine mkS ?_); replace H := Hchk H; obtain ⟨hc, H⟩ := H; (refine make_b hc (by first | (simp only [go_sem]; done) | (simp only [go_sem]; rfl)) (by first | (simp only [go_sem]; done) | (simp only [go_sem]; rfl)) (by first | (simp only [go_sem]; done) | (simp only [go_sem]; rfl)) (by first | (simp only [go_sem]; done) | (simp only [go_sem]; rfl)) rfl rfl ?_); simp only [go_sem, Nat.reduceAdd, Nat.reduceSub, Nat.reduceMul, Nat.reduceLT, Nat.reduceLeDiff, Nat.reduceEqDiff, if_true, eq_self])
    | ((with_reducible refine optS ?_); (first | (with_reducible refine opt_if (by decide) ?_) | (replace H := Hchk H; obtain ⟨hc, H⟩ := H; (first | (refine opt_if hc ?_) | (refine opt_if (of_decide_eq_true hc) ?_) | (refine opt_if ⟨rfl, of_decide_eq_true hc⟩ ?_)))); simp only [go_sem, Nat.reduceAdd, Nat.reduceSub, Nat.reduceMul, Nat.reduceLT, Nat.reduceLeDiff, Nat.reduceEqDiff, if_true, eq_self])
    | ((with_reducible refine loopS ?_); (refine pwp_loopH (Hlp H) ?_ ?_); (focus (simp only [LoopE.T, LoopE.M]; (with_reducible refine cutS ?_); (first | (with_reducible apply cutL_0) | (with_reducible apply cutL_1) | (with_reducible apply cutL_2) | (with_reducible apply cutL_3) | (with_reducible apply cutL_4) | (with_reducible apply cutL_5) | (with_reducible apply cutL_6) | (with_reducible apply cutL_7) | (with_reducible apply cutL_8) | (with_reducible apply cutL_9) | (with_reducible apply cutL_10) | (with_reducible apply cutL_11) | (with_reducible apply cutL_12)); (repeat' (first       | (exact lowB_0) | (refine lowB_c ?_) | (refine lowB_d ?_) | (with_reducible refine cutT_un ?_)       | (with_reducible refine cutT_c ?_ ?_)       | (with_reducible exact cutT_nil)       | (with_reducible exact cutV_c rfl)       | exact cutV_c rfl       | (with_reducible exact cutL_nil)       | (with_reducible refine cutL_c ?_ ?_)       | exact .c _ rfl       | exact .un _       | exact cutC_ms rfl rfl       | exact cutC_be rfl rfl       | exact cutC_nilsl0 | exact cutC_nilsl       | exact cutC_nilms rfl rfl       | (refine cutC_fms rfl ?_)       | (refine cutC_fbe rfl rfl ?_)       | (with_reducible refine cutV_ag ?_)       | (with_reducible refine cutV_tu ?_)       | (with_reducible exact cutAs_nil)       | (with_reducible refine cutAs_c ?_ ?_)       | (with_reducible refine cutA_ag ?_)       | (with_reducible refine cutA_k ?_)       | (with_reducible refine cutV_k ?_)       | (with_reducible exact rowsOk_nil)       | (refine rowsOk_live rfl ?_ ?_)       | (refine rowsOk_new0 rfl ?_) | (refine rowsOk_new rfl ?_)       | (with_reducible refine rowsOk_dead ?_)       | (with_reducible refine cutB_one ?_)       | (with_reducible exact cutB_nil)       | (with_reducible refine cutB_two ?_)       | (with_reducible exact cutE_n)       | (with_reducible refine cutE_c ?_ ?_)       | (with_reducible exact cutB_same)       | (with_reducible refine cutB_set ?_)       | exact cutB_same       | (refine cutB_set ?_)       | (refine cutB_rep ?_)       | (refine cutB_snoc ?_)       | (simp only [cInt, cStr, cBool, cLabel, cParcel, cZone, cRate, cLeg, cNetwork, cTrip, cBooking, cScan, cOrder, cWorld, cLine, cAct, cOffice, cItem, cChute, cInlet, cCentre, cThing, cBelief])       | (with_unfolding_all rfl))); (all_goals first | (exact dropped_of rfl) | exact none))); (clear H; intro n_ s_ H K_ hL; replace H := Hrd H; simp only [LoopE.T, LoopE.M]))
    | ((with_reducible refine pwp_draw (by kernel_rfl) ?_); simp only [go_sem, Nat.reduceAdd, Nat.reduceSub, Nat.reduceMul, Nat.reduceLT, Nat.reduceLeDiff, Nat.reduceEqDiff, if_true, eq_self])
    | ((with_reducible refine endD_intro (by kernel_rfl) ?_); simp only [thenP_normal, blockP_normal])
    | ((with_reducible refine hK _ _ ?_); clear hK)
    | (clear hK; (with_reducible refine hK _ _ ?_); clear hK)
    | (clear hK; clear hK; (with_reducible refine hK _ _ ?_); clear hK)
    | (clear hK; clear hK; clear hK; (with_reducible refine hK _ _ ?_); clear hK)
    | (clear hK; clear hK; clear hK; clear hK; (with_reducible refine hK _ _ ?_); clear hK)
    | (clear hK; clear hK; clear hK; clear hK; clear hK; (with_reducible refine hK _ _ ?_); clear hK)
    | ((with_reducible refine And.intro ?_ ?_); omega)
    | (simp only [nxt_app, nxd_app, atM_app]; simp only [go_sem, Nat.reduceAdd, Nat.reduceSub, Nat.reduceMul, Nat.reduceLT, Nat.reduceLeDiff, Nat.reduceEqDiff, if_true, eq_self])
    | (simp only [idxmap hy, go_sem, Nat.reduceAdd, Nat.reduceSub, Nat.reduceMul, Nat.reduceLT, Nat.reduceLeDiff, Nat.reduceEqDiff, if_true, eq_self])
    | ((with_reducible replace H := HexL H); (with_reducible refine hL _ _ _ H ?_); simp only [LoopE.T, LoopE.M]; (with_reducible refine cutS ?_); (first | (with_reducible apply cutL_0) | (with_reducible apply cutL_1) | (with_reducible apply cutL_2) | (with_reducible apply cutL_3) | (with_reducible apply cutL_4) | (with_reducible apply cutL_5) | (with_reducible apply cutL_6) | (with_reducible apply cutL_7) | (with_reducible apply cutL_8) | (with_reducible apply cutL_9) | (with_reducible apply cutL_10) | (with_reducible apply cutL_11) | (with_reducible apply cutL_12)); (repeat' (first       | (exact lowB_0) | (refine lowB_c ?_) | (refine lowB_d ?_) | (with_reducible refine cutT_un ?_)       | (with_reducible refine cutT_c ?_ ?_)       | (with_reducible exact cutT_nil)       | (with_reducible exact cutV_c rfl)       | exact cutV_c rfl       | (with_reducible exact cutL_nil)       | (with_reducible refine cutL_c ?_ ?_)       | exact .c _ rfl       | exact .un _       | exact cutC_ms rfl rfl       | exact cutC_be rfl rfl       | exact cutC_nilsl0 | exact cutC_nilsl       | exact cutC_nilms rfl rfl       | (refine cutC_fms rfl ?_)       | (refine cutC_fbe rfl rfl ?_)       | (with_reducible refine cutV_ag ?_)       | (with_reducible refine cutV_tu ?_)       | (with_reducible exact cutAs_nil)       | (with_reducible refine cutAs_c ?_ ?_)       | (with_reducible refine cutA_ag ?_)       | (with_reducible refine cutA_k ?_)       | (with_reducible refine cutV_k ?_)       | (with_reducible exact rowsOk_nil)       | (refine rowsOk_live rfl ?_ ?_)       | (refine rowsOk_new0 rfl ?_) | (refine rowsOk_new rfl ?_)       | (with_reducible refine rowsOk_dead ?_)       | (with_reducible refine cutB_one ?_)       | (with_reducible exact cutB_nil)       | (with_reducible refine cutB_two ?_)       | (with_reducible exact cutE_n)       | (with_reducible refine cutE_c ?_ ?_)       | (with_reducible exact cutB_same)       | (with_reducible refine cutB_set ?_)       | exact cutB_same       | (refine cutB_set ?_)       | (refine cutB_rep ?_)       | (refine cutB_snoc ?_)       | (simp only [cInt, cStr, cBool, cLabel, cParcel, cZone, cRate, cLeg, cNetwork, cTrip, cBooking, cScan, cOrder, cWorld, cLine, cAct, cOffice, cItem, cChute, cInlet, cCentre, cThing, cBelief])       | (with_unfolding_all rfl))); (all_goals first | (exact dropped_of rfl) | exact none))
    | ((with_reducible replace H := HexL H); clear hL; (with_reducible refine hL _ _ _ H ?_); simp only [LoopE.T, LoopE.M]; (with_reducible refine cutS ?_); (first | (with_reducible apply cutL_0) | (with_reducible apply cutL_1) | (with_reducible apply cutL_2) | (with_reducible apply cutL_3) | (with_reducible apply cutL_4) | (with_reducible apply cutL_5) | (with_reducible apply cutL_6) | (with_reducible apply cutL_7) | (with_reducible apply cutL_8) | (with_reducible apply cutL_9) | (with_reducible apply cutL_10) | (with_reducible apply cutL_11) | (with_reducible apply cutL_12)); (repeat' (first       | (exact lowB_0) | (refine lowB_c ?_) | (refine lowB_d ?_) | (with_reducible refine cutT_un ?_)       | (with_reducible refine cutT_c ?_ ?_)       | (with_reducible exact cutT_nil)       | (with_reducible exact cutV_c rfl)       | exact cutV_c rfl       | (with_reducible exact cutL_nil)       | (with_reducible refine cutL_c ?_ ?_)       | exact .c _ rfl       | exact .un _       | exact cutC_ms rfl rfl       | exact cutC_be rfl rfl       | exact cutC_nilsl0 | exact cutC_nilsl       | exact cutC_nilms rfl rfl       | (refine cutC_fms rfl ?_)       | (refine cutC_fbe rfl rfl ?_)       | (with_reducible refine cutV_ag ?_)       | (with_reducible refine cutV_tu ?_)       | (with_reducible exact cutAs_nil)       | (with_reducible refine cutAs_c ?_ ?_)       | (with_reducible refine cutA_ag ?_)       | (with_reducible refine cutA_k ?_)       | (with_reducible refine cutV_k ?_)       | (with_reducible exact rowsOk_nil)       | (refine rowsOk_live rfl ?_ ?_)       | (refine rowsOk_new0 rfl ?_) | (refine rowsOk_new rfl ?_)       | (with_reducible refine rowsOk_dead ?_)       | (with_reducible refine cutB_one ?_)       | (with_reducible exact cutB_nil)       | (with_reducible refine cutB_two ?_)       | (with_reducible exact cutE_n)       | (with_reducible refine cutE_c ?_ ?_)       | (with_reducible exact cutB_same)       | (with_reducible refine cutB_set ?_)       | exact cutB_same       | (refine cutB_set ?_)       | (refine cutB_rep ?_)       | (refine cutB_snoc ?_)       | (simp only [cInt, cStr, cBool, cLabel, cParcel, cZone, cRate, cLeg, cNetwork, cTrip, cBooking, cScan, cOrder, cWorld, cLine, cAct, cOffice, cItem, cChute, cInlet, cCentre, cThing, cBelief])       | (with_unfolding_all rfl))); (all_goals first | (exact dropped_of rfl) | exact none))
    | (exact (Hnone H).elim))) : p := h
end Go.Proofs.YtooikkfldddjfaaGreat

/- What a law's marks leave as_ it was: the rows' types and sizes, what lies below a block, and the slices in the rows of one type. No program in sight. -/
namespace Go.Proofs.YtooikkfldddjfaaGreat
set_option maxRecDepth 10000
open Go.RowKit
set_option linter.unusedVariables false
/-- From w to w': nothing but the blocks of D turned; rows keep their types and sizes, and the cells that KP names (a type, a place in the row). -/
structure Mk (TO : TypeId → Nat → Prop) (D : Nat → Prop) (w w' : World) : Prop where
  os : w'.os = w.os
  tape : w'.tape = w.tape
  output : w'.output = w.output
  size : w.heap.size ≤ w'.heap.size
  low : ∀ b, b < w.heap.size → ¬ D b → w'.heap[b]? = w.heap[b]?
  row : ∀ (b : Nat) (cs : Array Value) (T : TypeId), w.heap[b]? = some (.cells cs T (0, 0)) → ∃ cs' : Array Value, w'.heap[b]? = some (.cells cs' T (0, 0)) ∧ cs'.size = cs.size ∧ ∀ j, TO T j → cs'[j]? = cs[j]?
section
variable {TO : TypeId → Nat → Prop} {D : Nat → Prop} {B : Nat} {w a b : World}
theorem Mk.rfl' : Mk TO D w w := ⟨rfl, rfl, rfl, Nat.le_refl _, fun _ _ _ => rfl, fun b cs T h => ⟨cs, h, rfl, fun _ _ => rfl⟩⟩
theorem Mk.trans (h : Mk TO D w a) (k : Mk TO D a b) : Mk TO D w b :=
  ⟨k.os.trans h.os, k.tape.trans h.tape, k.output.trans h.output, Nat.le_trans h.size k.size, fun x hx hd => (k.low x (Nat.lt_of_lt_of_le hx h.size) hd).trans (h.low x hx hd), fun x cs T hx => by
    obtain ⟨c1, h1, h2, h3⟩ := h.row x cs T hx
    obtain ⟨c2, k1, k2, k3⟩ := k.row x c1 T h1
    exact ⟨c2, k1, k2.trans h2, fun j hj => (k3 j hj).trans (h3 j hj)⟩⟩
theorem Mk.up (h : Mk TO D w a) (k : Up a b) : Mk TO D w b :=
  ⟨k.os.trans h.os, k.tape.trans h.tape, k.output.trans h.output, Nat.le_trans h.size k.size, fun x hx hd => (k.block x (Nat.lt_of_lt_of_le hx h.size)).trans (h.low x hx hd), fun x cs T hx => by
    obtain ⟨c1, h1, h2, h3⟩ := h.row x cs T hx
    exact ⟨c1, (k.block x (Array.getElem?_eq_some_iff.1 h1).1).trans h1, h2, h3⟩⟩
theorem Mk.set (h : Mk TO D w a) {g j : Nat} {cs : Array Value} {T : TypeId} (hg : a.heap[g]? = some (.cells cs T (0, 0))) (hBg : D g) (hT : ¬ TO T j) (v : Value) : Mk TO D w (a.setCell ⟨g, j, none⟩ v) := by
  have hs : (a.setCell ⟨g, j, none⟩ v).heap[g]? = some (.cells (cs.setIfInBounds j v) T (0, 0)) := heap_setCell_same a g j cs T v hg
  have ho : ∀ x, x ≠ g → (a.setCell ⟨g, j, none⟩ v).heap[x]? = a.heap[x]? := fun x hx => heap_setCell_other a ⟨g, j, none⟩ x v hx
  have hz : (a.setCell ⟨g, j, none⟩ v).heap.size = a.heap.size := by simp
  refine ⟨h.os, h.tape, h.output, by rw [hz]; exact h.size, fun x hx hd => (ho x (by rintro rfl; exact hd hBg)).trans (h.low x hx hd), fun x c T' hx => ?_⟩
  obtain ⟨c1, h1, h2, h3⟩ := h.row x c T' hx
  by_cases e : x = g
  · subst e
    rw [hg] at h1
    obtain ⟨rfl, rfl⟩ : cs = c1 ∧ T = T' := by simpa using h1
    refine ⟨_, hs, by simpa using h2, fun q hq => ?_⟩
    rw [Array.getElem?_setIfInBounds_ne (by intro e; subst e; exact hT hq)]
    exact h3 q hq
  · exact ⟨c1, (ho x e).trans h1, h2, h3⟩
/-- A slice of n elements of k cells, whose block lies from B on (or the nil slice). -/
def ShapeS (w : World) (B : Nat) (T : TypeId) (k : Nat) (v : Value) (n : Nat) : Prop :=
  (∃ c, v = .slice none 0 c ∧ n = 0) ∨ ∃ (g c : Nat) (cs : Array Value), v = .slice (some ⟨g, 0, none⟩) n c ∧ B ≤ g ∧ w.heap[g]? = some (.cells cs T (0, 0)) ∧ n * k ≤ cs.size
theorem ShapeS.mk {T : TypeId} {k : Nat} {v : Value} {n B' : Nat} (h : ShapeS w B' T k v n) (m : Mk TO D w a) : ShapeS a B' T k v n := by
  rcases h with h | ⟨g, c, cs, h1, h2, h3, h4⟩
  · exact .inl h
  · obtain ⟨c1, k1, k2, _⟩ := m.row g cs T h3
    exact .inr ⟨g, c, c1, h1, h2, k1, by omega⟩
theorem ShapeS.more {T : TypeId} {k : Nat} {v : Value} {n B' : Nat} (h : ShapeS w B' T k v n) (hB : B ≤ B') : ShapeS w B T k v n := by
  rcases h with h | ⟨g, c, cs, h1, h2, h3, h4⟩
  · exact .inl h
  · exact .inr ⟨g, c, cs, h1, Nat.le_trans hB h2, h3, h4⟩
theorem ShapeS.up {T : TypeId} {k : Nat} {v : Value} {n B' : Nat} (h : ShapeS w B' T k v n) (m : Up w a) : ShapeS a B' T k v n := by
  rcases h with h | ⟨g, c, cs, h1, h2, h3, h4⟩
  · exact .inl h
  · exact .inr ⟨g, c, cs, h1, h2, (m.block g (Array.getElem?_eq_some_iff.1 h3).1).trans h3, h4⟩
/-- A slice of n elements of k cells, whose block is of D (or the nil slice). -/
def ShapeD (w : World) (D : Nat → Prop) (T : TypeId) (k : Nat) (v : Value) (n : Nat) : Prop :=
  (∃ c, v = .slice none 0 c ∧ n = 0) ∨ ∃ (g c : Nat) (cs : Array Value), v = .slice (some ⟨g, 0, none⟩) n c ∧ D g ∧ w.heap[g]? = some (.cells cs T (0, 0)) ∧ n * k ≤ cs.size
theorem ShapeD.mk {T : TypeId} {k : Nat} {v : Value} {n : Nat} {D' : Nat → Prop} (h : ShapeD w D' T k v n) (m : Mk TO D w a) : ShapeD a D' T k v n := by
  rcases h with h | ⟨g, c, cs, h1, h2, h3, h4⟩
  · exact .inl h
  · obtain ⟨c1, k1, k2, _⟩ := m.row g cs T h3
    exact .inr ⟨g, c, c1, h1, h2, k1, by omega⟩
theorem ShapeS.toD {T : TypeId} {k : Nat} {v : Value} {n : Nat} (h : ShapeS w B T k v n) : ShapeD w (fun b => B ≤ b ∧ b < w.heap.size) T k v n := by
  rcases h with h | ⟨g, c, cs, h1, h2, h3, h4⟩
  · exact .inl h
  · exact .inr ⟨g, c, cs, h1, ⟨h2, (Array.getElem?_eq_some_iff.1 h3).1⟩, h3, h4⟩
theorem ShapeD.up {T : TypeId} {k : Nat} {v : Value} {n : Nat} {D' : Nat → Prop} (h : ShapeD w D' T k v n) (m : Up w a) : ShapeD a D' T k v n := by
  rcases h with h | ⟨g, c, cs, h1, h2, h3, h4⟩
  · exact .inl h
  · exact .inr ⟨g, c, cs, h1, h2, (m.block g (Array.getElem?_eq_some_iff.1 h3).1).trans h3, h4⟩
/-- A row at hand. -/
def RowA (w : World) (g m : Nat) (T : TypeId) : Prop := ∃ cs : Array Value, w.heap[g]? = some (.cells cs T (0, 0)) ∧ m ≤ cs.size
theorem RowA.mk {g m : Nat} {T : TypeId} (h : RowA w g m T) (k : Mk TO D w a) : RowA a g m T := by
  obtain ⟨cs, h1, h2⟩ := h
  obtain ⟨c1, k1, k2, _⟩ := k.row g cs T h1
  exact ⟨c1, k1, by omega⟩
theorem RowA.up {g m : Nat} {T : TypeId} (h : RowA w g m T) (k : Up w a) : RowA a g m T := by
  obtain ⟨cs, h1, h2⟩ := h
  exact ⟨cs, (k.block g (Array.getElem?_eq_some_iff.1 h1).1).trans h1, h2⟩
theorem RowA.cell {g m j : Nat} {T : TypeId} (h : RowA w g m T) (hj : j < m) : (∃ u, w.cell? ⟨g, j, none⟩ = some u) ∧ w.frozen? ⟨g, j, none⟩ = false := by
  obtain ⟨cs, h1, h2⟩ := h
  exact ⟨⟨cs[j]'(by omega), by rw [cell_of_row w g j cs T (0, 0) h1]; exact Array.getElem?_eq_getElem _⟩, frozen_of_row w g j cs T h1⟩
theorem RowA.set {g m j : Nat} {T : TypeId} {g' : Nat} (h : RowA w g m T) (hg : RowA w g' 0 T) (v : Value) : RowA (w.setCell ⟨g', j, none⟩ v) g m T := by
  obtain ⟨cs, h1, h2⟩ := h
  obtain ⟨cs', h1', _⟩ := hg
  by_cases e : g = g'
  · subst e
    exact ⟨_, heap_setCell_same w g j cs T v h1, by simpa using h2⟩
  · exact ⟨cs, (heap_setCell_other w ⟨g', j, none⟩ g v e).trans h1, h2⟩
theorem Mk.setR (h : Mk TO D w a) {g m j : Nat} {T : TypeId} (hg : RowA a g m T) (hBg : D g) (hT : ¬ TO T j) (v : Value) : Mk TO D w (a.setCell ⟨g, j, none⟩ v) := by
  obtain ⟨cs, h1, _⟩ := hg
  exact h.set h1 hBg hT v
theorem RowA.keep {g m j : Nat} {T : TypeId} (h : RowA w g m T) (v : Value) : RowA (w.setCell ⟨g, j, none⟩ v) g m T := h.set (by obtain ⟨cs, h1, _⟩ := h; exact ⟨cs, h1, Nat.zero_le _⟩) v
end
end Go.Proofs.YtooikkfldddjfaaGreat

/- laws.markText, exactly, as_ a mirror. -/
namespace Go.Proofs.YtooikkfldddjfaaGreat
set_option maxRecDepth 10000
open Go.RowKit
set_option linter.unusedVariables false
set_option linter.unusedSimpArgs false
/-- The digits of a number ahead of a text. -/
def digs : Nat → Nat → ByteArray → ByteArray
  | 0, _, s => s
  | f + 1, m, s => if 0 < m then digs f (m / 10) (strOfNums [48 + (m : Int) % 10] ++ s) else s
def markTxt (k : Int) : ByteArray := ⟨#[109]⟩ ++ digs k.toNat k.toNat ⟨#[]⟩
def m_laws_markText (k : Int) : Option ByteArray := if 1 ≤ k ∧ k ≤ 1099511627776 then some (markTxt k) else none
theorem markText_exact (k : Int) (w : World) (h0 : 1 ≤ k) (h1 : k ≤ 1099511627776) : Calls Tryz.prog 118 #[.int .i64 k] w fun e w' => e = .returned (.string (markTxt k)) ∧ Up w w' := by
  go_enter Tryz.func118, Tryz.ntmps118
  have hk : ¬ k ≤ 0 := by omega
  go_wp2
  go_loopw [3, 0] (fun out kk wr => ∃ (m f : Nat) (s : ByteArray), kk = .int .i64 m ∧ out = .string s ∧ s.size + m ≤ 1099511627777 ∧ m ≤ f ∧ digs f m s = digs k.toNat k.toNat ⟨#[]⟩ ∧ Up w wr) (fun _ kk _ => (intOf kk).toNat)
  case atStart => exact ⟨k.toNat, k.toNat, ⟨#[]⟩, by congr 1; omega, rfl, by show (0 : Nat) + k.toNat ≤ _; omega, Nat.le_refl _, rfl, by (repeat (first | exact Up.rfl' _ | (refine Up.al _ ?_) | (refine Up.dr _ ?_) | (refine Up.dr1 ?_) | (refine Up.sc ?_ (by first | exact Nat.le_refl _ | (simp; done) | omega) _) | (refine Up.step (by assumption) ?_)))⟩
  case round =>
    obtain ⟨m, f, s, rfl, rfl, hm, hmf, hd, hb⟩ := hrel
    by_cases hlt : 0 < m
    · obtain ⟨f, rfl⟩ : ∃ f', f = f' + 1 := ⟨f - 1, by omega⟩
      have hd' : digs f (m / 10) (strOfNums [48 + (m : Int) % 10] ++ s) = digs k.toNat k.toNat ⟨#[]⟩ := by rw [← hd]; simp only [digs, hlt, if_true]
      have hcv := run_convert_bytes_arg (P := Tryz.prog) (wr.alloc (.cells #[.int .u8 (48 + (m : Int) % 10)] 5)) 148 5 Tryz.underlying148 Tryz.underlying5 wr.heap.size 0 1 1 [48 + (m : Int) % 10] rfl (fun i hi => (by obtain rfl : i = 0 := (by omega); simp [go_sem])) 9 Tryz.underlying9
      have hsz : (strOfNums [48 + (m : Int) % 10]).size = 1 := by simp [strOfNums, ByteArray.size]
      go_wp2
      exact ⟨⟨m / 10, f, _, by congr 1, rfl, by rw [ByteArray.size_append, hsz]; omega, by omega, hd', by (repeat (first | exact Up.rfl' _ | (refine Up.al _ ?_) | (refine Up.dr _ ?_) | (refine Up.dr1 ?_) | (refine Up.sc ?_ (by first | exact Nat.le_refl _ | (simp; done) | omega) _) | (refine Up.step (by assumption) ?_)))⟩, by simp [intOf]; omega⟩
    · obtain rfl : m = 0 := by omega
      go_wp2
      go_ret
      have hd' : s = digs k.toNat k.toNat ⟨#[]⟩ := by rw [← hd]; cases f <;> simp [digs]
      exact ⟨by rw [hd']; rfl, hb⟩
theorem rep_v {w : World} {E : Env} {x y : Value} (h : Rep w E (.v x) y) : y = x := by
  cases h with
  | c h => cases h with
    | v _ _ => rfl
theorem ok_laws_markText (k : Int) {r : ByteArray} (H : m_laws_markText k = some r) : CallM Tryz.prog 118 [vi k] [] (vs r) [] := by
  unfold m_laws_markText at H
  split at H
  case isFalse => cases H
  rename_i hok
  obtain rfl := Option.some.inj H
  intro S β w vs hk hl ha
  obtain ⟨x, hx0, hr⟩ := ha 0 _ rfl
  have hv : vs = #[x] := by
    have h1 : vs.size = 1 := hl
    apply Array.ext (by simp [h1])
    intro i h2 h3
    have : i = 0 := by omega
    subst this
    have := (Array.getElem?_eq_some_iff.1 hx0).2
    simpa using this
  subst hv
  obtain rfl := rep_v hr
  refine (markText_exact k w hok.1 hok.2).mono ?_
  rintro e w' ⟨rfl, hu⟩
  have hnone : ∀ l B, β l = some B → False := fun l B hB => by
    obtain ⟨mb, hmb⟩ := hk.dom l B hB
    simp at hmb
  exact ⟨_, E1 S β 0, rfl, ⟨⟨hu.os, hu.tape, hu.output, hu.size, fun b hb _ => hu.block b hb⟩, fun b hb => Nat.lt_of_lt_of_le (hk.sz b hb) hu.size, fun l B hB => (hnone l B hB).elim, fun l l' B B' hB => (hnone l B hB).elim, fun l hl => hk.used l hl, fun l B hB => (hnone l B hB).elim, fun l mb h => by simp at h, fun l B hB => (hnone l B hB).elim⟩, fun b h => h, fun b h => .inl h, fun l B hl => absurd hl (Nat.not_lt_zero l), .c (.v _ rfl)⟩
instance (k : Int) : CT Tryz.prog (m_laws_markText k) := ⟨118, [vi k], [], fun r => vs r, fun r => [], ok_laws_markText k⟩
end Go.Proofs.YtooikkfldddjfaaGreat

/- The mirror of p0_laws_markIntS, and that the code does just that (printed by a program of my own). -/
namespace Go.Proofs.YtooikkfldddjfaaGreat
set_option maxRecDepth 10000
open Go.RowKit
set_option linter.unusedVariables false
set_option maxHeartbeats 16000000
def m_p0_laws_markIntS_b0 (s0 : Int × Int × (List Int)) : Option ((Int × Int × (List Int)) ⊕ (Int × (List Int))) :=
 cond (decide (s0.2.1 < (s0.2.2.length : Int)))
 ((getI s0.2.2 s0.2.1).bind fun y1 =>
 some (.inl ((w64 (s0.1 + 1)), (w64 (s0.2.1 + 1)), (s0.2.2.set (Int.toNat s0.2.1) s0.1))))
 (some (.inr (s0.1, s0.2.2)))
instance : LoopE (m_p0_laws_markIntS_b0) := ⟨fun s0 => [.ms 0, vi s0.1, .un, .un, .un, vi s0.2.1, .un, .un, .un, .un, .un, .un, .un, .un, .un, .un, .un, .un, .un], fun s0 => [some ⟨3, 1, s0.2.2.map cInt⟩]⟩
def m_p0_laws_markIntS (a : List Int) (k : Int) : Option (Int × (List Int)) :=
 (iterF (m_p0_laws_markIntS_b0) NN (k, 0, a)).bind (fun o0 =>
 some (o0.1, o0.2))
theorem ok_p0_laws_markIntS (a : List Int) (k : Int) {r : Int × (List Int)} (H : m_p0_laws_markIntS a k = some r) : CallM Tryz.prog 23 [.ms 0, vi k] [some ⟨3, 1, a.map cInt⟩] (vi r.1) [some ⟨3, 1, r.2.map cInt⟩] := by
  replace H := H0 H
  unfold m_p0_laws_markIntS at H
  refine callM_of Tryz.func23 rfl Tryz.ntmps23 Tryz.results23 fun Q hQ hQn => ?_
  exact wk2
instance (a : List Int) (k : Int) : CT Tryz.prog (m_p0_laws_markIntS a k) := ⟨23, [.ms 0, vi k], [some ⟨3, 1, a.map cInt⟩], fun r => vi r.1, fun r => [some ⟨3, 1, r.2.map cInt⟩], ok_p0_laws_markIntS a k⟩
end Go.Proofs.YtooikkfldddjfaaGreat

/- The mirror of p0_laws_markLegS, and that the code does just that (printed by a program of my own). -/
namespace Go.Proofs.YtooikkfldddjfaaGreat
set_option maxRecDepth 10000
open Go.RowKit
set_option linter.unusedVariables false
set_option maxHeartbeats 16000000
def m_p0_laws_markLegS_b0 (s0 : Int × Int × (List YLeg)) : Option ((Int × Int × (List YLeg)) ⊕ (Int × (List YLeg))) :=
 cond (decide (s0.2.1 < (s0.2.2.length : Int)))
 ((m_laws_markText s0.1).bind fun y1 =>
 (getI s0.2.2 s0.2.1).bind fun y2 =>
 (frzL (s0.2.2.set (Int.toNat s0.2.1) (⟨y1, y2.to_, y2.start, y2.takes, y2.days, y2.room⟩ : YLeg)) (fun y3 => [.ms 0, vi (w64 (s0.1 + 1)), .un, .un, .un, vi s0.2.1, .un, .un, .un, .un, .un, .un, .un, .un, .un, .un, .un, .un, .un, .un, .un, .un, .un, .un, .un, .un, .un, .un, .un, .un, .un, .un, .un, .un, .un, .un, .un, .un, .un, .un, .un, .un, .un, .un, .un, .un, .un, .un, .un, .un, .un, .un, .un, .un, .un, .un, .un]) (fun y3 => [some ⟨118, 6, y3.map cLeg⟩])).bind fun y3 =>
 (m_laws_markText (w64 (s0.1 + 1))).bind fun y4 =>
 (getI y3 s0.2.1).bind fun y5 =>
 (frzL (y3.set (Int.toNat s0.2.1) (⟨y5.from_, y4, y5.start, y5.takes, y5.days, y5.room⟩ : YLeg)) (fun y6 => [.ms 0, vi (w64 ((w64 (s0.1 + 1)) + 1)), .un, .un, .un, vi s0.2.1, .un, .un, .un, .un, .un, .un, .un, .un, .un, .un, .un, .un, .un, .un, .un, .un, .un, .un, .un, .un, .un, .un, .un, .un, .un, .un, .un, .un, .un, .un, .un, .un, .un, .un, .un, .un, .un, .un, .un, .un, .un, .un, .un, .un, .un, .un, .un, .un, .un, .un, .un]) (fun y6 => [some ⟨118, 6, y6.map cLeg⟩])).bind fun y6 =>
 (getI y6 s0.2.1).bind fun y7 =>
 (frzL (y6.set (Int.toNat s0.2.1) (⟨y7.from_, y7.to_, (w64 ((w64 (s0.1 + 1)) + 1)), y7.takes, y7.days, y7.room⟩ : YLeg)) (fun y8 => [.ms 0, vi (w64 ((w64 ((w64 (s0.1 + 1)) + 1)) + 1)), .un, .un, .un, vi s0.2.1, .un, .un, .un, .un, .un, .un, .un, .un, .un, .un, .un, .un, .un, .un, .un, .un, .un, .un, .un, .un, .un, .un, .un, .un, .un, .un, .un, .un, .un, .un, .un, .un, .un, .un, .un, .un, .un, .un, .un, .un, .un, .un, .un, .un, .un, .un, .un, .un, .un, .un, .un]) (fun y8 => [some ⟨118, 6, y8.map cLeg⟩])).bind fun y8 =>
 (getI y8 s0.2.1).bind fun y9 =>
 (frzL (y8.set (Int.toNat s0.2.1) (⟨y9.from_, y9.to_, y9.start, (w64 ((w64 ((w64 (s0.1 + 1)) + 1)) + 1)), y9.days, y9.room⟩ : YLeg)) (fun y10 => [.ms 0, vi (w64 ((w64 ((w64 ((w64 (s0.1 + 1)) + 1)) + 1)) + 1)), .un, .un, .un, vi s0.2.1, .un, .un, .un, .un, .un, .un, .un, .un, .un, .un, .un, .un, .un, .un, .un, .un, .un, .un, .un, .un, .un, .un, .un, .un, .un, .un, .un, .un, .un, .un, .un, .un, .un, .un, .un, .un, .un, .un, .un, .un, .un, .un, .un, .un, .un, .un, .un, .un, .un, .un, .un]) (fun y10 => [some ⟨118, 6, y10.map cLeg⟩])).bind fun y10 =>
 (getI y10 s0.2.1).bind fun y11 =>
 (frzL (y10.set (Int.toNat s0.2.1) (⟨y11.from_, y11.to_, y11.start, y11.takes, (w64 ((w64 ((w64 ((w64 (s0.1 + 1)) + 1)) + 1)) + 1)), y11.room⟩ : YLeg)) (fun y12 => [.ms 0, vi (w64 ((w64 ((w64 ((w64 ((w64 (s0.1 + 1)) + 1)) + 1)) + 1)) + 1)), .un, .un, .un, vi s0.2.1, .un, .un, .un, .un, .un, .un, .un, .un, .un, .un, .un, .un, .un, .un, .un, .un, .un, .un, .un, .un, .un, .un, .un, .un, .un, .un, .un, .un, .un, .un, .un, .un, .un, .un, .un, .un, .un, .un, .un, .un, .un, .un, .un, .un, .un, .un, .un, .un, .un, .un, .un]) (fun y12 => [some ⟨118, 6, y12.map cLeg⟩])).bind fun y12 =>
 (getI y12 s0.2.1).bind fun y13 =>
 some (.inl ((w64 ((w64 ((w64 ((w64 ((w64 ((w64 (s0.1 + 1)) + 1)) + 1)) + 1)) + 1)) + 1)), (w64 (s0.2.1 + 1)), (y12.set (Int.toNat s0.2.1) (⟨y13.from_, y13.to_, y13.start, y13.takes, y13.days, (w64 ((w64 ((w64 ((w64 ((w64 (s0.1 + 1)) + 1)) + 1)) + 1)) + 1))⟩ : YLeg)))))
 (some (.inr (s0.1, s0.2.2)))
instance : LoopE (m_p0_laws_markLegS_b0) := ⟨fun s0 => [.ms 0, vi s0.1, .un, .un, .un, vi s0.2.1, .un, .un, .un, .un, .un, .un, .un, .un, .un, .un, .un, .un, .un, .un, .un, .un, .un, .un, .un, .un, .un, .un, .un, .un, .un, .un, .un, .un, .un, .un, .un, .un, .un, .un, .un, .un, .un, .un, .un, .un, .un, .un, .un, .un, .un, .un, .un, .un, .un, .un, .un], fun s0 => [some ⟨118, 6, s0.2.2.map cLeg⟩]⟩
def m_p0_laws_markLegS (a : List YLeg) (k : Int) : Option (Int × (List YLeg)) :=
 (iterF (m_p0_laws_markLegS_b0) NN (k, 0, a)).bind (fun o0 =>
 some (o0.1, o0.2))
theorem ok_p0_laws_markLegS (a : List YLeg) (k : Int) {r : Int × (List YLeg)} (H : m_p0_laws_markLegS a k = some r) : CallM Tryz.prog 79 [.ms 0, vi k] [some ⟨118, 6, a.map cLeg⟩] (vi r.1) [some ⟨118, 6, r.2.map cLeg⟩] := by
  replace H := H0 H
  unfold m_p0_laws_markLegS at H
  refine callM_of Tryz.func79 rfl Tryz.ntmps79 Tryz.results79 fun Q hQ hQn => ?_
  exact wk2
instance (a : List YLeg) (k : Int) : CT Tryz.prog (m_p0_laws_markLegS a k) := ⟨79, [.ms 0, vi k], [some ⟨118, 6, a.map cLeg⟩], fun r => vi r.1, fun r => [some ⟨118, 6, r.2.map cLeg⟩], ok_p0_laws_markLegS a k⟩
end Go.Proofs.YtooikkfldddjfaaGreat

/- The mirror of p0_laws_markNetwork, and that the code does just that (printed by a program of my own). -/
namespace Go.Proofs.YtooikkfldddjfaaGreat
set_option maxRecDepth 10000
open Go.RowKit
set_option linter.unusedVariables false
set_option maxHeartbeats 16000000
def m_p0_laws_markNetwork (a : YNetwork) (k : Int) : Option (Int × YNetwork) :=
 (rhoM [0]).bind fun _ =>
 (m_p0_laws_markLegS a.legs k).bind fun y1 =>
 (rhoM [1]).bind fun _ =>
 (m_p0_laws_markIntS a.off y1.1).bind fun y2 =>
 some (y2.1, (⟨y1.2, y2.2, a.change⟩ : YNetwork))
theorem ok_p0_laws_markNetwork (a : YNetwork) (k : Int) {r : Int × YNetwork} (H : m_p0_laws_markNetwork a k = some r) : CallM Tryz.prog 36 [.ag [.ms 0, .ms 1, vi a.change], vi k] [some ⟨118, 6, a.legs.map cLeg⟩, some ⟨3, 1, a.off.map cInt⟩] (vi r.1) [some ⟨118, 6, r.2.legs.map cLeg⟩, some ⟨3, 1, r.2.off.map cInt⟩] := by
  replace H := H0 H
  unfold m_p0_laws_markNetwork at H
  refine callM_of Tryz.func36 rfl Tryz.ntmps36 Tryz.results36 fun Q hQ hQn => ?_
  exact wk2
instance (a : YNetwork) (k : Int) : CT Tryz.prog (m_p0_laws_markNetwork a k) := ⟨36, [.ag [.ms 0, .ms 1, vi a.change], vi k], [some ⟨118, 6, a.legs.map cLeg⟩, some ⟨3, 1, a.off.map cInt⟩], fun r => vi r.1, fun r => [some ⟨118, 6, r.2.legs.map cLeg⟩, some ⟨3, 1, r.2.off.map cInt⟩], ok_p0_laws_markNetwork a k⟩
end Go.Proofs.YtooikkfldddjfaaGreat

/- The mirror of p0_laws_markOrderS, and that the code does just that (printed by a program of my own). -/
namespace Go.Proofs.YtooikkfldddjfaaGreat
set_option maxRecDepth 10000
open Go.RowKit
set_option linter.unusedVariables false
set_option maxHeartbeats 16000000
def m_p0_laws_markOrderS_b0 (k : Int) (s0 : Unit) : Option (Unit ⊕ Unit) :=
 cond (decide (0 < 0))
 ((m_laws_markText k).bind fun y1 =>
 none)
 (some (.inr ()))
instance (k : Int) : LoopE (m_p0_laws_markOrderS_b0 k) := ⟨fun s0 => [.v (.slice none 0 0), vi k, .un, .un, .un, vi 0, .un, .un, .un, .un, .un, .un, .un, .un, .un, .un, .un, .un, .un, .un, .un, .un, .un, .un, .un, .un, .un, .un, .un, .un, .un, .un, .un, .un, .un, .un, .un, .un, .un, .un, .un, .un, .un, .un, .un, .un, .un, .un, .un, .un, .un, .un, .un, .un, .un, .un, .un, .un, .un, .un, .un, .un, .un, .un, .un, .un, .un, .un, .un, .un, .un, .un, .un, .un, .un, .un, .un, .un, .un, .un, .un, .un, .un, .un, .un, .un, .un, .un, .un, .un, .un, .un, .un], fun s0 => []⟩
def m_p0_laws_markOrderS (a : List YOrder) (k : Int) : Option Int :=
 (iterF (m_p0_laws_markOrderS_b0 k) NN ()).bind (fun o0 =>
 some k)
theorem ok_p0_laws_markOrderS (a : List YOrder) (k : Int) {r : Int} (H : m_p0_laws_markOrderS a k = some r) : CallM Tryz.prog 70 [.v (.slice none 0 0), vi k] [] (vi r) [] := by
  replace H := H0 H
  unfold m_p0_laws_markOrderS at H
  refine callM_of Tryz.func70 rfl Tryz.ntmps70 Tryz.results70 fun Q hQ hQn => ?_
  exact wk2
instance (a : List YOrder) (k : Int) : CT Tryz.prog (m_p0_laws_markOrderS a k) := ⟨70, [.v (.slice none 0 0), vi k], [], fun r => vi r, fun r => [], ok_p0_laws_markOrderS a k⟩
end Go.Proofs.YtooikkfldddjfaaGreat

/- The mirror of p0_laws_markBookingS, and that the code does just that (printed by a program of my own). -/
namespace Go.Proofs.YtooikkfldddjfaaGreat
set_option maxRecDepth 10000
open Go.RowKit
set_option linter.unusedVariables false
set_option maxHeartbeats 16000000
def m_p0_laws_markBookingS_b0 (k : Int) (s0 : Unit) : Option (Unit ⊕ Unit) :=
 cond (decide (0 < 0))
 (none)
 (some (.inr ()))
instance (k : Int) : LoopE (m_p0_laws_markBookingS_b0 k) := ⟨fun s0 => [.v (.slice none 0 0), vi k, .un, .un, .un, vi 0, .un, .un, .un, .un, .un, .un, .un, .un, .un, .un, .un, .un, .un, .un, .un, .un, .un, .un, .un, .un, .un, .un, .un, .un, .un, .un, .un, .un, .un, .un, .un, .un, .un, .un, .un, .un, .un], fun s0 => []⟩
def m_p0_laws_markBookingS (a : List YBooking) (k : Int) : Option Int :=
 (iterF (m_p0_laws_markBookingS_b0 k) NN ()).bind (fun o0 =>
 some k)
theorem ok_p0_laws_markBookingS (a : List YBooking) (k : Int) {r : Int} (H : m_p0_laws_markBookingS a k = some r) : CallM Tryz.prog 71 [.v (.slice none 0 0), vi k] [] (vi r) [] := by
  replace H := H0 H
  unfold m_p0_laws_markBookingS at H
  refine callM_of Tryz.func71 rfl Tryz.ntmps71 Tryz.results71 fun Q hQ hQn => ?_
  exact wk2
instance (a : List YBooking) (k : Int) : CT Tryz.prog (m_p0_laws_markBookingS a k) := ⟨71, [.v (.slice none 0 0), vi k], [], fun r => vi r, fun r => [], ok_p0_laws_markBookingS a k⟩
end Go.Proofs.YtooikkfldddjfaaGreat

/- The mirror of p0_laws_markTripS, and that the code does just that (printed by a program of my own). -/
namespace Go.Proofs.YtooikkfldddjfaaGreat
set_option maxRecDepth 10000
open Go.RowKit
set_option linter.unusedVariables false
set_option maxHeartbeats 16000000
def m_p0_laws_markTripS_b0 (k : Int) (s0 : Unit) : Option (Unit ⊕ Unit) :=
 cond (decide (0 < 0))
 (none)
 (some (.inr ()))
instance (k : Int) : LoopE (m_p0_laws_markTripS_b0 k) := ⟨fun s0 => [.v (.slice none 0 0), vi k, .un, .un, .un, vi 0, .un, .un, .un, .un, .un, .un, .un, .un, .un, .un, .un, .un, .un, .un, .un, .un, .un, .un, .un, .un, .un], fun s0 => []⟩
def m_p0_laws_markTripS (a : List YTrip) (k : Int) : Option Int :=
 (iterF (m_p0_laws_markTripS_b0 k) NN ()).bind (fun o0 =>
 some k)
theorem ok_p0_laws_markTripS (a : List YTrip) (k : Int) {r : Int} (H : m_p0_laws_markTripS a k = some r) : CallM Tryz.prog 72 [.v (.slice none 0 0), vi k] [] (vi r) [] := by
  replace H := H0 H
  unfold m_p0_laws_markTripS at H
  refine callM_of Tryz.func72 rfl Tryz.ntmps72 Tryz.results72 fun Q hQ hQn => ?_
  exact wk2
instance (a : List YTrip) (k : Int) : CT Tryz.prog (m_p0_laws_markTripS a k) := ⟨72, [.v (.slice none 0 0), vi k], [], fun r => vi r, fun r => [], ok_p0_laws_markTripS a k⟩
end Go.Proofs.YtooikkfldddjfaaGreat

/- The mirror of p0_laws_markScanS, and that the code does just that (printed by a program of my own). -/
namespace Go.Proofs.YtooikkfldddjfaaGreat
set_option maxRecDepth 10000
open Go.RowKit
set_option linter.unusedVariables false
set_option maxHeartbeats 16000000
def m_p0_laws_markScanS_b0 (k : Int) (s0 : Unit) : Option (Unit ⊕ Unit) :=
 cond (decide (0 < 0))
 (none)
 (some (.inr ()))
instance (k : Int) : LoopE (m_p0_laws_markScanS_b0 k) := ⟨fun s0 => [.v (.slice none 0 0), vi k, .un, .un, .un, vi 0, .un, .un, .un, .un, .un, .un, .un, .un, .un, .un, .un, .un, .un, .un, .un, .un, .un, .un, .un, .un, .un, .un, .un, .un, .un, .un, .un, .un, .un, .un, .un, .un, .un, .un, .un, .un, .un, .un, .un, .un, .un, .un, .un, .un, .un, .un, .un, .un, .un, .un, .un, .un], fun s0 => []⟩
def m_p0_laws_markScanS (a : List YScan) (k : Int) : Option Int :=
 (iterF (m_p0_laws_markScanS_b0 k) NN ()).bind (fun o0 =>
 some k)
theorem ok_p0_laws_markScanS (a : List YScan) (k : Int) {r : Int} (H : m_p0_laws_markScanS a k = some r) : CallM Tryz.prog 73 [.v (.slice none 0 0), vi k] [] (vi r) [] := by
  replace H := H0 H
  unfold m_p0_laws_markScanS at H
  refine callM_of Tryz.func73 rfl Tryz.ntmps73 Tryz.results73 fun Q hQ hQn => ?_
  exact wk2
instance (a : List YScan) (k : Int) : CT Tryz.prog (m_p0_laws_markScanS a k) := ⟨73, [.v (.slice none 0 0), vi k], [], fun r => vi r, fun r => [], ok_p0_laws_markScanS a k⟩
end Go.Proofs.YtooikkfldddjfaaGreat

/- The mirror of p0_laws_markWorld, and that the code does just that (printed by a program of my own). -/
namespace Go.Proofs.YtooikkfldddjfaaGreat
set_option maxRecDepth 10000
open Go.RowKit
set_option linter.unusedVariables false
set_option maxHeartbeats 16000000
def m_p0_laws_markWorld (a : YWorld) (k : Int) : Option (Int × YWorld) :=
 (rhoM [0, 1]).bind fun _ =>
 (m_p0_laws_markNetwork a.network k).bind fun y1 =>
 (rhoM []).bind fun _ =>
 (m_p0_laws_markOrderS ([]) y1.1).bind fun y2 =>
 (rhoM []).bind fun _ =>
 (m_p0_laws_markBookingS ([]) y2).bind fun y3 =>
 (rhoM []).bind fun _ =>
 (m_p0_laws_markTripS ([]) y3).bind fun y4 =>
 (rhoM []).bind fun _ =>
 (m_p0_laws_markScanS ([]) y4).bind fun y5 =>
 (rhoM [2]).bind fun _ =>
 (m_p0_laws_markIntS a.skip y5).bind fun y6 =>
 some (y6.1, (⟨(⟨y1.2.legs, y1.2.off, a.network.change⟩ : YNetwork), [], [], [], a.now, [], y6.2, a.made⟩ : YWorld))
theorem ok_p0_laws_markWorld (a : YWorld) (k : Int) {r : Int × YWorld} (H : m_p0_laws_markWorld a k = some r) : CallM Tryz.prog 22 [.ag [.ms 0, .ms 1, vi a.network.change, .v (.slice none 0 0), .v (.slice none 0 0), .v (.slice none 0 0), vi a.now, .v (.slice none 0 0), .ms 2, vi a.made], vi k] [some ⟨118, 6, a.network.legs.map cLeg⟩, some ⟨3, 1, a.network.off.map cInt⟩, some ⟨3, 1, a.skip.map cInt⟩] (vi r.1) [some ⟨118, 6, r.2.network.legs.map cLeg⟩, some ⟨3, 1, r.2.network.off.map cInt⟩, some ⟨3, 1, r.2.skip.map cInt⟩] := by
  replace H := H0 H
  unfold m_p0_laws_markWorld at H
  refine callM_of Tryz.func22 rfl Tryz.ntmps22 Tryz.results22 fun Q hQ hQn => ?_
  exact wk2
instance (a : YWorld) (k : Int) : CT Tryz.prog (m_p0_laws_markWorld a k) := ⟨22, [.ag [.ms 0, .ms 1, vi a.network.change, .v (.slice none 0 0), .v (.slice none 0 0), .v (.slice none 0 0), vi a.now, .v (.slice none 0 0), .ms 2, vi a.made], vi k], [some ⟨118, 6, a.network.legs.map cLeg⟩, some ⟨3, 1, a.network.off.map cInt⟩, some ⟨3, 1, a.skip.map cInt⟩], fun r => vi r.1, fun r => [some ⟨118, 6, r.2.network.legs.map cLeg⟩, some ⟨3, 1, r.2.network.off.map cInt⟩, some ⟨3, 1, r.2.skip.map cInt⟩], ok_p0_laws_markWorld a k⟩
end Go.Proofs.YtooikkfldddjfaaGreat

/- The mirror of laws_heldIntS, and that the code does just that (printed by a program of my own). -/
namespace Go.Proofs.YtooikkfldddjfaaGreat
set_option maxRecDepth 10000
open Go.RowKit
set_option linter.unusedVariables false
set_option maxHeartbeats 16000000
def m_laws_heldIntS_b0 (a : List Int) (s0 : Int × Int) : Option ((Int × Int) ⊕ (Int ⊕ Int)) :=
 cond (decide (s0.2 < (a.length : Int)))
 ((getI a s0.2).bind fun y1 =>
 cond (!decide (y1 = s0.1))
 (some (.inr (.inr (-1))))
 (some (.inl ((w64 (s0.1 + 1)), (w64 (s0.2 + 1))))))
 (some (.inr (.inl s0.1)))
instance (a : List Int) : LoopE (m_laws_heldIntS_b0 a) := ⟨fun s0 => [.sl (a.map cInt), vi s0.1, .un, .un, .un, vi s0.2, .un, .un, .un, .un, .un, .un, .un, .un, .un, .un, .un, .un, .un, .un, .un], fun s0 => []⟩
def m_laws_heldIntS (a : List Int) (k : Int) : Option Int :=
 (iterF (m_laws_heldIntS_b0 a) NN (k, 0)).bind (selim (fun o0 =>
 some o0) (fun r => some r))
theorem ok_laws_heldIntS (a : List Int) (k : Int) {r : Int} (H : m_laws_heldIntS a k = some r) : CallM Tryz.prog 24 [.sl (a.map cInt), vi k] [] (vi r) [] := by
  replace H := H0 H
  unfold m_laws_heldIntS at H
  refine callM_of Tryz.func24 rfl Tryz.ntmps24 Tryz.results24 fun Q hQ hQn => ?_
  exact wk2
instance (a : List Int) (k : Int) : CT Tryz.prog (m_laws_heldIntS a k) := ⟨24, [.sl (a.map cInt), vi k], [], fun r => vi r, fun r => [], ok_laws_heldIntS a k⟩
end Go.Proofs.YtooikkfldddjfaaGreat

/- The mirror of laws_heldTripS, and that the code does just that (printed by a program of my own). -/
namespace Go.Proofs.YtooikkfldddjfaaGreat
set_option maxRecDepth 10000
open Go.RowKit
set_option linter.unusedVariables false
set_option maxHeartbeats 16000000
def m_laws_heldTripS_b0 (a : List YTrip) (s0 : Int × Int) : Option ((Int × Int) ⊕ (Int ⊕ Int)) :=
 cond (decide (s0.2 < (a.length : Int)))
 ((getI a s0.2).bind fun y1 =>
 cond (!decide (y1.leg = s0.1))
 (some (.inr (.inr (-1))))
 ((getI a s0.2).bind fun y2 =>
 cond (!decide (y2.day = (w64 (s0.1 + 1))))
 (some (.inr (.inr (-1))))
 (some (.inl ((w64 ((w64 (s0.1 + 1)) + 1)), (w64 (s0.2 + 1)))))))
 (some (.inr (.inl s0.1)))
instance (a : List YTrip) : LoopE (m_laws_heldTripS_b0 a) := ⟨fun s0 => [.sl (a.map cTrip), vi s0.1, .un, .un, .un, vi s0.2, .un, .un, .un, .un, .un, .un, .un, .un, .un, .un, .un, .un, .un, .un, .un, .un, .un, .un, .un, .un, .un, .un, .un, .un, .un], fun s0 => []⟩
def m_laws_heldTripS (a : List YTrip) (k : Int) : Option Int :=
 (iterF (m_laws_heldTripS_b0 a) NN (k, 0)).bind (selim (fun o0 =>
 some o0) (fun r => some r))
theorem ok_laws_heldTripS (a : List YTrip) (k : Int) {r : Int} (H : m_laws_heldTripS a k = some r) : CallM Tryz.prog 83 [.sl (a.map cTrip), vi k] [] (vi r) [] := by
  replace H := H0 H
  unfold m_laws_heldTripS at H
  refine callM_of Tryz.func83 rfl Tryz.ntmps83 Tryz.results83 fun Q hQ hQn => ?_
  exact wk2
instance (a : List YTrip) (k : Int) : CT Tryz.prog (m_laws_heldTripS a k) := ⟨83, [.sl (a.map cTrip), vi k], [], fun r => vi r, fun r => [], ok_laws_heldTripS a k⟩
end Go.Proofs.YtooikkfldddjfaaGreat

/- The mirror of laws_heldBookingS, and that the code does just that (printed by a program of my own). -/
namespace Go.Proofs.YtooikkfldddjfaaGreat
set_option maxRecDepth 10000
open Go.RowKit
set_option linter.unusedVariables false
set_option maxHeartbeats 16000000
def m_laws_heldBookingS_b0 (a : List YBooking) (s0 : Int × Int) : Option ((Int × Int) ⊕ (Int ⊕ Int)) :=
 cond (decide (s0.2 < (a.length : Int)))
 ((getI a s0.2).bind fun y1 =>
 cond (!decide (y1.thing = s0.1))
 (some (.inr (.inr (-1))))
 ((getI a s0.2).bind fun y2 =>
 cond (!decide (y2.trip.leg = (w64 (s0.1 + 1))))
 (some (.inr (.inr (-1))))
 ((getI a s0.2).bind fun y3 =>
 cond (!decide (y3.trip.day = (w64 ((w64 (s0.1 + 1)) + 1))))
 (some (.inr (.inr (-1))))
 ((getI a s0.2).bind fun y4 =>
 cond (!decide (y4.weight = (w64 ((w64 ((w64 (s0.1 + 1)) + 1)) + 1))))
 (some (.inr (.inr (-1))))
 (some (.inl ((w64 ((w64 ((w64 ((w64 (s0.1 + 1)) + 1)) + 1)) + 1)), (w64 (s0.2 + 1)))))))))
 (some (.inr (.inl s0.1)))
instance (a : List YBooking) : LoopE (m_laws_heldBookingS_b0 a) := ⟨fun s0 => [.sl (a.map cBooking), vi s0.1, .un, .un, .un, vi s0.2, .un, .un, .un, .un, .un, .un, .un, .un, .un, .un, .un, .un, .un, .un, .un, .un, .un, .un, .un, .un, .un, .un, .un, .un, .un, .un, .un, .un, .un, .un, .un, .un, .un, .un, .un, .un, .un, .un, .un, .un, .un, .un, .un, .un, .un], fun s0 => []⟩
def m_laws_heldBookingS (a : List YBooking) (k : Int) : Option Int :=
 (iterF (m_laws_heldBookingS_b0 a) NN (k, 0)).bind (selim (fun o0 =>
 some o0) (fun r => some r))
theorem ok_laws_heldBookingS (a : List YBooking) (k : Int) {r : Int} (H : m_laws_heldBookingS a k = some r) : CallM Tryz.prog 82 [.sl (a.map cBooking), vi k] [] (vi r) [] := by
  replace H := H0 H
  unfold m_laws_heldBookingS at H
  refine callM_of Tryz.func82 rfl Tryz.ntmps82 Tryz.results82 fun Q hQ hQn => ?_
  exact wk2
instance (a : List YBooking) (k : Int) : CT Tryz.prog (m_laws_heldBookingS a k) := ⟨82, [.sl (a.map cBooking), vi k], [], fun r => vi r, fun r => [], ok_laws_heldBookingS a k⟩
end Go.Proofs.YtooikkfldddjfaaGreat

/- The mirror of laws_heldScanS, and that the code does just that (printed by a program of my own). -/
namespace Go.Proofs.YtooikkfldddjfaaGreat
set_option maxRecDepth 10000
open Go.RowKit
set_option linter.unusedVariables false
set_option maxHeartbeats 16000000
def m_laws_heldScanS_b0 (a : List YScan) (s0 : Int × Int) : Option ((Int × Int) ⊕ (Int ⊕ Int)) :=
 cond (decide (s0.2 < (a.length : Int)))
 ((getI a s0.2).bind fun y1 =>
 cond (!decide (y1.thing = s0.1))
 (some (.inr (.inr (-1))))
 ((getI a s0.2).bind fun y2 =>
 cond (!decide (y2.at_ = (w64 (s0.1 + 1))))
 (some (.inr (.inr (-1))))
 ((getI a s0.2).bind fun y3 =>
 cond (!decide (y3.kind = (w64 ((w64 (s0.1 + 1)) + 1))))
 (some (.inr (.inr (-1))))
 ((getI a s0.2).bind fun y4 =>
 (m_laws_markText (w64 ((w64 ((w64 (s0.1 + 1)) + 1)) + 1))).bind fun y5 =>
 cond (!decide (y4.place = y5))
 (some (.inr (.inr (-1))))
 ((getI a s0.2).bind fun y6 =>
 cond (!decide (y6.trip.leg = (w64 ((w64 ((w64 ((w64 (s0.1 + 1)) + 1)) + 1)) + 1))))
 (some (.inr (.inr (-1))))
 ((getI a s0.2).bind fun y7 =>
 cond (!decide (y7.trip.day = (w64 ((w64 ((w64 ((w64 ((w64 (s0.1 + 1)) + 1)) + 1)) + 1)) + 1))))
 (some (.inr (.inr (-1))))
 (some (.inl ((w64 ((w64 ((w64 ((w64 ((w64 ((w64 (s0.1 + 1)) + 1)) + 1)) + 1)) + 1)) + 1)), (w64 (s0.2 + 1)))))))))))
 (some (.inr (.inl s0.1)))
instance (a : List YScan) : LoopE (m_laws_heldScanS_b0 a) := ⟨fun s0 => [.sl (a.map cScan), vi s0.1, .un, .un, .un, vi s0.2, .un, .un, .un, .un, .un, .un, .un, .un, .un, .un, .un, .un, .un, .un, .un, .un, .un, .un, .un, .un, .un, .un, .un, .un, .un, .un, .un, .un, .un, .un, .un, .un, .un, .un, .un, .un, .un, .un, .un, .un, .un, .un, .un, .un, .un, .un, .un, .un, .un, .un, .un, .un, .un, .un, .un, .un, .un, .un, .un, .un, .un, .un, .un, .un], fun s0 => []⟩
def m_laws_heldScanS (a : List YScan) (k : Int) : Option Int :=
 (iterF (m_laws_heldScanS_b0 a) NN (k, 0)).bind (selim (fun o0 =>
 some o0) (fun r => some r))
theorem ok_laws_heldScanS (a : List YScan) (k : Int) {r : Int} (H : m_laws_heldScanS a k = some r) : CallM Tryz.prog 84 [.sl (a.map cScan), vi k] [] (vi r) [] := by
  replace H := H0 H
  unfold m_laws_heldScanS at H
  refine callM_of Tryz.func84 rfl Tryz.ntmps84 Tryz.results84 fun Q hQ hQn => ?_
  exact wk2
instance (a : List YScan) (k : Int) : CT Tryz.prog (m_laws_heldScanS a k) := ⟨84, [.sl (a.map cScan), vi k], [], fun r => vi r, fun r => [], ok_laws_heldScanS a k⟩
end Go.Proofs.YtooikkfldddjfaaGreat

/- The mirror of laws_heldOrderS, and that the code does just that (printed by a program of my own). -/
namespace Go.Proofs.YtooikkfldddjfaaGreat
set_option maxRecDepth 10000
open Go.RowKit
set_option linter.unusedVariables false
set_option maxHeartbeats 16000000
def m_laws_heldOrderS_b0 (a : List YOrder) (s0 : Int × Int) : Option ((Int × Int) ⊕ (Int ⊕ Int)) :=
 cond (decide (s0.2 < (a.length : Int)))
 ((getI a s0.2).bind fun y1 =>
 (m_laws_markText s0.1).bind fun y2 =>
 cond (!decide (y1.from_ = y2))
 (some (.inr (.inr (-1))))
 ((getI a s0.2).bind fun y3 =>
 (m_laws_markText (w64 (s0.1 + 1))).bind fun y4 =>
 cond (!decide (y3.to_ = y4))
 (some (.inr (.inr (-1))))
 ((getI a s0.2).bind fun y5 =>
 cond (!decide (y5.service = (w64 ((w64 (s0.1 + 1)) + 1))))
 (some (.inr (.inr (-1))))
 ((getI a s0.2).bind fun y6 =>
 cond (!decide (y6.weight = (w64 ((w64 ((w64 (s0.1 + 1)) + 1)) + 1))))
 (some (.inr (.inr (-1))))
 ((getI a s0.2).bind fun y7 =>
 cond (!decide (y7.at_ = (w64 ((w64 ((w64 ((w64 (s0.1 + 1)) + 1)) + 1)) + 1))))
 (some (.inr (.inr (-1))))
 ((getI a s0.2).bind fun y8 =>
 cond (!decide (y8.due = (w64 ((w64 ((w64 ((w64 ((w64 (s0.1 + 1)) + 1)) + 1)) + 1)) + 1))))
 (some (.inr (.inr (-1))))
 ((getI a s0.2).bind fun y9 =>
 (m_laws_heldTripS y9.way (w64 ((w64 ((w64 ((w64 ((w64 ((w64 (s0.1 + 1)) + 1)) + 1)) + 1)) + 1)) + 1))).bind fun y10 =>
 cond (decide (y10 < 0))
 (some (.inr (.inr (-1))))
 ((getI a s0.2).bind fun y11 =>
 cond (!decide (y11.gone = y10))
 (some (.inr (.inr (-1))))
 ((getI a s0.2).bind fun y12 =>
 cond (!decide (y12.state = (w64 (y10 + 1))))
 (some (.inr (.inr (-1))))
 ((getI a s0.2).bind fun y13 =>
 (m_laws_markText (w64 ((w64 (y10 + 1)) + 1))).bind fun y14 =>
 cond (!decide (y13.place = y14))
 (some (.inr (.inr (-1))))
 ((getI a s0.2).bind fun y15 =>
 cond (!decide (y15.ended = (w64 ((w64 ((w64 (y10 + 1)) + 1)) + 1))))
 (some (.inr (.inr (-1))))
 (some (.inl ((w64 ((w64 ((w64 ((w64 (y10 + 1)) + 1)) + 1)) + 1)), (w64 (s0.2 + 1))))))))))))))))
 (some (.inr (.inl s0.1)))
instance (a : List YOrder) : LoopE (m_laws_heldOrderS_b0 a) := ⟨fun s0 => [.sl (a.map cOrder), vi s0.1, .un, .un, .un, vi s0.2, .un, .un, .un, .un, .un, .un, .un, .un, .un, .un, .un, .un, .un, .un, .un, .un, .un, .un, .un, .un, .un, .un, .un, .un, .un, .un, .un, .un, .un, .un, .un, .un, .un, .un, .un, .un, .un, .un, .un, .un, .un, .un, .un, .un, .un, .un, .un, .un, .un, .un, .un, .un, .un, .un, .un, .un, .un, .un, .un, .un, .un, .un, .un, .un, .un, .un, .un, .un, .un, .un, .un, .un, .un, .un, .un, .un, .un, .un, .un, .un, .un, .un, .un, .un, .un, .un, .un, .un, .un, .un, .un, .un, .un, .un, .un, .un, .un, .un, .un, .un, .un, .un, .un, .un, .un, .un, .un, .un, .un], fun s0 => []⟩
def m_laws_heldOrderS (a : List YOrder) (k : Int) : Option Int :=
 (iterF (m_laws_heldOrderS_b0 a) NN (k, 0)).bind (selim (fun o0 =>
 some o0) (fun r => some r))
theorem ok_laws_heldOrderS (a : List YOrder) (k : Int) {r : Int} (H : m_laws_heldOrderS a k = some r) : CallM Tryz.prog 81 [.sl (a.map cOrder), vi k] [] (vi r) [] := by
  replace H := H0 H
  unfold m_laws_heldOrderS at H
  refine callM_of Tryz.func81 rfl Tryz.ntmps81 Tryz.results81 fun Q hQ hQn => ?_
  exact wk2
instance (a : List YOrder) (k : Int) : CT Tryz.prog (m_laws_heldOrderS a k) := ⟨81, [.sl (a.map cOrder), vi k], [], fun r => vi r, fun r => [], ok_laws_heldOrderS a k⟩
end Go.Proofs.YtooikkfldddjfaaGreat

/- The mirror of laws_heldLegS, and that the code does just that (printed by a program of my own). -/
namespace Go.Proofs.YtooikkfldddjfaaGreat
set_option maxRecDepth 10000
open Go.RowKit
set_option linter.unusedVariables false
set_option maxHeartbeats 16000000
def m_laws_heldLegS_b0 (a : List YLeg) (s0 : Int × Int) : Option ((Int × Int) ⊕ (Int ⊕ Int)) :=
 cond (decide (s0.2 < (a.length : Int)))
 ((getI a s0.2).bind fun y1 =>
 (m_laws_markText s0.1).bind fun y2 =>
 cond (!decide (y1.from_ = y2))
 (some (.inr (.inr (-1))))
 ((getI a s0.2).bind fun y3 =>
 (m_laws_markText (w64 (s0.1 + 1))).bind fun y4 =>
 cond (!decide (y3.to_ = y4))
 (some (.inr (.inr (-1))))
 ((getI a s0.2).bind fun y5 =>
 cond (!decide (y5.start = (w64 ((w64 (s0.1 + 1)) + 1))))
 (some (.inr (.inr (-1))))
 ((getI a s0.2).bind fun y6 =>
 cond (!decide (y6.takes = (w64 ((w64 ((w64 (s0.1 + 1)) + 1)) + 1))))
 (some (.inr (.inr (-1))))
 ((getI a s0.2).bind fun y7 =>
 cond (!decide (y7.days = (w64 ((w64 ((w64 ((w64 (s0.1 + 1)) + 1)) + 1)) + 1))))
 (some (.inr (.inr (-1))))
 ((getI a s0.2).bind fun y8 =>
 cond (!decide (y8.room = (w64 ((w64 ((w64 ((w64 ((w64 (s0.1 + 1)) + 1)) + 1)) + 1)) + 1))))
 (some (.inr (.inr (-1))))
 (some (.inl ((w64 ((w64 ((w64 ((w64 ((w64 ((w64 (s0.1 + 1)) + 1)) + 1)) + 1)) + 1)) + 1)), (w64 (s0.2 + 1)))))))))))
 (some (.inr (.inl s0.1)))
instance (a : List YLeg) : LoopE (m_laws_heldLegS_b0 a) := ⟨fun s0 => [.sl (a.map cLeg), vi s0.1, .un, .un, .un, vi s0.2, .un, .un, .un, .un, .un, .un, .un, .un, .un, .un, .un, .un, .un, .un, .un, .un, .un, .un, .un, .un, .un, .un, .un, .un, .un, .un, .un, .un, .un, .un, .un, .un, .un, .un, .un, .un, .un, .un, .un, .un, .un, .un, .un, .un, .un, .un, .un, .un, .un, .un, .un, .un, .un, .un, .un, .un, .un, .un, .un, .un, .un, .un, .un], fun s0 => []⟩
def m_laws_heldLegS (a : List YLeg) (k : Int) : Option Int :=
 (iterF (m_laws_heldLegS_b0 a) NN (k, 0)).bind (selim (fun o0 =>
 some o0) (fun r => some r))
theorem ok_laws_heldLegS (a : List YLeg) (k : Int) {r : Int} (H : m_laws_heldLegS a k = some r) : CallM Tryz.prog 124 [.sl (a.map cLeg), vi k] [] (vi r) [] := by
  replace H := H0 H
  unfold m_laws_heldLegS at H
  refine callM_of Tryz.func124 rfl Tryz.ntmps124 Tryz.results124 fun Q hQ hQn => ?_
  exact wk2
instance (a : List YLeg) (k : Int) : CT Tryz.prog (m_laws_heldLegS a k) := ⟨124, [.sl (a.map cLeg), vi k], [], fun r => vi r, fun r => [], ok_laws_heldLegS a k⟩
end Go.Proofs.YtooikkfldddjfaaGreat

/- The mirror of laws_heldNetwork, and that the code does just that (printed by a program of my own). -/
namespace Go.Proofs.YtooikkfldddjfaaGreat
set_option maxRecDepth 10000
open Go.RowKit
set_option linter.unusedVariables false
set_option maxHeartbeats 16000000
def m_laws_heldNetwork (a : YNetwork) (k : Int) : Option Int :=
 (m_laws_heldLegS a.legs k).bind fun y1 =>
 cond (decide (y1 < 0))
 (some (-1))
 ((m_laws_heldIntS a.off y1).bind fun y2 =>
 cond (decide (y2 < 0))
 (some (-1))
 (some y2))
theorem ok_laws_heldNetwork (a : YNetwork) (k : Int) {r : Int} (H : m_laws_heldNetwork a k = some r) : CallM Tryz.prog 80 [.ag (cNetwork a), vi k] [] (vi r) [] := by
  replace H := H0 H
  unfold m_laws_heldNetwork at H
  refine callM_of Tryz.func80 rfl Tryz.ntmps80 Tryz.results80 fun Q hQ hQn => ?_
  exact wk2
instance (a : YNetwork) (k : Int) : CT Tryz.prog (m_laws_heldNetwork a k) := ⟨80, [.ag (cNetwork a), vi k], [], fun r => vi r, fun r => [], ok_laws_heldNetwork a k⟩
end Go.Proofs.YtooikkfldddjfaaGreat

/- The mirror of laws_heldWorld, and that the code does just that (printed by a program of my own). -/
namespace Go.Proofs.YtooikkfldddjfaaGreat
set_option maxRecDepth 10000
open Go.RowKit
set_option linter.unusedVariables false
set_option maxHeartbeats 16000000
def m_laws_heldWorld (a : YWorld) (k : Int) : Option Int :=
 (m_laws_heldNetwork a.network k).bind fun y1 =>
 cond (decide (y1 < 0))
 (some (-1))
 ((m_laws_heldOrderS a.orders y1).bind fun y2 =>
 cond (decide (y2 < 0))
 (some (-1))
 ((m_laws_heldBookingS a.bookings y2).bind fun y3 =>
 cond (decide (y3 < 0))
 (some (-1))
 ((m_laws_heldTripS a.closed y3).bind fun y4 =>
 cond (decide (y4 < 0))
 (some (-1))
 ((m_laws_heldScanS a.scans y4).bind fun y5 =>
 cond (decide (y5 < 0))
 (some (-1))
 ((m_laws_heldIntS a.skip y5).bind fun y6 =>
 cond (decide (y6 < 0))
 (some (-1))
 (some y6))))))
theorem ok_laws_heldWorld (a : YWorld) (k : Int) {r : Int} (H : m_laws_heldWorld a k = some r) : CallM Tryz.prog 37 [.ag (cWorld a), vi k] [] (vi r) [] := by
  replace H := H0 H
  unfold m_laws_heldWorld at H
  refine callM_of Tryz.func37 rfl Tryz.ntmps37 Tryz.results37 fun Q hQ hQn => ?_
  exact wk2
instance (a : YWorld) (k : Int) : CT Tryz.prog (m_laws_heldWorld a k) := ⟨37, [.ag (cWorld a), vi k], [], fun r => vi r, fun r => [], ok_laws_heldWorld a k⟩
end Go.Proofs.YtooikkfldddjfaaGreat

/- Marks in plain values: what the laws write over rows of ints and of legs, and that it is held. -/
namespace Go.Proofs.YtooikkfldddjfaaGreat
set_option maxRecDepth 10000
open Go.RowKit
set_option linter.unusedVariables false
set_option linter.unusedSimpArgs false
theorem iter_st {σ ο : Type} {body : σ → Option (σ ⊕ ο)} (S : Nat → σ) {n : Nat} {o : ο} (h1 : ∀ i, i < n → body (S i) = some (.inl (S (i + 1)))) (h2 : body (S n) = some (.inr o)) : ∀ N, n < N → iterF body N (S 0) = some o := by
  have key : ∀ d j, j + d = n → ∀ N, d < N → iterF body N (S j) = some o := by
    intro d
    induction d with
    | zero =>
      intro j hj N hN
      obtain ⟨N, rfl⟩ : ∃ M, N = M + 1 := ⟨N - 1, by omega⟩
      have : j = n := by omega
      subst this
      unfold iterF; rw [h2]; rfl
    | succ d ih =>
      intro j hj N hN
      obtain ⟨N, rfl⟩ : ∃ M, N = M + 1 := ⟨N - 1, by omega⟩
      unfold iterF
      rw [h1 j (by omega)]
      exact ih (j + 1) (by omega) N (by omega)
  intro N hN
  exact key n 0 (by omega) N hN
theorem getI_set {α : Type} {xs : List α} {i : Nat} {v : α} (h : i < xs.length) : getI (xs.set i v) (i : Int) = some v := by
  rw [getI_nat, List.getElem?_set_self h]
theorem getI_lt' {α : Type} {xs : List α} {i : Nat} (h : i < xs.length) : getI xs (i : Int) = some xs[i] := by
  rw [getI_nat]; exact List.getElem?_eq_getElem h
theorem set_step {α : Type} {M a : List α} {i : Nat} {v : α} (hM : M.length = i) (hi : i < a.length) : (M ++ a.drop i).set i v = (M ++ [v]) ++ a.drop (i + 1) := by
  rw [List.drop_eq_getElem_cons hi, List.set_append_right _ _ (by omega)]
  rw [show i - M.length = 0 by omega, List.set_cons_zero, List.append_assoc]
  rfl
theorem txt_some {k : Int} (h : 1 ≤ k ∧ k ≤ 1099511627776) : m_laws_markText k = some (markTxt k) := by unfold m_laws_markText; rw [if_pos h]
def mkI (k : Int) (n : Nat) : List Int := (List.range n).map fun i : Nat => k + (i : Int)
theorem mkI_len {k : Int} {n : Nat} : (mkI k n).length = n := by simp [mkI]
theorem mkI_succ {k : Int} {n : Nat} : mkI k (n + 1) = mkI k n ++ [k + (n : Int)] := by simp [mkI, List.range_succ]
theorem markIntS_eq (a : List Int) (k : Int) (ha : a.length ≤ 1048576) (h0 : 1 ≤ k) (h1 : k ≤ 1000000000) : m_p0_laws_markIntS a k = some (k + a.length, mkI k a.length) := by
  unfold m_p0_laws_markIntS
  have e0 : (k, 0, a) = (fun i : Nat => ((k + (i : Int), (i : Int), mkI k i ++ a.drop i) : Int × Int × List Int)) 0 := by simp [mkI]
  have hh : iterF m_p0_laws_markIntS_b0 NN ((fun i : Nat => (k + (i : Int), (i : Int), mkI k i ++ a.drop i)) 0) = some ((k + a.length, mkI k a.length)) := by
    refine iter_st (fun i : Nat => (k + (i : Int), (i : Int), mkI k i ++ a.drop i)) (n := a.length) ?_ ?_ NN (by unfold NN; omega)
    · intro i hi
      have hL : i < (mkI k i ++ a.drop i).length := by simp [mkI_len]; omega
      have w1 : w64 (k + (i : Int) + 1) = k + ((i + 1 : Nat) : Int) := by rw [w64_in (by omega)]; omega
      have w2 : w64 ((i : Int) + 1) = ((i + 1 : Nat) : Int) := by rw [w64_in (by omega)]; omega
      have d1 : decide ((i : Int) < ((mkI k i ++ a.drop i).length : Int)) = true := decide_eq_true (by omega)
      simp only [m_p0_laws_markIntS_b0, d1, cond_true, getI_lt' hL, Option.bind_some, w1, w2, Int.toNat_natCast, set_step mkI_len hi, mkI_succ]
    · have d1 : decide ((a.length : Int) < ((mkI k a.length).length : Int)) = false := decide_eq_false (by simp [mkI_len])
      simp only [m_p0_laws_markIntS_b0, List.drop_length, List.append_nil, d1, cond_false]
  rw [e0, hh]
  rfl
theorem heldIntS_eq (k : Int) (n : Nat) (hn : n ≤ 1048576) (h0 : 1 ≤ k) (h1 : k ≤ 1000000000) : m_laws_heldIntS (mkI k n) k = some (k + n) := by
  unfold m_laws_heldIntS
  have e0 : (k, 0) = (fun i : Nat => ((k + (i : Int), (i : Int)) : Int × Int)) 0 := by simp
  have hh : iterF (m_laws_heldIntS_b0 (mkI k n)) NN ((fun i : Nat => (k + (i : Int), (i : Int))) 0) = some (Sum.inl (k + n)) := by
    refine iter_st (fun i : Nat => (k + (i : Int), (i : Int))) (n := n) ?_ ?_ NN (by unfold NN; omega)
    · intro i hi
      have hL : i < (mkI k n).length := by rw [mkI_len]; exact hi
      have w1 : w64 (k + (i : Int) + 1) = k + ((i + 1 : Nat) : Int) := by rw [w64_in (by omega)]; omega
      have w2 : w64 ((i : Int) + 1) = ((i + 1 : Nat) : Int) := by rw [w64_in (by omega)]; omega
      have d1 : decide ((i : Int) < ((mkI k n).length : Int)) = true := decide_eq_true (by omega)
      have g : (mkI k n)[i] = k + (i : Int) := by simp [mkI]
      simp only [m_laws_heldIntS_b0, d1, cond_true, getI_lt' hL, Option.bind_some, w1, w2, g, decide_true, Bool.not_true, cond_false]
    · have d1 : decide ((n : Int) < ((mkI k n).length : Int)) = false := decide_eq_false (by simp [mkI_len])
      simp only [m_laws_heldIntS_b0, d1, cond_false]
  rw [e0, hh]
  rfl
def legM (k : Int) : YLeg := ⟨markTxt k, markTxt (k + 1), k + 1 + 1, k + 1 + 1 + 1, k + 1 + 1 + 1 + 1, k + 1 + 1 + 1 + 1 + 1⟩
def mkL (k : Int) (n : Nat) : List YLeg := (List.range n).map fun i : Nat => legM (k + 6 * (i : Int))
theorem mkL_len {k : Int} {n : Nat} : (mkL k n).length = n := by simp [mkL]
theorem mkL_succ {k : Int} {n : Nat} : mkL k (n + 1) = mkL k n ++ [legM (k + 6 * (n : Int))] := by simp [mkL, List.range_succ]
theorem markLegS_eq (a : List YLeg) (k : Int) (ha : a.length ≤ 1048576) (h0 : 1 ≤ k) (h1 : k ≤ 1000000000) : m_p0_laws_markLegS a k = some (k + 6 * a.length, mkL k a.length) := by
  unfold m_p0_laws_markLegS
  have e0 : (k, 0, a) = (fun i : Nat => ((k + 6 * (i : Int), (i : Int), mkL k i ++ a.drop i) : Int × Int × List YLeg)) 0 := by simp [mkL]
  have hh : iterF m_p0_laws_markLegS_b0 NN ((fun i : Nat => (k + 6 * (i : Int), (i : Int), mkL k i ++ a.drop i)) 0) = some ((k + 6 * a.length, mkL k a.length)) := by
    refine iter_st (fun i : Nat => (k + 6 * (i : Int), (i : Int), mkL k i ++ a.drop i)) (n := a.length) ?_ ?_ NN (by unfold NN; omega)
    · intro i hi
      have hL : i < (mkL k i ++ a.drop i).length := by simp [mkL_len]; omega
      generalize hq : k + 6 * (i : Int) = q
      have hq0 : 1 ≤ q := by omega
      have hq1 : q ≤ 1010000000 := by omega
      have hq2 : k + 6 * ((i + 1 : Nat) : Int) = q + 1 + 1 + 1 + 1 + 1 + 1 := by omega
      have w1 : w64 (q + 1) = q + 1 := w64_in (by omega)
      have w2 : w64 (q + 1 + 1) = q + 1 + 1 := w64_in (by omega)
      have w3 : w64 (q + 1 + 1 + 1) = q + 1 + 1 + 1 := w64_in (by omega)
      have w4 : w64 (q + 1 + 1 + 1 + 1) = q + 1 + 1 + 1 + 1 := w64_in (by omega)
      have w5 : w64 (q + 1 + 1 + 1 + 1 + 1) = q + 1 + 1 + 1 + 1 + 1 := w64_in (by omega)
      have w6 : w64 (q + 1 + 1 + 1 + 1 + 1 + 1) = q + 1 + 1 + 1 + 1 + 1 + 1 := w64_in (by omega)
      have wi : w64 ((i : Int) + 1) = ((i + 1 : Nat) : Int) := by rw [w64_in (by omega)]; omega
      have t0 : m_laws_markText q = some (markTxt q) := txt_some (by omega)
      have t1 : m_laws_markText (q + 1) = some (markTxt (q + 1)) := txt_some (by omega)
      have d1 : decide ((i : Int) < ((mkL k i ++ a.drop i).length : Int)) = true := decide_eq_true (by omega)
      have hs := set_step (v := legM q) mkL_len (show i < a.length from hi) (M := mkL k i)
      rw [mkL_succ, hq, hq2]
      generalize mkL k i ++ a.drop i = L at *
      have gs : ∀ (xs : List YLeg) (v : YLeg), i < xs.length → getI (xs.set i v) (i : Int) = some v := fun xs v h => getI_set h
      simp only [m_p0_laws_markLegS_b0, d1, cond_true, t0, t1, getI_lt' hL, Option.bind_some, w1, w2, w3, w4, w5, w6, wi, Int.toNat_natCast, frzL, gs, List.length_set, hL, List.set_set, ← hs]
      rfl
    · have d1 : decide ((a.length : Int) < ((mkL k a.length).length : Int)) = false := decide_eq_false (by simp [mkL_len])
      simp only [m_p0_laws_markLegS_b0, List.drop_length, List.append_nil, d1, cond_false]
  rw [e0, hh]
  rfl
theorem heldLegS_eq (k : Int) (n : Nat) (hn : n ≤ 1048576) (h0 : 1 ≤ k) (h1 : k ≤ 1000000000) : m_laws_heldLegS (mkL k n) k = some (k + 6 * n) := by
  unfold m_laws_heldLegS
  have e0 : (k, 0) = (fun i : Nat => ((k + 6 * (i : Int), (i : Int)) : Int × Int)) 0 := by simp
  have hh : iterF (m_laws_heldLegS_b0 (mkL k n)) NN ((fun i : Nat => (k + 6 * (i : Int), (i : Int))) 0) = some (Sum.inl (k + 6 * n)) := by
    refine iter_st (fun i : Nat => (k + 6 * (i : Int), (i : Int))) (n := n) ?_ ?_ NN (by unfold NN; omega)
    · intro i hi
      have hL : i < (mkL k n).length := by rw [mkL_len]; exact hi
      have g : (mkL k n)[i] = legM (k + 6 * (i : Int)) := by simp [mkL]
      have hg := getI_lt' hL
      rw [g] at hg
      have d1 : decide ((i : Int) < ((mkL k n).length : Int)) = true := decide_eq_true (by omega)
      have hq2 : k + 6 * ((i + 1 : Nat) : Int) = k + 6 * (i : Int) + 1 + 1 + 1 + 1 + 1 + 1 := by omega
      rw [hq2]
      generalize mkL k n = L at *
      have hq0 : 1 ≤ k + 6 * (i : Int) := by omega
      have hq1 : k + 6 * (i : Int) ≤ 1010000000 := by omega
      generalize k + 6 * (i : Int) = q at *
      have w1 : w64 (q + 1) = q + 1 := w64_in (by omega)
      have w2 : w64 (q + 1 + 1) = q + 1 + 1 := w64_in (by omega)
      have w3 : w64 (q + 1 + 1 + 1) = q + 1 + 1 + 1 := w64_in (by omega)
      have w4 : w64 (q + 1 + 1 + 1 + 1) = q + 1 + 1 + 1 + 1 := w64_in (by omega)
      have w5 : w64 (q + 1 + 1 + 1 + 1 + 1) = q + 1 + 1 + 1 + 1 + 1 := w64_in (by omega)
      have w6 : w64 (q + 1 + 1 + 1 + 1 + 1 + 1) = q + 1 + 1 + 1 + 1 + 1 + 1 := w64_in (by omega)
      have wi : w64 ((i : Int) + 1) = ((i + 1 : Nat) : Int) := by rw [w64_in (by omega)]; omega
      have t0 : m_laws_markText q = some (markTxt q) := txt_some (by omega)
      have t1 : m_laws_markText (q + 1) = some (markTxt (q + 1)) := txt_some (by omega)
      simp only [m_laws_heldLegS_b0, d1, cond_true, t0, t1, hg, Option.bind_some, w1, w2, w3, w4, w5, w6, wi, legM, decide_true, Bool.not_true, cond_false]
    · have d1 : decide ((n : Int) < ((mkL k n).length : Int)) = false := decide_eq_false (by simp [mkL_len])
      simp only [m_laws_heldLegS_b0, d1, cond_false]
  rw [e0, hh]
  rfl
end Go.Proofs.YtooikkfldddjfaaGreat

/- The mirror of spec.l1Ints, and that the code does just that (printed by a program of my own). -/
namespace Go.Proofs.YtooikkfldddjfaaGreat
set_option maxRecDepth 10000
open Go.RowKit
set_option linter.unusedVariables false
set_option maxHeartbeats 16000000
def m_spec_l1Ints (l : List Int) : Option (List Int) :=
 (chk (appOk ((([] : List Int) : List Int).length + (l : List Int).length) 8)).bind fun _ =>
 some ((([] : List Int) : List Int) ++ l)
theorem ok_spec_l1Ints (l : List Int) {r : (List Int)} (H : m_spec_l1Ints l = some r) : CallM Tryz.prog 120 [.sl (l.map cInt)] [] (.ms 0) [some ⟨3, 1, r.map cInt⟩] := by
  replace H := H0 H
  unfold m_spec_l1Ints at H
  refine callM_of Tryz.func120 rfl Tryz.ntmps120 Tryz.results120 fun Q hQ hQn => ?_
  exact wk
instance (l : List Int) : CT Tryz.prog (m_spec_l1Ints l) := ⟨120, [.sl (l.map cInt)], [], fun r => .ms 0, fun r => [some ⟨3, 1, r.map cInt⟩], ok_spec_l1Ints l⟩
end Go.Proofs.YtooikkfldddjfaaGreat

/- The mirror of spec.l6Copy, and that the code does just that (printed by a program of my own). -/
namespace Go.Proofs.YtooikkfldddjfaaGreat
set_option maxRecDepth 10000
open Go.RowKit
set_option linter.unusedVariables false
set_option maxHeartbeats 16000000
def m_spec_l6Copy (l : List YBooking) : Option (List YBooking) :=
 (chk (appOk ((([] : List YBooking) : List YBooking).length + (l : List YBooking).length) 32)).bind fun _ =>
 some ((([] : List YBooking) : List YBooking) ++ l)
theorem ok_spec_l6Copy (l : List YBooking) {r : (List YBooking)} (H : m_spec_l6Copy l = some r) : CallM Tryz.prog 121 [.sl (l.map cBooking)] [] (.ms 0) [some ⟨114, 4, r.map cBooking⟩] := by
  replace H := H0 H
  unfold m_spec_l6Copy at H
  refine callM_of Tryz.func121 rfl Tryz.ntmps121 Tryz.results121 fun Q hQ hQn => ?_
  exact wk
instance (l : List YBooking) : CT Tryz.prog (m_spec_l6Copy l) := ⟨121, [.sl (l.map cBooking)], [], fun r => .ms 0, fun r => [some ⟨114, 4, r.map cBooking⟩], ok_spec_l6Copy l⟩
end Go.Proofs.YtooikkfldddjfaaGreat

/- The mirror of o_spec_l10Copy, and that the code does just that (printed by a program of my own). -/
namespace Go.Proofs.YtooikkfldddjfaaGreat
set_option maxRecDepth 10000
open Go.RowKit
set_option linter.unusedVariables false
set_option maxHeartbeats 16000000
def m_o_spec_l10Copy_b0 (w : YWorld) (y1 : (List Int)) (s0 : Int × (List YOrder)) : Option ((Int × (List YOrder)) ⊕ (List YOrder)) :=
 cond (decide (s0.1 < (w.orders.length : Int)))
 ((getI w.orders s0.1).bind fun y2 =>
 (chk (appOk ((([] : List YTrip) : List YTrip).length + (y2.way : List YTrip).length) 16)).bind fun _ =>
 (frz [.un, .be 0 0 0, .be 1 0 0, .be 2 0 0, vi s0.1, .be 6 0 0, .un, .un, .un, .un, .un, .un, .un, .un, .un, .un, .un, .un, .un, .un, .un, .un, .un, .un, .un, .un, .un, .un, .un, .un, .un, .un, .un, .un, .un, .un, .un, .un, .un, .un, .un, .un, .un, .un, .un, .un, .un, .un, .un, .un, .un, .un, .un, .un, .un, .un, .un, .un, .un, .un, .un, .un, .un, .un, .un] [some ⟨42, 10, [[.sl (w.network.legs.map cLeg), .sl (w.network.off.map cInt), vi w.network.change, .sl (w.orders.map cOrder), .sl (w.bookings.map cBooking), .sl (w.closed.map cTrip), vi w.now, .sl (w.scans.map cScan), .sl (w.skip.map cInt), vi w.made]]⟩, some ⟨42, 10, [[.v (.slice none 0 0), .v (.slice none 0 0), vi 0, .v (.slice none 0 0), .v (.slice none 0 0), .v (.slice none 0 0), vi 0, .v (.slice none 0 0), .v (.slice none 0 0), vi 0]]⟩, some ⟨42, 10, [[.ms 3, .ms 4, vi w.network.change, .ms 5, .sl (w.bookings.map cBooking), .sl (w.closed.map cTrip), vi w.now, .sl (w.scans.map cScan), .sl (w.skip.map cInt), vi w.made]]⟩, some ⟨118, 6, ((([] : List YLeg) : List YLeg) ++ w.network.legs).map cLeg⟩, some ⟨3, 1, y1.map cInt⟩, some ⟨81, 11, s0.2.map cOrder⟩, some ⟨81, 11, [[vs y2.from_, vs y2.to_, vi y2.service, vi y2.weight, vi y2.at_, vi y2.due, .sl (((([] : List YTrip) : List YTrip) ++ y2.way).map cTrip), vi y2.gone, vi y2.state, vs y2.place, vi y2.ended]]⟩]).bind fun _ =>
 (chk (appOk ((s0.2 : List YOrder).length + ([(⟨y2.from_, y2.to_, y2.service, y2.weight, y2.at_, y2.due, ((([] : List YTrip) : List YTrip) ++ y2.way), y2.gone, y2.state, y2.place, y2.ended⟩ : YOrder)] : List YOrder).length) 128)).bind fun _ =>
 some (.inl ((w64 (s0.1 + 1)), ((s0.2 : List YOrder) ++ [(⟨y2.from_, y2.to_, y2.service, y2.weight, y2.at_, y2.due, ((([] : List YTrip) : List YTrip) ++ y2.way), y2.gone, y2.state, y2.place, y2.ended⟩ : YOrder)]))))
 (some (.inr s0.2))
instance (w : YWorld) (y1 : (List Int)) : LoopE (m_o_spec_l10Copy_b0 w y1) := ⟨fun s0 => [.un, .be 0 0 0, .be 1 0 0, .be 2 0 0, vi s0.1, .un, .un, .un, .un, .un, .un, .un, .un, .un, .un, .un, .un, .un, .un, .un, .un, .un, .un, .un, .un, .un, .un, .un, .un, .un, .un, .un, .un, .un, .un, .un, .un, .un, .un, .un, .un, .un, .un, .un, .un, .un, .un, .un, .un, .un, .un, .un, .un, .un, .un, .un, .un, .un, .un, .un, .un, .un, .un, .un, .un], fun s0 => [some ⟨42, 10, [[.sl (w.network.legs.map cLeg), .sl (w.network.off.map cInt), vi w.network.change, .sl (w.orders.map cOrder), .sl (w.bookings.map cBooking), .sl (w.closed.map cTrip), vi w.now, .sl (w.scans.map cScan), .sl (w.skip.map cInt), vi w.made]]⟩, some ⟨42, 10, [[.v (.slice none 0 0), .v (.slice none 0 0), vi 0, .v (.slice none 0 0), .v (.slice none 0 0), .v (.slice none 0 0), vi 0, .v (.slice none 0 0), .v (.slice none 0 0), vi 0]]⟩, some ⟨42, 10, [[.ms 3, .ms 4, vi w.network.change, .ms 5, .sl (w.bookings.map cBooking), .sl (w.closed.map cTrip), vi w.now, .sl (w.scans.map cScan), .sl (w.skip.map cInt), vi w.made]]⟩, some ⟨118, 6, ((([] : List YLeg) : List YLeg) ++ w.network.legs).map cLeg⟩, some ⟨3, 1, y1.map cInt⟩, some ⟨81, 11, s0.2.map cOrder⟩]⟩
def m_o_spec_l10Copy (w : YWorld) : Option YWorld :=
 (chk (appOk ((([] : List YLeg) : List YLeg).length + (w.network.legs : List YLeg).length) 64)).bind fun _ =>
 (m_spec_l1Ints w.network.off).bind fun y1 =>
 (iterF (m_o_spec_l10Copy_b0 w y1) NN (0, ([] : List YOrder))).bind (fun o0 =>
 (m_spec_l6Copy w.bookings).bind fun y3 =>
 (chk (appOk ((([] : List YTrip) : List YTrip).length + (w.closed : List YTrip).length) 16)).bind fun _ =>
 (chk (appOk ((([] : List YScan) : List YScan).length + (w.scans : List YScan).length) 56)).bind fun _ =>
 (m_spec_l1Ints w.skip).bind fun y4 =>
 some (⟨(⟨((([] : List YLeg) : List YLeg) ++ w.network.legs), y1, w.network.change⟩ : YNetwork), o0, y3, ((([] : List YTrip) : List YTrip) ++ w.closed), w.now, ((([] : List YScan) : List YScan) ++ w.scans), y4, w.made⟩ : YWorld))
theorem ok_o_spec_l10Copy (w : YWorld) {r : YWorld} (H : m_o_spec_l10Copy w = some r) : CallM Tryz.prog 75 [.ag (cWorld w)] [] (.ag [.ms 0, .ms 1, vi r.network.change, .ms 2, .ms 3, .ms 4, vi r.now, .ms 5, .ms 6, vi r.made]) [some ⟨118, 6, r.network.legs.map cLeg⟩, some ⟨3, 1, r.network.off.map cInt⟩, some ⟨81, 11, r.orders.map cOrder⟩, some ⟨114, 4, r.bookings.map cBooking⟩, some ⟨57, 2, r.closed.map cTrip⟩, some ⟨78, 6, r.scans.map cScan⟩, some ⟨3, 1, r.skip.map cInt⟩] := by
  replace H := H0 H
  unfold m_o_spec_l10Copy at H
  refine callM_of Tryz.func75 rfl Tryz.ntmps75 Tryz.results75 fun Q hQ hQn => ?_
  exact wk2
instance (w : YWorld) : CT Tryz.prog (m_o_spec_l10Copy w) := ⟨75, [.ag (cWorld w)], [], fun r => .ag [.ms 0, .ms 1, vi r.network.change, .ms 2, .ms 3, .ms 4, vi r.now, .ms 5, .ms 6, vi r.made], fun r => [some ⟨118, 6, r.network.legs.map cLeg⟩, some ⟨3, 1, r.network.off.map cInt⟩, some ⟨81, 11, r.orders.map cOrder⟩, some ⟨114, 4, r.bookings.map cBooking⟩, some ⟨57, 2, r.closed.map cTrip⟩, some ⟨78, 6, r.scans.map cScan⟩, some ⟨3, 1, r.skip.map cInt⟩], ok_o_spec_l10Copy w⟩
end Go.Proofs.YtooikkfldddjfaaGreat

/- The mirror of o_spec_NewWorld, and that the code does just that (printed by a program of my own). -/
namespace Go.Proofs.YtooikkfldddjfaaGreat
set_option maxRecDepth 10000
open Go.RowKit
set_option linter.unusedVariables false
set_option maxHeartbeats 16000000
def m_o_spec_NewWorld (n : YNetwork) (skip : List Int) : Option (YWorld × Bool) :=
 (m_o_spec_l10Copy (⟨n, [], [], [], 0, [], skip, 0⟩ : YWorld)).bind fun y1 =>
 (m_spec_IsWorld y1).bind fun y2 =>
 cond (!y2)
 (some ((⟨(⟨[], [], 0⟩ : YNetwork), [], [], [], 0, [], [], 0⟩ : YWorld), false))
 (some (y1, true))
theorem ok_o_spec_NewWorld (n : YNetwork) (skip : List Int) {r : YWorld × Bool} (H : m_o_spec_NewWorld n skip = some r) : CallM Tryz.prog 31 [.ag (cNetwork n), .sl (skip.map cInt)] [] (.tu [.ag [.ms 0, .ms 1, vi r.1.network.change, .ms 2, .ms 3, .ms 4, vi r.1.now, .ms 5, .ms 6, vi r.1.made], vb r.2]) [some ⟨118, 6, r.1.network.legs.map cLeg⟩, some ⟨3, 1, r.1.network.off.map cInt⟩, some ⟨81, 11, r.1.orders.map cOrder⟩, some ⟨114, 4, r.1.bookings.map cBooking⟩, some ⟨57, 2, r.1.closed.map cTrip⟩, some ⟨78, 6, r.1.scans.map cScan⟩, some ⟨3, 1, r.1.skip.map cInt⟩] := by
  replace H := H0 H
  unfold m_o_spec_NewWorld at H
  refine callM_of Tryz.func31 rfl Tryz.ntmps31 Tryz.results31 fun Q hQ hQn => ?_
  exact wk2
instance (n : YNetwork) (skip : List Int) : CT Tryz.prog (m_o_spec_NewWorld n skip) := ⟨31, [.ag (cNetwork n), .sl (skip.map cInt)], [], fun r => .tu [.ag [.ms 0, .ms 1, vi r.1.network.change, .ms 2, .ms 3, .ms 4, vi r.1.now, .ms 5, .ms 6, vi r.1.made], vb r.2], fun r => [some ⟨118, 6, r.1.network.legs.map cLeg⟩, some ⟨3, 1, r.1.network.off.map cInt⟩, some ⟨81, 11, r.1.orders.map cOrder⟩, some ⟨114, 4, r.1.bookings.map cBooking⟩, some ⟨57, 2, r.1.closed.map cTrip⟩, some ⟨78, 6, r.1.scans.map cScan⟩, some ⟨3, 1, r.1.skip.map cInt⟩], ok_o_spec_NewWorld n skip⟩
end Go.Proofs.YtooikkfldddjfaaGreat

/- spec.NewWorld's mirror where the world that it makes has no orders (it never has): its rows are flat. -/
namespace Go.Proofs.YtooikkfldddjfaaGreat
set_option maxRecDepth 10000
open Go.RowKit
set_option linter.unusedVariables false
def m_q_spec_NewWorld (n : YNetwork) (skip : List Int) : Option (YWorld × Bool) := (m_o_spec_NewWorld n skip).bind fun r => match r.1.orders with
  | [] => some r
  | _ :: _ => none
theorem q_some {n : YNetwork} {skip : List Int} {r : YWorld × Bool} (H : m_q_spec_NewWorld n skip = some r) : m_o_spec_NewWorld n skip = some r ∧ r.1.orders = [] := by
  unfold m_q_spec_NewWorld at H
  cases h : m_o_spec_NewWorld n skip with
  | none => rw [h] at H; cases H
  | some x =>
    rw [h, Option.bind_some] at H
    cases ho : x.1.orders with
    | nil => rw [ho] at H; obtain rfl := Option.some.inj H; exact ⟨rfl, ho⟩
    | cons a as_ => rw [ho] at H; cases H
theorem ok_q_spec_NewWorld (n : YNetwork) (skip : List Int) {r : YWorld × Bool} (H : m_q_spec_NewWorld n skip = some r) : CallM Tryz.prog 31 [.ag (cNetwork n), .sl (skip.map cInt)] [] (.tu [.ag [.ms 0, .ms 1, vi r.1.network.change, .ms 2, .ms 3, .ms 4, vi r.1.now, .ms 5, .ms 6, vi r.1.made], vb r.2]) [some ⟨118, 6, r.1.network.legs.map cLeg⟩, some ⟨3, 1, r.1.network.off.map cInt⟩, some ⟨81, 11, ([] : List YOrder).map cOrder⟩, some ⟨114, 4, r.1.bookings.map cBooking⟩, some ⟨57, 2, r.1.closed.map cTrip⟩, some ⟨78, 6, r.1.scans.map cScan⟩, some ⟨3, 1, r.1.skip.map cInt⟩] := by
  obtain ⟨h1, h2⟩ := q_some H
  have := ok_o_spec_NewWorld n skip h1
  rw [h2] at this
  exact this
instance (n : YNetwork) (skip : List Int) : CT Tryz.prog (m_q_spec_NewWorld n skip) := ⟨31, [.ag (cNetwork n), .sl (skip.map cInt)], [], fun r => .tu [.ag [.ms 0, .ms 1, vi r.1.network.change, .ms 2, .ms 3, .ms 4, vi r.1.now, .ms 5, .ms 6, vi r.1.made], vb r.2], fun r => [some ⟨118, 6, r.1.network.legs.map cLeg⟩, some ⟨3, 1, r.1.network.off.map cInt⟩, some ⟨81, 11, ([] : List YOrder).map cOrder⟩, some ⟨114, 4, r.1.bookings.map cBooking⟩, some ⟨57, 2, r.1.closed.map cTrip⟩, some ⟨78, 6, r.1.scans.map cScan⟩, some ⟨3, 1, r.1.skip.map cInt⟩], ok_q_spec_NewWorld n skip⟩
end Go.Proofs.YtooikkfldddjfaaGreat

/- The mirror of o_impl_copyNetwork, and that the code does just that (printed by a program of my own). -/
namespace Go.Proofs.YtooikkfldddjfaaGreat
set_option maxRecDepth 10000
open Go.RowKit
set_option linter.unusedVariables false
set_option maxHeartbeats 16000000
def m_o_impl_copyNetwork (n : YNetwork) : Option YNetwork :=
 (chk (appOk ((([] : List YLeg) : List YLeg).length + (n.legs : List YLeg).length) 64)).bind fun _ =>
 (chk (appOk ((([] : List Int) : List Int).length + (n.off : List Int).length) 8)).bind fun _ =>
 some (⟨((([] : List YLeg) : List YLeg) ++ n.legs), ((([] : List Int) : List Int) ++ n.off), n.change⟩ : YNetwork)
theorem ok_o_impl_copyNetwork (n : YNetwork) {r : YNetwork} (H : m_o_impl_copyNetwork n = some r) : CallM Tryz.prog 77 [.ag (cNetwork n)] [] (.ag [.ms 0, .ms 1, vi r.change]) [some ⟨118, 6, r.legs.map cLeg⟩, some ⟨3, 1, r.off.map cInt⟩] := by
  replace H := H0 H
  unfold m_o_impl_copyNetwork at H
  refine callM_of Tryz.func77 rfl Tryz.ntmps77 Tryz.results77 fun Q hQ hQn => ?_
  exact wk2
instance (n : YNetwork) : CT Tryz.prog (m_o_impl_copyNetwork n) := ⟨77, [.ag (cNetwork n)], [], fun r => .ag [.ms 0, .ms 1, vi r.change], fun r => [some ⟨118, 6, r.legs.map cLeg⟩, some ⟨3, 1, r.off.map cInt⟩], ok_o_impl_copyNetwork n⟩
end Go.Proofs.YtooikkfldddjfaaGreat

/- The mirror of o_impl_NewWorld, and that the code does just that (printed by a program of my own). -/
namespace Go.Proofs.YtooikkfldddjfaaGreat
set_option maxRecDepth 10000
open Go.RowKit
set_option linter.unusedVariables false
set_option maxHeartbeats 16000000
def m_o_impl_NewWorld (n : YNetwork) (skip : List Int) : Option (YWorld × Bool) :=
 (m_o_impl_copyNetwork n).bind fun y1 =>
 (chk (appOk ((([] : List Int) : List Int).length + (skip : List Int).length) 8)).bind fun _ =>
 (m_impl_IsWorld (⟨y1, [], [], [], 0, [], ((([] : List Int) : List Int) ++ skip), 0⟩ : YWorld)).bind fun y2 =>
 cond (!y2)
 (some ((⟨(⟨[], [], 0⟩ : YNetwork), [], [], [], 0, [], [], 0⟩ : YWorld), false))
 (some ((⟨y1, [], [], [], 0, [], ((([] : List Int) : List Int) ++ skip), 0⟩ : YWorld), true))
theorem ok_o_impl_NewWorld (n : YNetwork) (skip : List Int) {r : YWorld × Bool} (H : m_o_impl_NewWorld n skip = some r) : CallM Tryz.prog 34 [.ag (cNetwork n), .sl (skip.map cInt)] [] (.tu [.ag [.ms 0, .ms 1, vi r.1.network.change, .v (.slice none 0 0), .v (.slice none 0 0), .v (.slice none 0 0), vi r.1.now, .v (.slice none 0 0), .ms 2, vi r.1.made], vb r.2]) [some ⟨118, 6, r.1.network.legs.map cLeg⟩, some ⟨3, 1, r.1.network.off.map cInt⟩, some ⟨3, 1, r.1.skip.map cInt⟩] := by
  replace H := H0 H
  unfold m_o_impl_NewWorld at H
  refine callM_of Tryz.func34 rfl Tryz.ntmps34 Tryz.results34 fun Q hQ hQn => ?_
  exact wk2
instance (n : YNetwork) (skip : List Int) : CT Tryz.prog (m_o_impl_NewWorld n skip) := ⟨34, [.ag (cNetwork n), .sl (skip.map cInt)], [], fun r => .tu [.ag [.ms 0, .ms 1, vi r.1.network.change, .v (.slice none 0 0), .v (.slice none 0 0), .v (.slice none 0 0), vi r.1.now, .v (.slice none 0 0), .ms 2, vi r.1.made], vb r.2], fun r => [some ⟨118, 6, r.1.network.legs.map cLeg⟩, some ⟨3, 1, r.1.network.off.map cInt⟩, some ⟨3, 1, r.1.skip.map cInt⟩], ok_o_impl_NewWorld n skip⟩
end Go.Proofs.YtooikkfldddjfaaGreat

/- The mirror of o_laws_toNetwork, and that the code does just that (printed by a program of my own). -/
namespace Go.Proofs.YtooikkfldddjfaaGreat
set_option maxRecDepth 10000
open Go.RowKit
set_option linter.unusedVariables false
set_option maxHeartbeats 16000000
def m_o_laws_toNetwork (a : YNetwork) : Option YNetwork :=
 (m_laws_toLegS a.legs).bind fun y1 =>
 (m_laws_toIntS a.off).bind fun y2 =>
 some (⟨y1, y2, a.change⟩ : YNetwork)
theorem ok_o_laws_toNetwork (a : YNetwork) {r : YNetwork} (H : m_o_laws_toNetwork a = some r) : CallM Tryz.prog 32 [.ag (cNetwork a)] [] (.ag [.ms 0, .ms 1, vi r.change]) [some ⟨118, 6, r.legs.map cLeg⟩, some ⟨3, 1, r.off.map cInt⟩] := by
  replace H := H0 H
  unfold m_o_laws_toNetwork at H
  refine callM_of Tryz.func32 rfl Tryz.ntmps32 Tryz.results32 fun Q hQ hQn => ?_
  exact wk2
instance (a : YNetwork) : CT Tryz.prog (m_o_laws_toNetwork a) := ⟨32, [.ag (cNetwork a)], [], fun r => .ag [.ms 0, .ms 1, vi r.change], fun r => [some ⟨118, 6, r.legs.map cLeg⟩, some ⟨3, 1, r.off.map cInt⟩], ok_o_laws_toNetwork a⟩
end Go.Proofs.YtooikkfldddjfaaGreat

/- The mirror of laws_FnExactNewWorld, and that the code does just that (printed by a program of my own). -/
namespace Go.Proofs.YtooikkfldddjfaaGreat
set_option maxRecDepth 10000
open Go.RowKit
set_option linter.unusedVariables false
set_option maxHeartbeats 16000000
def m_laws_FnExactNewWorld (aN : YNetwork) (aSkip : List Int) : Option Bool :=
 cond (decide (1048576 < (aSkip.length : Int)))
 (some true)
 ((m_laws_szNetwork aN 1048576).bind fun y1 =>
 cond (decide (y1 < 0))
 (some true)
 ((m_o_laws_toNetwork aN).bind fun y2 =>
 (m_laws_toIntS aSkip).bind fun y3 =>
 (m_q_spec_NewWorld y2 y3).bind fun y4 =>
 (m_o_laws_toNetwork aN).bind fun y5 =>
 (m_laws_toIntS aSkip).bind fun y6 =>
 (m_o_impl_NewWorld y5 y6).bind fun y7 =>
 (m_laws_eqWorld (⟨y7.1.network, [], [], [], y7.1.now, [], y7.1.skip, y7.1.made⟩ : YWorld) (⟨y4.1.network, ([] : List YOrder), y4.1.bookings, y4.1.closed, y4.1.now, y4.1.scans, y4.1.skip, y4.1.made⟩ : YWorld)).bind fun y8 =>
 cond (!y8)
 (some false)
 (cond (!(y7.2 == y4.2))
 (some false)
 ((m_o_laws_toNetwork aN).bind fun y9 =>
 (m_laws_eqNetwork y5 y9).bind fun y10 =>
 cond (!y10)
 (some false)
 ((m_laws_toIntS aSkip).bind fun y11 =>
 (m_laws_eqIntS y6 y11).bind fun y12 =>
 cond (!y12)
 (some false)
 ((rhoM [12, 13]).bind fun _ =>
 (m_p0_laws_markNetwork y5 1).bind fun y13 =>
 (rhoM [15]).bind fun _ =>
 (m_p0_laws_markIntS y6 y13.1).bind fun y14 =>
 cond (decide (y14.1 < 0))
 (some false)
 ((m_laws_eqWorld (⟨y7.1.network, [], [], [], y7.1.now, [], y7.1.skip, y7.1.made⟩ : YWorld) (⟨y4.1.network, ([] : List YOrder), y4.1.bookings, y4.1.closed, y4.1.now, y4.1.scans, y4.1.skip, y4.1.made⟩ : YWorld)).bind fun y15 =>
 cond (!y15)
 (some false)
 (cond (!(y7.2 == y4.2))
 (some false)
 ((rhoM [16, 17, 18]).bind fun _ =>
 (m_p0_laws_markWorld (⟨y7.1.network, [], [], [], y7.1.now, [], y7.1.skip, y7.1.made⟩ : YWorld) 1).bind fun y16 =>
 (m_laws_heldWorld (⟨(⟨y16.2.network.legs, y16.2.network.off, y7.1.network.change⟩ : YNetwork), [], [], [], y7.1.now, [], y16.2.skip, y7.1.made⟩ : YWorld) 1).bind fun y17 =>
 cond (decide (y17 < 0))
 (some false)
 (cond (!decide (y17 = y16.1))
 (some false)
 ((m_o_laws_toNetwork aN).bind fun y18 =>
 (m_laws_toIntS aSkip).bind fun y19 =>
 (m_o_impl_NewWorld y18 y19).bind fun y20 =>
 (m_laws_eqWorld (⟨y20.1.network, [], [], [], y20.1.now, [], y20.1.skip, y20.1.made⟩ : YWorld) (⟨y4.1.network, ([] : List YOrder), y4.1.bookings, y4.1.closed, y4.1.now, y4.1.scans, y4.1.skip, y4.1.made⟩ : YWorld)).bind fun y21 =>
 cond (!y21)
 (some false)
 (cond (!(y20.2 == y4.2))
 (some false)
 ((m_laws_heldWorld (⟨(⟨y16.2.network.legs, y16.2.network.off, y7.1.network.change⟩ : YNetwork), [], [], [], y7.1.now, [], y16.2.skip, y7.1.made⟩ : YWorld) 1).bind fun y22 =>
 cond (decide (y22 < 0))
 (some false)
 (cond (!decide (y22 = y16.1))
 (some false)
 (some true)))))))))))))))
theorem ok_laws_FnExactNewWorld (aN : YNetwork) (aSkip : List Int) {r : Bool} (H : m_laws_FnExactNewWorld aN aSkip = some r) : CallM Tryz.prog 9 [.ag (cNetwork aN), .sl (aSkip.map cInt)] [] (vb r) [] := by
  replace H := H0 H
  unfold m_laws_FnExactNewWorld at H
  refine callM_of Tryz.func9 rfl Tryz.ntmps9 Tryz.results9 fun Q hQ hQn => ?_
  exact wk2
instance (aN : YNetwork) (aSkip : List Int) : CT Tryz.prog (m_laws_FnExactNewWorld aN aSkip) := ⟨9, [.ag (cNetwork aN), .sl (aSkip.map cInt)], [], fun r => vb r, fun r => [], ok_laws_FnExactNewWorld aN aSkip⟩
end Go.Proofs.YtooikkfldddjfaaGreat

/- The law of NewWorld, in plain values. -/
namespace Go.Proofs.YtooikkfldddjfaaGreat
set_option maxRecDepth 10000
open Go.RowKit
set_option linter.unusedVariables false
set_option linter.unusedSimpArgs false
theorem iter_out {σ ο : Type} {body : σ → Option (σ ⊕ ο)} {s : σ} {o : ο} (h : body s = some (.inr o)) : iterF body NN s = some o := by
  show iterF body (1152921504606846975 + 1) s = some o
  unfold iterF; rw [h]; rfl
theorem app_ok {n : Nat} {b : Nat} (h : n ≤ 1048576) (hb : b ≤ 1024) : appOk (0 + n) b = true := by
  unfold appOk
  refine decide_eq_true ?_
  constructor
  · omega
  · have : (0 + n) * b ≤ 1048576 * 1024 := Nat.mul_le_mul (by omega) hb
    omega
theorem copyNet_o {n : YNetwork} (h : NetFit n) : m_o_impl_copyNetwork n = some n := by
  unfold m_o_impl_copyNetwork
  simp only [List.length_nil, app_ok h.legs (show 64 ≤ 1024 by omega), app_ok h.off (show 8 ≤ 1024 by omega), chk_t, Option.bind_some, List.nil_append]
theorem toNet_o {n : YNetwork} (h : totNetwork n ≤ 1048576) : m_o_laws_toNetwork n = some n := cpy_Network n h
def newW (n : YNetwork) (s : List Int) : YWorld := ⟨n, [], [], [], 0, [], s, 0⟩
theorem newFit {n : YNetwork} {s : List Int} (h : NetFit n) (hs : s.length ≤ 1048576) : WFit (newW n s) := ⟨h, by simp [newW], by simp [newW], by simp [newW], by simp [newW], hs, by simp [newW]⟩
theorem ints_o {s : List Int} (h : s.length ≤ 1048576) : m_spec_l1Ints s = some s := by
  unfold m_spec_l1Ints
  simp only [List.length_nil, app_ok h (show 8 ≤ 1024 by omega), chk_t, Option.bind_some, List.nil_append]
theorem l10Copy_o {n : YNetwork} {s : List Int} (h : NetFit n) (hs : s.length ≤ 1048576) : m_o_spec_l10Copy (newW n s) = some (newW n s) := by
  unfold m_o_spec_l10Copy
  have h0 : ∀ y, iterF (m_o_spec_l10Copy_b0 (newW n s) y) NN (0, ([] : List YOrder)) = some [] := fun y => iter_out (by unfold m_o_spec_l10Copy_b0 newW; rfl)
  have h6 : m_spec_l6Copy [] = some [] := rfl
  simp only [newW] at h0 ⊢
  simp only [List.length_nil, app_ok h.legs (show 64 ≤ 1024 by omega), app_ok (n := 0) (by omega) (show 16 ≤ 1024 by omega), app_ok (n := 0) (by omega) (show 56 ≤ 1024 by omega), chk_t, Option.bind_some, List.nil_append, ints_o h.off, ints_o hs, h0, h6]
def zeroW : YWorld := ⟨⟨[], [], 0⟩, [], [], [], 0, [], [], 0⟩
def newR (n : YNetwork) (s : List Int) : YWorld × Bool := if worldV (newW n s) then (newW n s, true) else (zeroW, false)
theorem specNew_o {n : YNetwork} {s : List Int} (h : NetFit n) (hs : s.length ≤ 1048576) : m_q_spec_NewWorld n s = some (newR n s) := by
  have e : m_o_spec_NewWorld n s = some (newR n s) := by
    unfold m_o_spec_NewWorld newR
    show (m_o_spec_l10Copy (newW n s)).bind _ = _
    rw [l10Copy_o h hs, Option.bind_some, spec_world (newFit h hs), Option.bind_some]
    cases worldV (newW n s) <;> rfl
  unfold m_q_spec_NewWorld
  rw [e, Option.bind_some]
  unfold newR
  cases worldV (newW n s) <;> rfl
theorem implNew_o {n : YNetwork} {s : List Int} (h : NetFit n) (hs : s.length ≤ 1048576) : m_o_impl_NewWorld n s = some (newR n s) := by
  unfold m_o_impl_NewWorld newR
  rw [copyNet_o h, Option.bind_some]
  simp only [List.length_nil, app_ok hs (show 8 ≤ 1024 by omega), chk_t, Option.bind_some, List.nil_append]
  show (m_impl_IsWorld (newW n s)).bind _ = _
  rw [impl_world (newFit h hs), Option.bind_some]
  cases worldV (newW n s) <;> rfl
theorem eqNew {n : YNetwork} {s : List Int} (a b : Int) (h : totNetwork n ≤ 1048576) (hs : s.length ≤ 1048576) : m_laws_eqWorld ⟨n, [], [], [], a, [], s, b⟩ ⟨n, [], [], [], a, [], s, b⟩ = some true := by
  have e0 := eqr_Network n h
  have e1 := eqr_OrderS [] (by simp) (fun y hy => by cases hy)
  have e2 := eqr_BookingS [] (by simp) (fun y hy => by cases hy)
  have e3 := eqr_TripS [] (by simp) (fun y hy => by cases hy)
  have e4 := eqr_ScanS [] (by simp) (fun y hy => by cases hy)
  have e5 := eqr_IntS s hs
  simp [m_laws_eqWorld, e0, e1, e2, e3, e4, e5]
theorem markNet_eq (n : YNetwork) (k : Int) (hn : n.legs.length ≤ 1048576) (ho : n.off.length ≤ 1048576) (h0 : 1 ≤ k) (h1 : k ≤ 900000000) :
    m_p0_laws_markNetwork n k = some (k + 6 * n.legs.length + n.off.length, ⟨mkL k n.legs.length, mkI (k + 6 * n.legs.length) n.off.length, n.change⟩) := by
  unfold m_p0_laws_markNetwork
  simp only [rhoM, Option.bind_some, markLegS_eq n.legs k hn h0 (by omega), markIntS_eq n.off (k + 6 * n.legs.length) ho (by omega) (by omega)]
theorem heldNet_eq (k : Int) (a b : Nat) (c : Int) (hn : a ≤ 1048576) (ho : b ≤ 1048576) (h0 : 1 ≤ k) (h1 : k ≤ 900000000) :
    m_laws_heldNetwork ⟨mkL k a, mkI (k + 6 * a) b, c⟩ k = some (k + 6 * a + b) := by
  unfold m_laws_heldNetwork
  have d1 : decide (k + 6 * (a : Int) < 0) = false := decide_eq_false (by omega)
  have d2 : decide (k + 6 * (a : Int) + b < 0) = false := decide_eq_false (by omega)
  simp only [heldLegS_eq k a hn h0 (by omega), heldIntS_eq (k + 6 * a) b ho (by omega) (by omega), Option.bind_some, d1, d2, cond_false]
theorem mO (k : Int) : m_p0_laws_markOrderS [] k = some k := by unfold m_p0_laws_markOrderS; rw [iter_out (o := ()) rfl]; rfl
theorem mB (k : Int) : m_p0_laws_markBookingS [] k = some k := by unfold m_p0_laws_markBookingS; rw [iter_out (o := ()) rfl]; rfl
theorem mT (k : Int) : m_p0_laws_markTripS [] k = some k := by unfold m_p0_laws_markTripS; rw [iter_out (o := ()) rfl]; rfl
theorem mS (k : Int) : m_p0_laws_markScanS [] k = some k := by unfold m_p0_laws_markScanS; rw [iter_out (o := ()) rfl]; rfl
theorem hO (k : Int) : m_laws_heldOrderS [] k = some k := by unfold m_laws_heldOrderS; rw [iter_out (o := .inl k) rfl]; rfl
theorem hB (k : Int) : m_laws_heldBookingS [] k = some k := by unfold m_laws_heldBookingS; rw [iter_out (o := .inl k) rfl]; rfl
theorem hT (k : Int) : m_laws_heldTripS [] k = some k := by unfold m_laws_heldTripS; rw [iter_out (o := .inl k) rfl]; rfl
theorem hS (k : Int) : m_laws_heldScanS [] k = some k := by unfold m_laws_heldScanS; rw [iter_out (o := .inl k) rfl]; rfl
theorem markHeld (n : YNetwork) (s : List Int) (a b : Int) (hn : n.legs.length ≤ 1048576) (ho : n.off.length ≤ 1048576) (hs : s.length ≤ 1048576) :
    ∃ (z : Int) (y : YWorld), m_p0_laws_markWorld ⟨n, [], [], [], a, [], s, b⟩ 1 = some (z, y) ∧ 0 ≤ z ∧ ∀ c, m_laws_heldWorld ⟨⟨y.network.legs, y.network.off, c⟩, [], [], [], a, [], y.skip, b⟩ 1 = some z := by
  refine ⟨1 + 6 * n.legs.length + n.off.length + s.length, ⟨⟨mkL 1 n.legs.length, mkI (1 + 6 * n.legs.length) n.off.length, n.change⟩, [], [], [], a, [], mkI (1 + 6 * n.legs.length + n.off.length) s.length, b⟩, ?_, ?_, fun c => ?_⟩
  · unfold m_p0_laws_markWorld
    simp only [rhoM, Option.bind_some, markNet_eq n 1 hn ho (by omega) (by omega), mO, mB, mT, mS, markIntS_eq s (1 + 6 * n.legs.length + n.off.length) hs (by omega) (by omega)]
  · omega
  · unfold m_laws_heldWorld
    have d1 : decide ((1 : Int) + 6 * (n.legs.length : Int) + n.off.length < 0) = false := decide_eq_false (by omega)
    have d2 : decide ((1 : Int) + 6 * (n.legs.length : Int) + n.off.length + s.length < 0) = false := decide_eq_false (by omega)
    simp only [heldNet_eq 1 n.legs.length n.off.length c hn ho (by omega) (by omega), hO, hB, hT, hS, heldIntS_eq (1 + 6 * n.legs.length + n.off.length) s.length hs (by omega) (by omega), Option.bind_some, d1, d2, cond_false]
theorem newR_form (n : YNetwork) (s : List Int) : ∃ (n' : YNetwork) (s' : List Int) (b : Bool), newR n s = (newW n' s', b) ∧ (n' = n ∧ s' = s ∨ n' = ⟨[], [], 0⟩ ∧ s' = []) := by
  unfold newR
  cases worldV (newW n s) with
  | true => exact ⟨n, s, true, rfl, .inl ⟨rfl, rfl⟩⟩
  | false => exact ⟨⟨[], [], 0⟩, [], false, rfl, .inr ⟨rfl, rfl⟩⟩
theorem lawFnExactNewWorld (n : YNetwork) (s : List Int) (ok : okNetwork n) (_ : okS okInt s) : CallOk Tryz.prog 9 [.ag (cNetwork n), .sl (s.map cInt)] (vb true) [] := by
  refine ok_laws_FnExactNewWorld n s ?_
  unfold m_laws_FnExactNewWorld
  by_cases hs : 1048576 < (s.length : Int)
  · rw [decide_eq_true hs]; rfl
  · have hs' : s.length ≤ 1048576 := by omega
    rw [decide_eq_false hs, cond_false, sz_Network n (by omega) (by omega) ok, Option.bind_some]
    by_cases h : szTo 1048576 (totNetwork n) < 0
    · rw [decide_eq_true h]; rfl
    · obtain ⟨h1, _⟩ := szTo_nn h (by omega)
      have ht : totNetwork n ≤ 1048576 := by omega
      have hf := netFit_of ht
      obtain ⟨n', s', b, e, hor⟩ := newR_form n s
      have hn' : totNetwork n' ≤ 1048576 ∧ s'.length ≤ 1048576 := by
        rcases hor with ⟨rfl, rfl⟩ | ⟨rfl, rfl⟩
        · exact ⟨ht, hs'⟩
        · exact ⟨by simp [totNetwork, totS], by simp⟩
      have hf' := netFit_of hn'.1
      obtain ⟨z, y, m1, m2, m3⟩ := markHeld n' s' 0 0 hf'.legs hf'.off hn'.2
      have d1 : decide (z < 0) = false := decide_eq_false (by omega)
      have k1 := markNet_eq n 1 hf.legs hf.off (by omega) (by omega)
      have k2 := markIntS_eq s (1 + 6 * n.legs.length + n.off.length) hs' (by have := hf.legs; omega) (by have := hf.legs; have := hf.off; omega)
      have d2 : decide ((1 : Int) + 6 * (n.legs.length : Int) + n.off.length + s.length < 0) = false := decide_eq_false (by omega)
      have m3' := m3 n'.change
      have q := eqNew 0 0 hn'.1 hn'.2
      rw [decide_eq_false h, cond_false]
      simp only [toNet_o ht, cpy_IntS s hs', specNew_o hf hs', implNew_o hf hs', e, newW, Option.bind_some, q, Bool.not_true, cond_false, beq_self_eq_true, eqr_Network n ht, eqr_IntS s hs', rhoM, k1, k2, d2, m1, m3', d1, decide_true]
end Go.Proofs.YtooikkfldddjfaaGreat

/- The statement FnExactNewWorldSaid: for every input that can be read the law FnExactNewWorld returns true and leaves its arguments as_ they were. No further condition. -/
namespace Go.Proofs.YtooikkfldddjfaaGreat
open Go.ChangeShapes Go.WideShapes Go.ChangeAt Go.RowKit Go.Deep
set_option linter.unusedVariables false
namespace fnExactNewWorld
theorem own : ownKnob Tryz.prog.godebug = none := by kernel_rfl
theorem laidOut : laidOutB Tryz.prog = true := by kernel_rfl
set_option maxRecDepth 100000 in
theorem lifted (os : Os) (started : os.Started) (H : Type) (enc : TypeId × Value → H) :
    ReturnsInHanded {} Tryz.checked os 9 .any (Rows.fnExactNewWorldSpec.pre6 enc Tryz.prog Tryz.f9 Rows.fnExactNewWorldRow.domain false) (Rows.fnExactNewWorldSpec.post enc Tryz.prog Tryz.f9 false true false false) := by
  refine returnsInHanded_of_change (C := Tryz.checked) own started (by kernel_rfl) Tryz.func9
    (ChangeSpec.witness6 (enc := enc) (C := Tryz.checked) false ⟨#[], #[.agg #[.slice none 0 0, .slice none 0 0, .int .i64 0], .slice none 0 0], []⟩ 8 (by kernel_rfl) (by kernel_rfl) (by kernel_rfl) (by kernel_rfl)) ?_
  intro W base args ds gs before hval0 hW hcnd _
  have hval : ∀ (j : Nat) t v, Tryz.f9.params[j]? = some t → args[j]? = some v → Value.okWide Tryz.prog W .any base t v := hval0
  have hW' := hW
  obtain ⟨p, q, hA0, hV, rfl, hfz, hnd⟩ := hW
  have hA : DataW.TrodAll enc Tryz.prog W 0 (fun _ => true) true Tryz.f9.params.toList args.toList ds p := hA0
  rw [Tryz.params9] at hA hval
  obtain ⟨v0, vs0, d0, ds0, p0, q0, hargs, rfl, rfl, h0, r0⟩ := trodAll_cons hA
  obtain ⟨v1, vs1, d1, ds1, p1, q1, rfl, rfl, rfl, h1, r1⟩ := trodAll_cons r0
  obtain ⟨rfl, rfl, rfl⟩ := trodAll_nil r1
  obtain rfl : args = #[v0, v1] := by cases args; simp_all
  obtain ⟨rfl, rfl⟩ := trodVars_none hV
  have k0 := h0
  have lt0 : ∀ x ∈ p0, x.block < W.heap.size := by obtain ⟨m, hm⟩ := k0; exact DataW.trod_lt m _ _ _ hm
  obtain ⟨cs0, rfl, hsz0⟩ := okWide_struct Tryz.underlying25 (hval 0 25 v0 rfl rfl)
  obtain ⟨x0, hx0, ok0⟩ : ∃ a : YNetwork, Reads W (cNetwork a) cs0.toList ∧ okNetwork a := by obtain ⟨fuel, hf⟩ := h0; exact dec_Network hf
  have k1 := h1
  have lt1 : ∀ x ∈ p1, x.block < W.heap.size := by obtain ⟨m, hm⟩ := k1; exact DataW.trod_lt m _ _ _ hm
  obtain ⟨A1, n1, c1, rfl⟩ := okWide_slice Tryz.underlying23 (hval 1 23 v1 rfl rfl)
  obtain ⟨x1, hx1, ok1⟩ : ∃ a : List Int, Reads W [.sl (a.map cInt)] [.slice A1 n1 c1] ∧ okS okInt a := by obtain ⟨fuel, hf⟩ := h1; exact decP_slice Tryz.underlying23 (by decide +kernel) dec_Int hf
  clear hA0 hval0
  refine (CallOk.run (lawFnExactNewWorld x0 x1 ok0 ok1) rfl (vs := #[.agg cs0, .slice A1 n1 c1]) (w := W) (fun i p hp => ?_)).mono fun e W' ⟨he, bel⟩ => ?_
  · match i, hp with
    | 0, hp => obtain rfl := Option.some.inj hp; exact ⟨_, rfl, reads_rep hx0⟩
    | 1, hp => obtain rfl := Option.some.inj hp; exact ⟨_, rfl, reads_rep1 hx1⟩
    | n + 2, hp => simp at hp
  subst he
  exact ⟨_, rfl, _, _, _, [], _, [], hW', trodAll_mk1 (shut_bool Tryz.underlying4 _), (trodAll_cons_mk (Below.trod laidOut (by kernel_rfl) (of_decide_eq_true (by kernel_rfl)) k0 bel lt0) (trodAll_cons_mk (Below.trod laidOut (by kernel_rfl) (of_decide_eq_true (by kernel_rfl)) k1 bel lt1) trodAll_mk0)), rfl, bel.frame _, fun h => by cases h⟩
theorem over : Rows.fnExactNewWorldRow.holds Tryz.pinned (OpenSpec.ofChange Rows.fnExactNewWorldSpec) :=
  OpenClaim.holds_of_wide 9 Tryz.f9 rfl rfl rfl rfl rfl rfl rfl ⟨rfl, rfl, rfl, rfl, rfl⟩ rfl rfl rfl rfl rfl (by kernel_rfl) Tryz.func9 (by kernel_rfl)
    (of_decide_eq_true (by kernel_rfl)) (by unfold Func.isWrapper; first | (rw [if_pos (by decide +kernel)]; kernel_rfl) | (rw [if_neg (by decide +kernel)]; exact ⟨rfl, rfl⟩))
    (fun os started H enc _ => lifted os started H enc)
theorem proved : Rows.FnExactNewWorldSaid := over
#print axioms proved
end fnExactNewWorld
end Go.Proofs.YtooikkfldddjfaaGreat
