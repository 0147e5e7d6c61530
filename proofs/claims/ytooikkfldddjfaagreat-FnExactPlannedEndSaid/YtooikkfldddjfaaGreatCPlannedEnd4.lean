/- The statement FnExactPlannedEndSaid: for every input that can be read the law FnExactPlannedEnd returns true and leaves its arguments as they were. No further condition. -/
import Derived.Test.YtooikkfldddjfaaGreatCPlannedEnd3
import Derived.Test.YtooikkfldddjfaaGreatCPlannedEnd2
import Derived.Test.YtooikkfldddjfaaGreatRows
import Derived.OpenShut
/- What a valid world's orders are; what happens next, and when an order's end is planned: the two sides answer alike. -/
namespace Go.Proofs.YtooikkfldddjfaaGreat
set_option maxRecDepth 10000
open Go.RowKit
set_option linter.unusedVariables false
set_option linter.unusedSimpArgs false
set_option linter.unusedSectionVars false
structure LegOk (l : YLeg) : Prop where
  start : 0 ≤ l.start ∧ l.start ≤ 1439
  takes : 1 ≤ l.takes ∧ l.takes ≤ 4320
  room : 0 ≤ l.room ∧ l.room ≤ 1000000
theorem isLeg_ok {l : YLeg} (h : legFit l) (hv : m_spec_IsLeg l = some true) : LegOk l := by
  obtain ⟨_, b1, s1⟩ := isPlace_eq (s := l.from_) h.1
  obtain ⟨_, b2, s2⟩ := isPlace_eq (s := l.to_) h.2
  unfold m_spec_IsLeg at hv
  rw [s1, s2] at hv
  simp only [Option.bind_some, l1In_v] at hv
  cases b1 with
  | false => simp at hv
  | true =>
  cases b2 with
  | false => simp at hv
  | true =>
  simp only [cond_true] at hv
  cases h1 : decide (l.from_ = l.to_) with
  | true => rw [h1] at hv; simp at hv
  | false =>
  rw [h1] at hv
  cases h2 : decide (0 ≤ l.start) && decide (l.start ≤ 1439) with
  | false => rw [h2] at hv; simp at hv
  | true =>
  rw [h2] at hv
  cases h3 : decide (1 ≤ l.takes) && decide (l.takes ≤ 4320) with
  | false => rw [h3] at hv; simp at hv
  | true =>
  rw [h3] at hv
  cases h4 : decide (1 ≤ l.days) && decide (l.days ≤ 127) with
  | false => rw [h4] at hv; simp at hv
  | true =>
  rw [h4] at hv
  cases h5 : decide (0 ≤ l.room) && decide (l.room ≤ 1000000) with
  | false => rw [h5] at hv; simp at hv
  | true =>
  simp only [Bool.and_eq_true, decide_eq_true_iff] at h2 h3 h5
  exact ⟨h2, h3, h5⟩
theorem net_leg {n : YNetwork} (h : NetFit n) (hn : m_spec_IsNetwork n = some true) : ∀ l ∈ n.legs, LegOk l := by
  have e : iterF (m_spec_IsNetwork_b0 n) NN 0 = some (if allI (fun _ l => (m_spec_IsLeg l).getD false) 0 n.legs = true then .inl () else .inr false) := by
    refine iter_fold (A := Unit) (fun _ i => i) _ (fun a _ => a) id (fun a i l hl => ?_) (fun a => ?_) (by have := h.legs; unfold NN; omega) ()
    · have hlt := (List.getElem?_eq_some_iff.1 hl).1
      have hcl := h.legs
      have hg : getI n.legs (i : Int) = some l := by rw [getI_nat]; exact hl
      have hi : w64 ((i : Int) + 1) = ((i + 1 : Nat) : Int) := w64_nat hlt (by omega)
      obtain ⟨_, b, hb⟩ := isLeg_eq (h.leg l (List.mem_of_getElem? hl))
      unfold m_spec_IsNetwork_b0
      simp only [decide_eq_true (show (i : Int) < n.legs.length by omega), cond_true, hg, Option.bind_some, hb, hi, Option.getD_some]
      cases b <;> rfl
    · unfold m_spec_IsNetwork_b0
      simp
  unfold m_spec_IsNetwork at hn
  rw [e] at hn
  by_cases ha : allI (fun _ l => (m_spec_IsLeg l).getD false) 0 n.legs = true
  · intro l hl
    obtain ⟨i, hi, rfl⟩ := List.getElem_of_mem hl
    have := allI_iff.1 ha i _ (List.getElem?_eq_getElem hi)
    obtain ⟨_, b, hb⟩ := isLeg_eq (h.leg _ (List.getElem_mem hi))
    rw [hb] at this
    simp at this
    subst this
    exact isLeg_ok (h.leg _ (List.getElem_mem hi)) hb
  · rw [if_neg ha] at hn
    simp at hn
theorem trip_day {n : YNetwork} {t : YTrip} (ht : tripB n t = true) : 0 ≤ t.day ∧ t.day ≤ 60 := by
  unfold tripB m_spec_l3Runs at ht
  rw [l1In_v, l1In_v] at ht
  simp only [Option.bind_some] at ht
  cases h1 : decide (0 ≤ t.leg) && decide (t.leg ≤ w64 ((n.legs.length : Int) - 1)) with
  | false => rw [h1] at ht; simp at ht
  | true =>
  rw [h1] at ht
  simp only [cond_true] at ht
  cases h2 : decide (0 ≤ t.day) && decide (t.day ≤ 60) with
  | false => rw [h2] at ht; simp at ht
  | true => simpa only [Bool.and_eq_true, decide_eq_true_iff] using h2
/-- When a trip starts and ends. -/
def startV (n : YNetwork) (t : YTrip) : Int := (m_spec_l3Starts n t).getD 0
def endsV (n : YNetwork) (t : YTrip) : Int := (m_spec_l3Ends n t).getD 0
theorem trip_time {n : YNetwork} (h : NetFit n) (hn : m_spec_IsNetwork n = some true) {t : YTrip} (ht : tripB n t = true) :
    m_spec_l3Starts n t = some (startV n t) ∧ m_spec_l3Ends n t = some (endsV n t) ∧ 0 ≤ startV n t ∧ startV n t < endsV n t ∧ endsV n t ≤ 100000 := by
  obtain ⟨y, hy, hm⟩ := tripB_leg h ht
  obtain ⟨d0, d1⟩ := trip_day ht
  have hl := net_leg h hn y hm
  obtain ⟨a0, a1⟩ := hl.start
  obtain ⟨b0, b1⟩ := hl.takes
  have e1 : m_spec_l3Starts n t = some (t.day * 1440 + y.start) := by
    unfold m_spec_l3Starts
    rw [hy]
    simp only [Option.bind_some]
    rw [w64_in (n := t.day * 1440) (by omega), w64_in (by omega)]
  have e2 : m_spec_l3Ends n t = some (t.day * 1440 + y.start + y.takes) := by
    unfold m_spec_l3Ends
    rw [e1, hy]
    simp only [Option.bind_some]
    rw [w64_in (by omega)]
  have s1 : startV n t = t.day * 1440 + y.start := by unfold startV; rw [e1]; rfl
  have s2 : endsV n t = t.day * 1440 + y.start + y.takes := by unfold endsV; rw [e2]; rfl
  refine ⟨by rw [e1, s1], by rw [e2, s2], by omega, by omega, by omega⟩
theorem optb {b c : Bool} (h : some b = some c) : b = c := Option.some.inj h
/-- What a valid order's state says. -/
theorem state_cases {n : YNetwork} {o : YOrder} {now : Int} (h : m_spec_l10State n o now = some true) : (o.state = 1 ∧ ¬ (o.place = o.to_)) ∨ (o.state = 2 ∧ o.gone < o.way.length) ∨ (o.state = 3 ∧ o.gone = o.way.length ∧ 0 < o.gone) := by
  by_cases h1 : o.state = 1
  · refine .inl ⟨h1, fun hp => ?_⟩
    unfold m_spec_l10State at h
    rw [decide_eq_true h1] at h
    cases h0 : decide (0 < o.gone) with
    | false =>
      rw [h0] at h
      simp only [cond_false, cond_true] at h
      cases hq : decide (o.place = o.from_) with
      | false => rw [hq] at h; cases h
      | true =>
        rw [hq, decide_eq_true (show o.from_ = o.to_ from (of_decide_eq_true hq).symm.trans hp)] at h
        cases h
    | true =>
      rw [h0] at h
      simp only [cond_false, cond_true] at h
      cases hg : getI o.way (w64 (o.gone - 1)) with
      | none => rw [hg] at h; cases h
      | some y1 =>
        rw [hg] at h
        simp only [Option.bind_some] at h
        cases hl : getI n.legs y1.leg with
        | none => rw [hl] at h; cases h
        | some y2 =>
          rw [hl] at h
          simp only [Option.bind_some] at h
          cases he : m_spec_l3Ends n y1 with
          | none => rw [he] at h; cases h
          | some v =>
            rw [he] at h
            simp only [Option.bind_some] at h
            cases hc : decide (now < v) with
            | true => rw [hc] at h; cases h
            | false =>
              rw [hc] at h
              simp only [cond_false] at h
              cases hq : decide (o.place = y2.to_) with
              | false => rw [hq] at h; cases h
              | true =>
                rw [hq, decide_eq_true (show y2.to_ = o.to_ from (of_decide_eq_true hq).symm.trans hp)] at h
                cases h
  · by_cases h2 : o.state = 2
    · refine .inr (.inl ⟨h2, ?_⟩)
      rcases Classical.em (o.gone < o.way.length) with hlt | hlt
      · exact hlt
      exfalso
      unfold m_spec_l10State at h
      rw [decide_eq_false h1, decide_eq_true h2, decide_eq_false hlt] at h
      cases h0 : decide (0 < o.gone) with
      | false =>
        rw [h0] at h
        simp only [cond_false, cond_true] at h
        revert h; cases decide (o.place = ⟨#[]⟩) <;> cases decide (o.ended = 0) <;> (intro h; cases h)
      | true =>
        rw [h0] at h
        simp only [cond_false, cond_true] at h
        cases hg : getI o.way (w64 (o.gone - 1)) with
        | none => rw [hg] at h; cases h
        | some y1 =>
          rw [hg] at h
          simp only [Option.bind_some] at h
          cases hl : getI n.legs y1.leg with
          | none => rw [hl] at h; cases h
          | some y2 =>
            rw [hl] at h
            simp only [Option.bind_some] at h
            cases he : m_spec_l3Ends n y1 with
            | none => rw [he] at h; cases h
            | some v =>
              rw [he] at h
              simp only [Option.bind_some] at h
              revert h; cases decide (now < v) <;> cases decide (o.place = ⟨#[]⟩) <;> cases decide (o.ended = 0) <;> (intro h; cases h)
    · by_cases h3 : o.state = 3
      · refine .inr (.inr ⟨h3, ?_⟩)
        rcases Classical.em (o.gone = o.way.length ∧ 0 < o.gone) with hlt | hlt
        · exact hlt
        exfalso
        unfold m_spec_l10State at h
        rw [decide_eq_false h1, decide_eq_false h2, decide_eq_true h3] at h
        cases h0 : decide (0 < o.gone) with
        | false =>
          rw [h0] at h
          simp only [cond_false, cond_true] at h
          revert h; cases decide (o.place = o.to_) <;> cases decide (o.from_ = o.to_) <;> cases decide (o.gone = (o.way.length : Int)) <;> (intro h; cases h)
        | true =>
          have hne : ¬ o.gone = (o.way.length : Int) := fun e => hlt ⟨e, of_decide_eq_true h0⟩
          rw [h0, decide_eq_false hne] at h
          simp only [cond_false, cond_true] at h
          cases hg : getI o.way (w64 (o.gone - 1)) with
          | none => rw [hg] at h; cases h
          | some y1 =>
            rw [hg] at h
            simp only [Option.bind_some] at h
            cases hl : getI n.legs y1.leg with
            | none => rw [hl] at h; cases h
            | some y2 =>
              rw [hl] at h
              simp only [Option.bind_some] at h
              cases he : m_spec_l3Ends n y1 with
              | none => rw [he] at h; cases h
              | some v =>
                rw [he] at h
                simp only [Option.bind_some] at h
                revert h; cases decide (now < v) <;> cases decide (o.place = o.to_) <;> cases decide (y2.to_ = o.to_) <;> (intro h; cases h)
      · exfalso
        unfold m_spec_l10State at h
        rw [decide_eq_false h1, decide_eq_false h2, decide_eq_false h3] at h
        cases h0 : decide (0 < o.gone) with
        | false => rw [h0] at h; cases h
        | true =>
          rw [h0] at h
          simp only [cond_false, cond_true] at h
          cases hg : getI o.way (w64 (o.gone - 1)) with
          | none => rw [hg] at h; cases h
          | some y1 =>
            rw [hg] at h
            simp only [Option.bind_some] at h
            cases hl : getI n.legs y1.leg with
            | none => rw [hl] at h; cases h
            | some y2 =>
              rw [hl] at h
              simp only [Option.bind_some] at h
              cases he : m_spec_l3Ends n y1 with
              | none => rw [he] at h; cases h
              | some v =>
                rw [he] at h
                simp only [Option.bind_some] at h
                revert h; cases decide (now < v) <;> (intro h; cases h)
/-- What a valid world's order is. -/
structure OrderOk (w : YWorld) (i : Nat) (o : YOrder) : Prop where
  gone : 0 ≤ o.gone ∧ o.gone ≤ o.way.length
  trip : ∀ t ∈ o.way, tripB w.network t = true
  way : allI (wayC w ((i + 1 : Nat) : Int) o) 0 o.way = true
  isWay : m_spec_IsWay w.network o.way o.from_ (endV w.network o) (w64 (o.at_ + 1)) = some true
  st : m_spec_l10State w.network o w.now = some true
  cases : (o.state = 1 ∧ ¬ (o.place = o.to_)) ∨ (o.state = 2 ∧ o.gone < o.way.length) ∨ (o.state = 3 ∧ o.gone = o.way.length ∧ 0 < o.gone)
  open_ : ((o.way.drop (comesV o).toNat).any (closedB w.closed)) = false
  fromto : ¬ o.from_ = o.to_
  at_ : 0 ≤ o.at_ ∧ o.at_ ≤ w.now
  due : 0 ≤ o.due ∧ o.due ≤ 200000
theorem order_ok {w : YWorld} (hf : WFit w) {i : Nat} {o : YOrder} (hl : o.way.length ≤ 1048576) (h : orderV w i o = true) : OrderOk w i o := by
  unfold orderV at h
  simp only [Bool.and_eq_true, Bool.not_eq_true', decide_eq_true_iff, decide_eq_false_iff_not] at h
  obtain ⟨⟨⟨⟨⟨⟨⟨⟨⟨⟨⟨h1, h2⟩, h3⟩, h4⟩, h5⟩, h6⟩, h7⟩, h8⟩, h9⟩, h10⟩, h11⟩, h12⟩ := h
  have ht : ∀ t ∈ o.way, tripB w.network t = true := by
    intro t ht
    obtain ⟨j, hj, rfl⟩ := List.getElem_of_mem ht
    have := allI_iff.1 h9 j _ (List.getElem?_eq_getElem hj)
    unfold wayC at this
    simp only [Bool.and_eq_true] at this
    exact this.1.1
  obtain ⟨r, hr⟩ := isWay_some hf.net hl o.from_ (endV w.network o) (w64 (o.at_ + 1))
  obtain ⟨b, hb⟩ := state_some (n := w.network) h8 hl (fun t htt => by obtain ⟨y, hy, _⟩ := tripB_leg hf.net (ht t htt); exact ⟨y, hy⟩) w.now
  rw [hr] at h10
  rw [hb] at h11
  simp only [Option.getD_some] at h10 h11
  subst h10 h11
  exact ⟨h8, ht, h9, hr, hb, state_cases hb, h12, h3, h6, h7⟩
section
variable {w : YWorld} (hf : WFit w) (hv : worldV w = true)
include hf hv
theorem world_ok {i : Nat} {o : YOrder} (ho : w.orders[i]? = some o) : OrderOk w i o := order_ok hf (hf.way o (List.mem_of_getElem? ho)) (world_order hv ho)
theorem world_net : m_spec_IsNetwork w.network = some true := (books_net (world_books hv)).1
theorem way_at {o : YOrder} {i : Nat} (ho : w.orders[i]? = some o) {k : Int} (h0 : 0 ≤ k) (h1 : k < o.way.length) : ∃ t, getI o.way k = some t ∧ tripB w.network t = true := by
  have hlt : k.toNat < o.way.length := by omega
  exact ⟨o.way[k.toNat], by unfold getI; rw [if_pos h0]; exact List.getElem?_eq_getElem hlt, (world_ok hf hv ho).trip _ (List.getElem_mem hlt)⟩
theorem next_eq : m_impl_nextEvent w = (iterF (m_spec_NextEvent_b0 w) NN (0, (-1))).bind (fun o0 => some o0) := by
  have hnet := world_net hf hv
  have hor := hf.orders
  let F : Nat → Int → YOrder → Option (Int ⊕ Int) := fun _ a o =>
    if o.gone = o.way.length then some (.inl a) else (getI o.way o.gone).bind fun t =>
      let v := if o.state = 2 then endsV w.network t else startV w.network t
      some (.inl (if a < 0 ∨ v < a then v else a))
  have e1 : iterF (m_impl_nextEvent_b0 w) NN ((-1), 0) = runL F some 0 w.orders (-1) := by
    refine iter_list (A := Int) (fun a i => (a, i)) F some (fun a i o ho => ?_) (fun a => ?_) (by unfold NN; omega) (-1)
    · have hlt := (List.getElem?_eq_some_iff.1 ho).1
      have hg : getI w.orders (i : Int) = some o := by rw [getI_nat]; exact ho
      have hi : w64 ((i : Int) + 1) = ((i + 1 : Nat) : Int) := w64_nat hlt (by omega)
      have hok := world_ok hf hv ho
      unfold m_impl_nextEvent_b0
      simp only [decide_eq_true (show (i : Int) < w.orders.length by omega), cond_true, hg, Option.bind_some, hi, starts_eq, ends_eq]
      show _ = (F i a o).bind _
      simp only [F]
      by_cases hgl : o.gone < o.way.length
      · obtain ⟨t, htg, htb⟩ := way_at hf hv ho hok.gone.1 hgl
        obtain ⟨t1, t2, t3, t4, t5⟩ := trip_time hf.net hnet htb
        rw [if_neg (show ¬ o.gone = (o.way.length : Int) by omega), htg]
        simp only [Option.bind_some, t1, t2, decide_eq_true hgl]
        rcases hok.cases with ⟨c1, _⟩ | ⟨c1, _⟩ | ⟨c1, c2, _⟩
        · rw [c1]
          simp only [show decide ((1 : Int) = 2) = false from rfl, show decide ((1 : Int) = 1) = true from rfl, cond_true, cond_false, decide_eq_true t3, show ¬ ((1 : Int) = 2) by omega, if_false, selim]
          by_cases ha : a < 0
          · simp [ha]
          · by_cases hb : startV w.network t < a <;> simp [ha, hb]
        · rw [c1]
          simp only [show decide ((2 : Int) = 2) = true from rfl, cond_true, decide_eq_true (show 0 ≤ endsV w.network t by omega), if_true, selim]
          by_cases ha : a < 0
          · simp [ha]
          · by_cases hb : endsV w.network t < a <;> simp [ha, hb]
        · omega
      · have hge := hok.gone.2
        rw [if_pos (show o.gone = (o.way.length : Int) by omega), decide_eq_false hgl]
        rcases hok.cases with ⟨c1, _⟩ | ⟨c1, _⟩ | ⟨c1, c2, _⟩
        · rw [c1]; rfl
        · omega
        · rw [c1]; rfl
    · unfold m_impl_nextEvent_b0
      simp
  have e2 : iterF (m_spec_NextEvent_b0 w) NN (0, (-1)) = runL F some 0 w.orders (-1) := by
    refine iter_list (A := Int) (fun a i => (i, a)) F some (fun a i o ho => ?_) (fun a => ?_) (by unfold NN; omega) (-1)
    · have hlt := (List.getElem?_eq_some_iff.1 ho).1
      have hg : getI w.orders (i : Int) = some o := by rw [getI_nat]; exact ho
      have hi : w64 ((i : Int) + 1) = ((i + 1 : Nat) : Int) := w64_nat hlt (by omega)
      have hok := world_ok hf hv ho
      unfold m_spec_NextEvent_b0
      simp only [decide_eq_true (show (i : Int) < w.orders.length by omega), cond_true, hg, Option.bind_some, hi]
      show _ = (F i a o).bind _
      simp only [F]
      by_cases hgl : o.gone < o.way.length
      · obtain ⟨t, htg, htb⟩ := way_at hf hv ho hok.gone.1 hgl
        obtain ⟨t1, t2, t3, t4, t5⟩ := trip_time hf.net hnet htb
        rw [if_neg (show ¬ o.gone = (o.way.length : Int) by omega), decide_eq_false (show ¬ o.gone = (o.way.length : Int) by omega), htg]
        simp only [Option.bind_some, t1, t2, cond_false]
        by_cases c1 : o.state = 2
        · simp only [decide_eq_true c1, cond_true, if_pos c1, selim]
          by_cases ha : a < 0
          · simp [ha]
          · by_cases hb : endsV w.network t < a <;> simp [ha, hb]
        · simp only [decide_eq_false c1, cond_false, if_neg c1, selim]
          by_cases ha : a < 0
          · simp [ha]
          · by_cases hb : startV w.network t < a <;> simp [ha, hb]
      · have hge := hok.gone.2
        rw [if_pos (show o.gone = (o.way.length : Int) by omega), decide_eq_true (show o.gone = (o.way.length : Int) by omega)]
        rfl
    · unfold m_spec_NextEvent_b0
      simp
  unfold m_impl_nextEvent
  rw [e1, e2]
theorem next_some : ∃ v, m_impl_nextEvent w = some v := by
  rw [next_eq hf hv]
  have hnet := world_net hf hv
  have hor := hf.orders
  obtain ⟨o, ho⟩ : ∃ o, iterF (m_spec_NextEvent_b0 w) NN (0, (-1)) = some o := by
    refine iter_tot (fun k s => ∃ i : Nat, i + k = w.orders.length ∧ s.1 = (i : Int)) ?_ NN w.orders.length _ ⟨0, by omega, rfl⟩ (by unfold NN; omega)
    rintro k ⟨i', a⟩ ⟨i, hi, hs⟩
    simp only at hs
    subst hs
    unfold m_spec_NextEvent_b0
    rcases Nat.lt_or_ge i w.orders.length with hlt | hge
    · have hw := w64_nat hlt (by omega)
      have ho : w.orders[i]? = some w.orders[i] := List.getElem?_eq_getElem hlt
      have hg : getI w.orders (i : Int) = some w.orders[i] := by rw [getI_nat]; exact ho
      have hok := world_ok hf hv ho
      simp only [decide_eq_true (show (i : Int) < w.orders.length by omega), cond_true, hg, Option.bind_some, hw]
      by_cases hgl : w.orders[i].gone < w.orders[i].way.length
      · obtain ⟨t, htg, htb⟩ := way_at hf hv ho hok.gone.1 hgl
        obtain ⟨t1, t2, t3, t4, t5⟩ := trip_time hf.net hnet htb
        simp only [decide_eq_false (show ¬ w.orders[i].gone = (w.orders[i].way.length : Int) by omega), htg, t1, t2, cond_false, Option.bind_some]
        cases decide (w.orders[i].state = 2) <;> cases decide (a < 0) <;> cases decide (endsV w.network t < a) <;> cases decide (startV w.network t < a) <;> exact ⟨_, rfl, fun s' e => by cases e; exact ⟨k - 1, by omega, i + 1, by omega, rfl⟩⟩
      · have hge := hok.gone.2
        simp only [decide_eq_true (show w.orders[i].gone = (w.orders[i].way.length : Int) by omega), cond_true]
        exact ⟨_, rfl, fun s' e => by cases e; exact ⟨k - 1, by omega, i + 1, by omega, rfl⟩⟩
    · simp only [decide_eq_false (show ¬ (i : Int) < w.orders.length by omega), cond_false]
      exact ⟨_, rfl, fun s' e => by cases e⟩
  exact ⟨o, by rw [ho]; rfl⟩
end
theorem nextEvent_eq {w : YWorld} (hf : WFit w) : ∃ v, m_impl_NextEvent w = some v ∧ m_spec_NextEvent w = some v := by
  unfold m_impl_NextEvent m_spec_NextEvent
  rw [impl_world hf, spec_world hf]
  cases hv : worldV w with
  | false => exact ⟨-1, rfl, rfl⟩
  | true =>
    obtain ⟨v, h⟩ := next_some hf hv
    have h2 := next_eq hf hv
    rw [h] at h2
    simp only [Option.bind_some, Bool.not_true, cond_false, h]
    exact ⟨v, rfl, h2.symm⟩
theorem stranded_eq {w : YWorld} (hf : WFit w) (hv : worldV w = true) {i : Nat} {o : YOrder} (ho : w.orders[i]? = some o) : ∃ b, m_impl_isStranded w o = some b ∧ m_spec_l10Stranded w (i : Int) = some b ∧ (b = false → 0 < o.way.length) := by
  have hok := world_ok hf hv ho
  have hl := hf.way o (List.mem_of_getElem? ho)
  obtain ⟨c1, c2, c3⟩ := comes_v hok.gone hl
  have hg : getI w.orders (i : Int) = some o := by rw [getI_nat]; exact ho
  unfold m_impl_isStranded m_spec_l10Stranded
  rw [hg]
  simp only [Option.bind_some]
  rcases hok.cases with ⟨k1, k2⟩ | ⟨k1, k2⟩ | ⟨k1, k2, k3⟩
  · have hcv : comesV o = o.gone := by unfold comesV; rw [k1]; rfl
    have hge := hok.gone
    have hh : m_spec_l10Here w.network o = some o.place := by unfold m_spec_l10Here; rw [k1]; rfl
    rw [here_eq, hh, c1, c3, hcv, if_neg (show ¬ (o.way.length : Int) < o.gone by omega), k1]
    simp only [Option.bind_some]
    by_cases hgl : o.gone = o.way.length
    · refine ⟨true, ?_, ?_, fun h => by cases h⟩
      · rw [decide_eq_true hgl, decide_eq_false k2]; rfl
      · rw [decide_eq_true hgl, decide_eq_false k2]; rfl
    · exact ⟨false, by rw [decide_eq_false hgl]; rfl, by rw [decide_eq_false hgl]; rfl, fun _ => by omega⟩
  · have hcv : comesV o = o.gone + 1 := by unfold comesV; rw [k1]; rfl
    have hge := hok.gone
    obtain ⟨t, htg, htb⟩ := way_at hf hv ho hok.gone.1 k2
    obtain ⟨y, hy, _⟩ := tripB_leg hf.net htb
    have hh : m_spec_l10Here w.network o = some y.to_ := by unfold m_spec_l10Here; rw [k1, htg]; simp [hy]
    rw [here_eq, hh, c1, c3, hcv, if_neg (show ¬ (o.way.length : Int) < o.gone + 1 by omega), k1]
    simp only [Option.bind_some]
    cases decide (o.gone + 1 = (o.way.length : Int)) with
    | true => exact ⟨_, rfl, rfl, fun _ => by omega⟩
    | false => exact ⟨_, rfl, rfl, fun _ => by omega⟩
  · rw [k1]
    exact ⟨false, rfl, rfl, fun _ => by omega⟩
theorem plannedEnd_eq {w : YWorld} (hf : WFit w) (id : Int) : ∃ v, m_impl_PlannedEnd w id = some v ∧ m_spec_PlannedEnd w id = some v := by
  unfold m_impl_PlannedEnd m_spec_PlannedEnd
  rw [impl_world hf, spec_world hf, within_eq, l1In_v]
  cases hv : worldV w with
  | false => exact ⟨-1, rfl, rfl⟩
  | true =>
    simp only [Option.bind_some, Bool.not_true, cond_false]
    cases hr : decide (1 ≤ id) && decide (id ≤ (w.orders.length : Int)) with
    | false => exact ⟨-1, rfl, rfl⟩
    | true =>
      simp only [Bool.and_eq_true, decide_eq_true_iff] at hr
      have hor := hf.orders
      have hw : w64 (id - 1) = ((id - 1).toNat : Int) := by rw [w64_in (by omega)]; omega
      have hlt : (id - 1).toNat < w.orders.length := by omega
      have ho : w.orders[(id - 1).toNat]? = some w.orders[(id - 1).toNat] := List.getElem?_eq_getElem hlt
      have hg : getI w.orders ((id - 1).toNat : Int) = some w.orders[(id - 1).toNat] := by rw [getI_nat]; exact ho
      obtain ⟨b, b1, b2, b3⟩ := stranded_eq hf hv ho
      rw [hw, hg]
      simp only [Option.bind_some, Bool.not_true, cond_false, b1, b2]
      cases b with
      | true => exact ⟨-1, rfl, rfl⟩
      | false =>
        have hpos := b3 rfl
        have hl := hf.way _ (List.mem_of_getElem? ho)
        have hw2 : w64 ((w.orders[(id - 1).toNat].way.length : Int) - 1) = (w.orders[(id - 1).toNat].way.length : Int) - 1 := w64_in (by omega)
        obtain ⟨t, htg, htb⟩ := way_at hf hv ho (k := (w.orders[(id - 1).toNat].way.length : Int) - 1) (by omega) (by omega)
        obtain ⟨t1, t2, t3, t4, t5⟩ := trip_time hf.net (world_net hf hv) htb
        rw [decide_eq_false (show ¬ (w.orders[(id - 1).toNat].way.length : Int) = 0 by omega), hw2, htg, ends_eq]
        simp only [Option.bind_some, t2, cond_false]
        exact ⟨_, rfl, rfl⟩
end Go.Proofs.YtooikkfldddjfaaGreat

/- The mirror of laws.eqLeg, and that the code does just that (printed by a program of my own). -/
namespace Go.Proofs.YtooikkfldddjfaaGreat
set_option maxRecDepth 10000
open Go.RowKit
set_option linter.unusedVariables false
set_option maxHeartbeats 16000000
def m_laws_eqLeg (a : YLeg) (b : YLeg) : Option Bool :=
 cond (!decide (a.from_ = b.from_))
 (some false)
 (cond (!decide (a.to_ = b.to_))
 (some false)
 (cond (!decide (a.start = b.start))
 (some false)
 (cond (!decide (a.takes = b.takes))
 (some false)
 (cond (!decide (a.days = b.days))
 (some false)
 (cond (!decide (a.room = b.room))
 (some false)
 (some true))))))
theorem ok_laws_eqLeg (a : YLeg) (b : YLeg) {r : Bool} (H : m_laws_eqLeg a b = some r) : CallM Tryz.prog 123 [.ag (cLeg a), .ag (cLeg b)] [] (vb r) [] := by
  replace H := H0 H
  unfold m_laws_eqLeg at H
  refine callM_of Tryz.func123 rfl Tryz.ntmps123 Tryz.results123 fun Q hQ hQn => ?_
  exact wk
instance (a : YLeg) (b : YLeg) : CT Tryz.prog (m_laws_eqLeg a b) := ⟨123, [.ag (cLeg a), .ag (cLeg b)], [], fun r => vb r, fun r => [], ok_laws_eqLeg a b⟩
end Go.Proofs.YtooikkfldddjfaaGreat

/- The mirror of laws.toLeg, and that the code does just that (printed by a program of my own). -/
namespace Go.Proofs.YtooikkfldddjfaaGreat
set_option maxRecDepth 10000
open Go.RowKit
set_option linter.unusedVariables false
set_option maxHeartbeats 16000000
def m_laws_toLeg (a : YLeg) : Option YLeg :=
 some a
theorem ok_laws_toLeg (a : YLeg) {r : YLeg} (H : m_laws_toLeg a = some r) : CallM Tryz.prog 122 [.ag (cLeg a)] [] (.ag [vs r.from_, vs r.to_, vi r.start, vi r.takes, vi r.days, vi r.room]) [] := by
  replace H := H0 H
  unfold m_laws_toLeg at H
  refine callM_of Tryz.func122 rfl Tryz.ntmps122 Tryz.results122 fun Q hQ hQn => ?_
  exact wk
instance (a : YLeg) : CT Tryz.prog (m_laws_toLeg a) := ⟨122, [.ag (cLeg a)], [], fun r => .ag [vs r.from_, vs r.to_, vi r.start, vi r.takes, vi r.days, vi r.room], fun r => [], ok_laws_toLeg a⟩
end Go.Proofs.YtooikkfldddjfaaGreat

/- The mirror of laws.szLeg, and that the code does just that (printed by a program of my own). -/
namespace Go.Proofs.YtooikkfldddjfaaGreat
set_option maxRecDepth 10000
open Go.RowKit
set_option linter.unusedVariables false
set_option maxHeartbeats 16000000
def m_laws_szLeg (a : YLeg) (left : Int) : Option Int :=
 cond (decide ((w64 (left - (a.from_.size : Int))) < 0))
 (some (-1))
 (cond (decide ((w64 ((w64 (left - (a.from_.size : Int))) - (a.to_.size : Int))) < 0))
 (some (-1))
 (some (w64 ((w64 (left - (a.from_.size : Int))) - (a.to_.size : Int)))))
theorem ok_laws_szLeg (a : YLeg) (left : Int) {r : Int} (H : m_laws_szLeg a left = some r) : CallM Tryz.prog 119 [.ag (cLeg a), vi left] [] (vi r) [] := by
  replace H := H0 H
  unfold m_laws_szLeg at H
  refine callM_of Tryz.func119 rfl Tryz.ntmps119 Tryz.results119 fun Q hQ hQn => ?_
  exact wk
instance (a : YLeg) (left : Int) : CT Tryz.prog (m_laws_szLeg a left) := ⟨119, [.ag (cLeg a), vi left], [], fun r => vi r, fun r => [], ok_laws_szLeg a left⟩
end Go.Proofs.YtooikkfldddjfaaGreat

/- The mirror of laws.eqLegS, and that the code does just that (printed by a program of my own). -/
namespace Go.Proofs.YtooikkfldddjfaaGreat
set_option maxRecDepth 10000
open Go.RowKit
set_option linter.unusedVariables false
set_option maxHeartbeats 16000000
def m_laws_eqLegS_b0 (a : List YLeg) (b : List YLeg) (s0 : Int) : Option (Int ⊕ (Unit ⊕ Bool)) :=
 cond (decide (s0 < (a.length : Int)))
 ((getI a s0).bind fun y1 =>
 (getI b s0).bind fun y2 =>
 (m_laws_eqLeg y1 y2).bind fun y3 =>
 cond (!y3)
 (some (.inr (.inr false)))
 (some (.inl (w64 (s0 + 1)))))
 (some (.inr (.inl ())))
instance (a : List YLeg) (b : List YLeg) : LoopE (m_laws_eqLegS_b0 a b) := ⟨fun s0 => [.sl (a.map cLeg), .sl (b.map cLeg), .un, .un, .un, vi s0, .un, .un, .un, .un, .un, .un, .un, .un, .un, .un, .un, .un, .un, .un, .un, .un, .un, .un, .un, .un, .un], fun s0 => []⟩
def m_laws_eqLegS (a : List YLeg) (b : List YLeg) : Option Bool :=
 cond (!decide ((a.length : Int) = (b.length : Int)))
 (some false)
 ((iterF (m_laws_eqLegS_b0 a b) NN 0).bind (selim (fun o0 =>
 some true) (fun r => some r)))
theorem ok_laws_eqLegS (a : List YLeg) (b : List YLeg) {r : Bool} (H : m_laws_eqLegS a b = some r) : CallM Tryz.prog 78 [.sl (a.map cLeg), .sl (b.map cLeg)] [] (vb r) [] := by
  replace H := H0 H
  unfold m_laws_eqLegS at H
  refine callM_of Tryz.func78 rfl Tryz.ntmps78 Tryz.results78 fun Q hQ hQn => ?_
  exact wk
instance (a : List YLeg) (b : List YLeg) : CT Tryz.prog (m_laws_eqLegS a b) := ⟨78, [.sl (a.map cLeg), .sl (b.map cLeg)], [], fun r => vb r, fun r => [], ok_laws_eqLegS a b⟩
end Go.Proofs.YtooikkfldddjfaaGreat

/- The mirror of laws.toLegS, and that the code does just that (printed by a program of my own). -/
namespace Go.Proofs.YtooikkfldddjfaaGreat
set_option maxRecDepth 10000
open Go.RowKit
set_option linter.unusedVariables false
set_option maxHeartbeats 16000000
def m_laws_toLegS_b0 (a : List YLeg) (s0 : Int × (List YLeg)) : Option ((Int × (List YLeg)) ⊕ (List YLeg)) :=
 cond (decide (s0.1 < (a.length : Int)))
 ((getI a s0.1).bind fun y1 =>
 (m_laws_toLeg y1).bind fun y2 =>
 (getI s0.2 s0.1).bind fun y3 =>
 some (.inl ((w64 (s0.1 + 1)), (s0.2.set (Int.toNat s0.1) y2))))
 (some (.inr s0.2))
instance (a : List YLeg) : LoopE (m_laws_toLegS_b0 a) := ⟨fun s0 => [.sl (a.map cLeg), .un, .un, .ms 0, vi s0.1, .un, .un, .un, .un, .un, .un, .un, .un, .un, .un, .un, .un, .un, .un, .un, .un, .un, .un], fun s0 => [some ⟨118, 6, s0.2.map cLeg⟩]⟩
def m_laws_toLegS (a : List YLeg) : Option (List YLeg) :=
 (chk (mkOk (a.length : Int) 64)).bind fun _ =>
 (iterF (m_laws_toLegS_b0 a) NN (0, (List.replicate (Int.toNat (a.length : Int)) (⟨⟨#[]⟩, ⟨#[]⟩, 0, 0, 0, 0⟩ : YLeg)))).bind (fun o0 =>
 some o0)
theorem ok_laws_toLegS (a : List YLeg) {r : (List YLeg)} (H : m_laws_toLegS a = some r) : CallM Tryz.prog 76 [.sl (a.map cLeg)] [] (.ms 0) [some ⟨118, 6, r.map cLeg⟩] := by
  replace H := H0 H
  unfold m_laws_toLegS at H
  refine callM_of Tryz.func76 rfl Tryz.ntmps76 Tryz.results76 fun Q hQ hQn => ?_
  exact wk
instance (a : List YLeg) : CT Tryz.prog (m_laws_toLegS a) := ⟨76, [.sl (a.map cLeg)], [], fun r => .ms 0, fun r => [some ⟨118, 6, r.map cLeg⟩], ok_laws_toLegS a⟩
end Go.Proofs.YtooikkfldddjfaaGreat

/- The mirror of laws.szLegS, and that the code does just that (printed by a program of my own). -/
namespace Go.Proofs.YtooikkfldddjfaaGreat
set_option maxRecDepth 10000
open Go.RowKit
set_option linter.unusedVariables false
set_option maxHeartbeats 16000000
def m_laws_szLegS_b0 (a : List YLeg) (s0 : Int × Int) : Option ((Int × Int) ⊕ (Int ⊕ Int)) :=
 cond (decide (s0.2 < (a.length : Int)))
 ((getI a s0.2).bind fun y1 =>
 (m_laws_szLeg y1 s0.1).bind fun y2 =>
 cond (decide (y2 < 0))
 (some (.inr (.inr (-1))))
 (some (.inl (y2, (w64 (s0.2 + 1))))))
 (some (.inr (.inl s0.1)))
instance (a : List YLeg) : LoopE (m_laws_szLegS_b0 a) := ⟨fun s0 => [.sl (a.map cLeg), vi s0.1, .un, .un, .un, vi s0.2, .un, .un, .un, .un, .un, .un, .un, .un, .un, .un, .un, .un, .un, .un, .un, .un, .un, .un, .un, .un, .un], fun s0 => []⟩
def m_laws_szLegS (a : List YLeg) (left : Int) : Option Int :=
 cond (decide ((w64 (left - (a.length : Int))) < 0))
 (some (-1))
 ((iterF (m_laws_szLegS_b0 a) NN ((w64 (left - (a.length : Int))), 0)).bind (selim (fun o0 =>
 some o0) (fun r => some r)))
theorem ok_laws_szLegS (a : List YLeg) (left : Int) {r : Int} (H : m_laws_szLegS a left = some r) : CallM Tryz.prog 74 [.sl (a.map cLeg), vi left] [] (vi r) [] := by
  replace H := H0 H
  unfold m_laws_szLegS at H
  refine callM_of Tryz.func74 rfl Tryz.ntmps74 Tryz.results74 fun Q hQ hQn => ?_
  exact wk
instance (a : List YLeg) (left : Int) : CT Tryz.prog (m_laws_szLegS a left) := ⟨74, [.sl (a.map cLeg), vi left], [], fun r => vi r, fun r => [], ok_laws_szLegS a left⟩
end Go.Proofs.YtooikkfldddjfaaGreat

/- The mirror of laws.eqIntS, and that the code does just that (printed by a program of my own). -/
namespace Go.Proofs.YtooikkfldddjfaaGreat
set_option maxRecDepth 10000
open Go.RowKit
set_option linter.unusedVariables false
set_option maxHeartbeats 16000000
def m_laws_eqIntS_b0 (a : List Int) (b : List Int) (s0 : Int) : Option (Int ⊕ (Unit ⊕ Bool)) :=
 cond (decide (s0 < (a.length : Int)))
 ((getI a s0).bind fun y1 =>
 (getI b s0).bind fun y2 =>
 cond (!decide (y1 = y2))
 (some (.inr (.inr false)))
 (some (.inl (w64 (s0 + 1)))))
 (some (.inr (.inl ())))
instance (a : List Int) (b : List Int) : LoopE (m_laws_eqIntS_b0 a b) := ⟨fun s0 => [.sl (a.map cInt), .sl (b.map cInt), .un, .un, .un, vi s0, .un, .un, .un, .un, .un, .un, .un, .un, .un, .un, .un, .un, .un, .un, .un, .un, .un, .un, .un, .un], fun s0 => []⟩
def m_laws_eqIntS (a : List Int) (b : List Int) : Option Bool :=
 cond (!decide ((a.length : Int) = (b.length : Int)))
 (some false)
 ((iterF (m_laws_eqIntS_b0 a b) NN 0).bind (selim (fun o0 =>
 some true) (fun r => some r)))
theorem ok_laws_eqIntS (a : List Int) (b : List Int) {r : Bool} (H : m_laws_eqIntS a b = some r) : CallM Tryz.prog 21 [.sl (a.map cInt), .sl (b.map cInt)] [] (vb r) [] := by
  replace H := H0 H
  unfold m_laws_eqIntS at H
  refine callM_of Tryz.func21 rfl Tryz.ntmps21 Tryz.results21 fun Q hQ hQn => ?_
  exact wk
instance (a : List Int) (b : List Int) : CT Tryz.prog (m_laws_eqIntS a b) := ⟨21, [.sl (a.map cInt), .sl (b.map cInt)], [], fun r => vb r, fun r => [], ok_laws_eqIntS a b⟩
end Go.Proofs.YtooikkfldddjfaaGreat

/- The mirror of laws.toIntS, and that the code does just that (printed by a program of my own). -/
namespace Go.Proofs.YtooikkfldddjfaaGreat
set_option maxRecDepth 10000
open Go.RowKit
set_option linter.unusedVariables false
set_option maxHeartbeats 16000000
def m_laws_toIntS_b0 (a : List Int) (s0 : Int × (List Int)) : Option ((Int × (List Int)) ⊕ (List Int)) :=
 cond (decide (s0.1 < (a.length : Int)))
 ((getI a s0.1).bind fun y1 =>
 (getI s0.2 s0.1).bind fun y2 =>
 some (.inl ((w64 (s0.1 + 1)), (s0.2.set (Int.toNat s0.1) y1))))
 (some (.inr s0.2))
instance (a : List Int) : LoopE (m_laws_toIntS_b0 a) := ⟨fun s0 => [.sl (a.map cInt), .un, .un, .ms 0, vi s0.1, .un, .un, .un, .un, .un, .un, .un, .un, .un, .un, .un, .un, .un, .un, .un, .un, .un], fun s0 => [some ⟨3, 1, s0.2.map cInt⟩]⟩
def m_laws_toIntS (a : List Int) : Option (List Int) :=
 (chk (mkOk (a.length : Int) 8)).bind fun _ =>
 (iterF (m_laws_toIntS_b0 a) NN (0, (List.replicate (Int.toNat (a.length : Int)) 0))).bind (fun o0 =>
 some o0)
theorem ok_laws_toIntS (a : List Int) {r : (List Int)} (H : m_laws_toIntS a = some r) : CallM Tryz.prog 33 [.sl (a.map cInt)] [] (.ms 0) [some ⟨3, 1, r.map cInt⟩] := by
  replace H := H0 H
  unfold m_laws_toIntS at H
  refine callM_of Tryz.func33 rfl Tryz.ntmps33 Tryz.results33 fun Q hQ hQn => ?_
  exact wk
instance (a : List Int) : CT Tryz.prog (m_laws_toIntS a) := ⟨33, [.sl (a.map cInt)], [], fun r => .ms 0, fun r => [some ⟨3, 1, r.map cInt⟩], ok_laws_toIntS a⟩
end Go.Proofs.YtooikkfldddjfaaGreat

/- The mirror of laws.szIntS, and that the code does just that (printed by a program of my own). -/
namespace Go.Proofs.YtooikkfldddjfaaGreat
set_option maxRecDepth 10000
open Go.RowKit
set_option linter.unusedVariables false
set_option maxHeartbeats 16000000
def m_laws_szIntS (a : List Int) (left : Int) : Option Int :=
 cond (decide ((w64 (left - (a.length : Int))) < 0))
 (some (-1))
 (some (w64 (left - (a.length : Int))))
theorem ok_laws_szIntS (a : List Int) (left : Int) {r : Int} (H : m_laws_szIntS a left = some r) : CallM Tryz.prog 42 [.sl (a.map cInt), vi left] [] (vi r) [] := by
  replace H := H0 H
  unfold m_laws_szIntS at H
  refine callM_of Tryz.func42 rfl Tryz.ntmps42 Tryz.results42 fun Q hQ hQn => ?_
  exact wk
instance (a : List Int) (left : Int) : CT Tryz.prog (m_laws_szIntS a left) := ⟨42, [.sl (a.map cInt), vi left], [], fun r => vi r, fun r => [], ok_laws_szIntS a left⟩
end Go.Proofs.YtooikkfldddjfaaGreat

/- The mirror of laws.eqNetwork, and that the code does just that (printed by a program of my own). -/
namespace Go.Proofs.YtooikkfldddjfaaGreat
set_option maxRecDepth 10000
open Go.RowKit
set_option linter.unusedVariables false
set_option maxHeartbeats 16000000
def m_laws_eqNetwork (a : YNetwork) (b : YNetwork) : Option Bool :=
 (m_laws_eqLegS a.legs b.legs).bind fun y1 =>
 cond (!y1)
 (some false)
 ((m_laws_eqIntS a.off b.off).bind fun y2 =>
 cond (!y2)
 (some false)
 (cond (!decide (a.change = b.change))
 (some false)
 (some true)))
theorem ok_laws_eqNetwork (a : YNetwork) (b : YNetwork) {r : Bool} (H : m_laws_eqNetwork a b = some r) : CallM Tryz.prog 35 [.ag (cNetwork a), .ag (cNetwork b)] [] (vb r) [] := by
  replace H := H0 H
  unfold m_laws_eqNetwork at H
  refine callM_of Tryz.func35 rfl Tryz.ntmps35 Tryz.results35 fun Q hQ hQn => ?_
  exact wk
instance (a : YNetwork) (b : YNetwork) : CT Tryz.prog (m_laws_eqNetwork a b) := ⟨35, [.ag (cNetwork a), .ag (cNetwork b)], [], fun r => vb r, fun r => [], ok_laws_eqNetwork a b⟩
end Go.Proofs.YtooikkfldddjfaaGreat

/- The mirror of laws.toNetwork, and that the code does just that (printed by a program of my own). -/
namespace Go.Proofs.YtooikkfldddjfaaGreat
set_option maxRecDepth 10000
open Go.RowKit
set_option linter.unusedVariables false
set_option maxHeartbeats 16000000
def m_laws_toNetwork (a : YNetwork) : Option YNetwork :=
 (m_laws_toLegS a.legs).bind fun y1 =>
 (m_laws_toIntS a.off).bind fun y2 =>
 some (⟨y1, y2, a.change⟩ : YNetwork)
theorem ok_laws_toNetwork (a : YNetwork) {r : YNetwork} (H : m_laws_toNetwork a = some r) : CallM Tryz.prog 32 [.ag (cNetwork a)] [] (.ag [.sl (r.legs.map cLeg), .sl (r.off.map cInt), vi r.change]) [] := by
  replace H := H0 H
  unfold m_laws_toNetwork at H
  refine callM_of Tryz.func32 rfl Tryz.ntmps32 Tryz.results32 fun Q hQ hQn => ?_
  exact wk
instance (a : YNetwork) : CT Tryz.prog (m_laws_toNetwork a) := ⟨32, [.ag (cNetwork a)], [], fun r => .ag [.sl (r.legs.map cLeg), .sl (r.off.map cInt), vi r.change], fun r => [], ok_laws_toNetwork a⟩
end Go.Proofs.YtooikkfldddjfaaGreat

/- The mirror of laws.szNetwork, and that the code does just that (printed by a program of my own). -/
namespace Go.Proofs.YtooikkfldddjfaaGreat
set_option maxRecDepth 10000
open Go.RowKit
set_option linter.unusedVariables false
set_option maxHeartbeats 16000000
def m_laws_szNetwork (a : YNetwork) (left : Int) : Option Int :=
 (m_laws_szLegS a.legs left).bind fun y1 =>
 cond (decide (y1 < 0))
 (some (-1))
 ((m_laws_szIntS a.off y1).bind fun y2 =>
 cond (decide (y2 < 0))
 (some (-1))
 (some y2))
theorem ok_laws_szNetwork (a : YNetwork) (left : Int) {r : Int} (H : m_laws_szNetwork a left = some r) : CallM Tryz.prog 30 [.ag (cNetwork a), vi left] [] (vi r) [] := by
  replace H := H0 H
  unfold m_laws_szNetwork at H
  refine callM_of Tryz.func30 rfl Tryz.ntmps30 Tryz.results30 fun Q hQ hQn => ?_
  exact wk
instance (a : YNetwork) (left : Int) : CT Tryz.prog (m_laws_szNetwork a left) := ⟨30, [.ag (cNetwork a), vi left], [], fun r => vi r, fun r => [], ok_laws_szNetwork a left⟩
end Go.Proofs.YtooikkfldddjfaaGreat

/- The mirror of laws.eqTrip, and that the code does just that (printed by a program of my own). -/
namespace Go.Proofs.YtooikkfldddjfaaGreat
set_option maxRecDepth 10000
open Go.RowKit
set_option linter.unusedVariables false
set_option maxHeartbeats 16000000
def m_laws_eqTrip (a : YTrip) (b : YTrip) : Option Bool :=
 cond (!decide (a.leg = b.leg))
 (some false)
 (cond (!decide (a.day = b.day))
 (some false)
 (some true))
theorem ok_laws_eqTrip (a : YTrip) (b : YTrip) {r : Bool} (H : m_laws_eqTrip a b = some r) : CallM Tryz.prog 114 [.ag (cTrip a), .ag (cTrip b)] [] (vb r) [] := by
  replace H := H0 H
  unfold m_laws_eqTrip at H
  refine callM_of Tryz.func114 rfl Tryz.ntmps114 Tryz.results114 fun Q hQ hQn => ?_
  exact wk
instance (a : YTrip) (b : YTrip) : CT Tryz.prog (m_laws_eqTrip a b) := ⟨114, [.ag (cTrip a), .ag (cTrip b)], [], fun r => vb r, fun r => [], ok_laws_eqTrip a b⟩
end Go.Proofs.YtooikkfldddjfaaGreat

/- The mirror of laws.toTrip, and that the code does just that (printed by a program of my own). -/
namespace Go.Proofs.YtooikkfldddjfaaGreat
set_option maxRecDepth 10000
open Go.RowKit
set_option linter.unusedVariables false
set_option maxHeartbeats 16000000
def m_laws_toTrip (a : YTrip) : Option YTrip :=
 some a
theorem ok_laws_toTrip (a : YTrip) {r : YTrip} (H : m_laws_toTrip a = some r) : CallM Tryz.prog 28 [.ag (cTrip a)] [] (.ag [vi r.leg, vi r.day]) [] := by
  replace H := H0 H
  unfold m_laws_toTrip at H
  refine callM_of Tryz.func28 rfl Tryz.ntmps28 Tryz.results28 fun Q hQ hQn => ?_
  exact wk
instance (a : YTrip) : CT Tryz.prog (m_laws_toTrip a) := ⟨28, [.ag (cTrip a)], [], fun r => .ag [vi r.leg, vi r.day], fun r => [], ok_laws_toTrip a⟩
end Go.Proofs.YtooikkfldddjfaaGreat

/- The mirror of laws.eqTripS, and that the code does just that (printed by a program of my own). -/
namespace Go.Proofs.YtooikkfldddjfaaGreat
set_option maxRecDepth 10000
open Go.RowKit
set_option linter.unusedVariables false
set_option maxHeartbeats 16000000
def m_laws_eqTripS_b0 (a : List YTrip) (b : List YTrip) (s0 : Int) : Option (Int ⊕ (Unit ⊕ Bool)) :=
 cond (decide (s0 < (a.length : Int)))
 ((getI a s0).bind fun y1 =>
 (getI b s0).bind fun y2 =>
 (m_laws_eqTrip y1 y2).bind fun y3 =>
 cond (!y3)
 (some (.inr (.inr false)))
 (some (.inl (w64 (s0 + 1)))))
 (some (.inr (.inl ())))
instance (a : List YTrip) (b : List YTrip) : LoopE (m_laws_eqTripS_b0 a b) := ⟨fun s0 => [.sl (a.map cTrip), .sl (b.map cTrip), .un, .un, .un, vi s0, .un, .un, .un, .un, .un, .un, .un, .un, .un, .un, .un, .un, .un, .un, .un, .un, .un, .un, .un, .un, .un], fun s0 => []⟩
def m_laws_eqTripS (a : List YTrip) (b : List YTrip) : Option Bool :=
 cond (!decide ((a.length : Int) = (b.length : Int)))
 (some false)
 ((iterF (m_laws_eqTripS_b0 a b) NN 0).bind (selim (fun o0 =>
 some true) (fun r => some r)))
theorem ok_laws_eqTripS (a : List YTrip) (b : List YTrip) {r : Bool} (H : m_laws_eqTripS a b = some r) : CallM Tryz.prog 62 [.sl (a.map cTrip), .sl (b.map cTrip)] [] (vb r) [] := by
  replace H := H0 H
  unfold m_laws_eqTripS at H
  refine callM_of Tryz.func62 rfl Tryz.ntmps62 Tryz.results62 fun Q hQ hQn => ?_
  exact wk
instance (a : List YTrip) (b : List YTrip) : CT Tryz.prog (m_laws_eqTripS a b) := ⟨62, [.sl (a.map cTrip), .sl (b.map cTrip)], [], fun r => vb r, fun r => [], ok_laws_eqTripS a b⟩
end Go.Proofs.YtooikkfldddjfaaGreat

/- The mirror of laws.toTripS, and that the code does just that (printed by a program of my own). -/
namespace Go.Proofs.YtooikkfldddjfaaGreat
set_option maxRecDepth 10000
open Go.RowKit
set_option linter.unusedVariables false
set_option maxHeartbeats 16000000
def m_laws_toTripS_b0 (a : List YTrip) (s0 : Int × (List YTrip)) : Option ((Int × (List YTrip)) ⊕ (List YTrip)) :=
 cond (decide (s0.1 < (a.length : Int)))
 ((getI a s0.1).bind fun y1 =>
 (m_laws_toTrip y1).bind fun y2 =>
 (getI s0.2 s0.1).bind fun y3 =>
 some (.inl ((w64 (s0.1 + 1)), (s0.2.set (Int.toNat s0.1) y2))))
 (some (.inr s0.2))
instance (a : List YTrip) : LoopE (m_laws_toTripS_b0 a) := ⟨fun s0 => [.sl (a.map cTrip), .un, .un, .ms 0, vi s0.1, .un, .un, .un, .un, .un, .un, .un, .un, .un, .un, .un, .un, .un, .un, .un, .un, .un, .un], fun s0 => [some ⟨57, 2, s0.2.map cTrip⟩]⟩
def m_laws_toTripS (a : List YTrip) : Option (List YTrip) :=
 (chk (mkOk (a.length : Int) 16)).bind fun _ =>
 (iterF (m_laws_toTripS_b0 a) NN (0, (List.replicate (Int.toNat (a.length : Int)) (⟨0, 0⟩ : YTrip)))).bind (fun o0 =>
 some o0)
theorem ok_laws_toTripS (a : List YTrip) {r : (List YTrip)} (H : m_laws_toTripS a = some r) : CallM Tryz.prog 51 [.sl (a.map cTrip)] [] (.ms 0) [some ⟨57, 2, r.map cTrip⟩] := by
  replace H := H0 H
  unfold m_laws_toTripS at H
  refine callM_of Tryz.func51 rfl Tryz.ntmps51 Tryz.results51 fun Q hQ hQn => ?_
  exact wk
instance (a : List YTrip) : CT Tryz.prog (m_laws_toTripS a) := ⟨51, [.sl (a.map cTrip)], [], fun r => .ms 0, fun r => [some ⟨57, 2, r.map cTrip⟩], ok_laws_toTripS a⟩
end Go.Proofs.YtooikkfldddjfaaGreat

/- The mirror of laws.szTripS, and that the code does just that (printed by a program of my own). -/
namespace Go.Proofs.YtooikkfldddjfaaGreat
set_option maxRecDepth 10000
open Go.RowKit
set_option linter.unusedVariables false
set_option maxHeartbeats 16000000
def m_laws_szTripS (a : List YTrip) (left : Int) : Option Int :=
 cond (decide ((w64 (left - (a.length : Int))) < 0))
 (some (-1))
 (some (w64 (left - (a.length : Int))))
theorem ok_laws_szTripS (a : List YTrip) (left : Int) {r : Int} (H : m_laws_szTripS a left = some r) : CallM Tryz.prog 40 [.sl (a.map cTrip), vi left] [] (vi r) [] := by
  replace H := H0 H
  unfold m_laws_szTripS at H
  refine callM_of Tryz.func40 rfl Tryz.ntmps40 Tryz.results40 fun Q hQ hQn => ?_
  exact wk
instance (a : List YTrip) (left : Int) : CT Tryz.prog (m_laws_szTripS a left) := ⟨40, [.sl (a.map cTrip), vi left], [], fun r => vi r, fun r => [], ok_laws_szTripS a left⟩
end Go.Proofs.YtooikkfldddjfaaGreat

/- The mirror of laws.eqOrder, and that the code does just that (printed by a program of my own). -/
namespace Go.Proofs.YtooikkfldddjfaaGreat
set_option maxRecDepth 10000
open Go.RowKit
set_option linter.unusedVariables false
set_option maxHeartbeats 16000000
def m_laws_eqOrder (a : YOrder) (b : YOrder) : Option Bool :=
 cond (!decide (a.from_ = b.from_))
 (some false)
 (cond (!decide (a.to_ = b.to_))
 (some false)
 (cond (!decide (a.service = b.service))
 (some false)
 (cond (!decide (a.weight = b.weight))
 (some false)
 (cond (!decide (a.at_ = b.at_))
 (some false)
 (cond (!decide (a.due = b.due))
 (some false)
 ((m_laws_eqTripS a.way b.way).bind fun y1 =>
 cond (!y1)
 (some false)
 (cond (!decide (a.gone = b.gone))
 (some false)
 (cond (!decide (a.state = b.state))
 (some false)
 (cond (!decide (a.place = b.place))
 (some false)
 (cond (!decide (a.ended = b.ended))
 (some false)
 (some true)))))))))))
theorem ok_laws_eqOrder (a : YOrder) (b : YOrder) {r : Bool} (H : m_laws_eqOrder a b = some r) : CallM Tryz.prog 112 [.ag (cOrder a), .ag (cOrder b)] [] (vb r) [] := by
  replace H := H0 H
  unfold m_laws_eqOrder at H
  refine callM_of Tryz.func112 rfl Tryz.ntmps112 Tryz.results112 fun Q hQ hQn => ?_
  exact wk
instance (a : YOrder) (b : YOrder) : CT Tryz.prog (m_laws_eqOrder a b) := ⟨112, [.ag (cOrder a), .ag (cOrder b)], [], fun r => vb r, fun r => [], ok_laws_eqOrder a b⟩
end Go.Proofs.YtooikkfldddjfaaGreat

/- The mirror of laws.toOrder, and that the code does just that (printed by a program of my own). -/
namespace Go.Proofs.YtooikkfldddjfaaGreat
set_option maxRecDepth 10000
open Go.RowKit
set_option linter.unusedVariables false
set_option maxHeartbeats 16000000
def m_laws_toOrder (a : YOrder) : Option YOrder :=
 (m_laws_toTripS a.way).bind fun y1 =>
 some (⟨a.from_, a.to_, a.service, a.weight, a.at_, a.due, y1, a.gone, a.state, a.place, a.ended⟩ : YOrder)
theorem ok_laws_toOrder (a : YOrder) {r : YOrder} (H : m_laws_toOrder a = some r) : CallM Tryz.prog 98 [.ag (cOrder a)] [] (.ag [vs r.from_, vs r.to_, vi r.service, vi r.weight, vi r.at_, vi r.due, .sl (r.way.map cTrip), vi r.gone, vi r.state, vs r.place, vi r.ended]) [] := by
  replace H := H0 H
  unfold m_laws_toOrder at H
  refine callM_of Tryz.func98 rfl Tryz.ntmps98 Tryz.results98 fun Q hQ hQn => ?_
  exact wk
instance (a : YOrder) : CT Tryz.prog (m_laws_toOrder a) := ⟨98, [.ag (cOrder a)], [], fun r => .ag [vs r.from_, vs r.to_, vi r.service, vi r.weight, vi r.at_, vi r.due, .sl (r.way.map cTrip), vi r.gone, vi r.state, vs r.place, vi r.ended], fun r => [], ok_laws_toOrder a⟩
end Go.Proofs.YtooikkfldddjfaaGreat

/- The mirror of laws.szOrder, and that the code does just that (printed by a program of my own). -/
namespace Go.Proofs.YtooikkfldddjfaaGreat
set_option maxRecDepth 10000
open Go.RowKit
set_option linter.unusedVariables false
set_option maxHeartbeats 16000000
def m_laws_szOrder (a : YOrder) (left : Int) : Option Int :=
 cond (decide ((w64 (left - (a.from_.size : Int))) < 0))
 (some (-1))
 (cond (decide ((w64 ((w64 (left - (a.from_.size : Int))) - (a.to_.size : Int))) < 0))
 (some (-1))
 ((m_laws_szTripS a.way (w64 ((w64 (left - (a.from_.size : Int))) - (a.to_.size : Int)))).bind fun y1 =>
 cond (decide (y1 < 0))
 (some (-1))
 (cond (decide ((w64 (y1 - (a.place.size : Int))) < 0))
 (some (-1))
 (some (w64 (y1 - (a.place.size : Int)))))))
theorem ok_laws_szOrder (a : YOrder) (left : Int) {r : Int} (H : m_laws_szOrder a left = some r) : CallM Tryz.prog 85 [.ag (cOrder a), vi left] [] (vi r) [] := by
  replace H := H0 H
  unfold m_laws_szOrder at H
  refine callM_of Tryz.func85 rfl Tryz.ntmps85 Tryz.results85 fun Q hQ hQn => ?_
  exact wk
instance (a : YOrder) (left : Int) : CT Tryz.prog (m_laws_szOrder a left) := ⟨85, [.ag (cOrder a), vi left], [], fun r => vi r, fun r => [], ok_laws_szOrder a left⟩
end Go.Proofs.YtooikkfldddjfaaGreat

/- The mirror of laws.eqOrderS, and that the code does just that (printed by a program of my own). -/
namespace Go.Proofs.YtooikkfldddjfaaGreat
set_option maxRecDepth 10000
open Go.RowKit
set_option linter.unusedVariables false
set_option maxHeartbeats 16000000
def m_laws_eqOrderS_b0 (a : List YOrder) (b : List YOrder) (s0 : Int) : Option (Int ⊕ (Unit ⊕ Bool)) :=
 cond (decide (s0 < (a.length : Int)))
 ((getI a s0).bind fun y1 =>
 (getI b s0).bind fun y2 =>
 (m_laws_eqOrder y1 y2).bind fun y3 =>
 cond (!y3)
 (some (.inr (.inr false)))
 (some (.inl (w64 (s0 + 1)))))
 (some (.inr (.inl ())))
instance (a : List YOrder) (b : List YOrder) : LoopE (m_laws_eqOrderS_b0 a b) := ⟨fun s0 => [.sl (a.map cOrder), .sl (b.map cOrder), .un, .un, .un, vi s0, .un, .un, .un, .un, .un, .un, .un, .un, .un, .un, .un, .un, .un, .un, .un, .un, .un, .un, .un, .un, .un], fun s0 => []⟩
def m_laws_eqOrderS (a : List YOrder) (b : List YOrder) : Option Bool :=
 cond (!decide ((a.length : Int) = (b.length : Int)))
 (some false)
 ((iterF (m_laws_eqOrderS_b0 a b) NN 0).bind (selim (fun o0 =>
 some true) (fun r => some r)))
theorem ok_laws_eqOrderS (a : List YOrder) (b : List YOrder) {r : Bool} (H : m_laws_eqOrderS a b = some r) : CallM Tryz.prog 60 [.sl (a.map cOrder), .sl (b.map cOrder)] [] (vb r) [] := by
  replace H := H0 H
  unfold m_laws_eqOrderS at H
  refine callM_of Tryz.func60 rfl Tryz.ntmps60 Tryz.results60 fun Q hQ hQn => ?_
  exact wk
instance (a : List YOrder) (b : List YOrder) : CT Tryz.prog (m_laws_eqOrderS a b) := ⟨60, [.sl (a.map cOrder), .sl (b.map cOrder)], [], fun r => vb r, fun r => [], ok_laws_eqOrderS a b⟩
end Go.Proofs.YtooikkfldddjfaaGreat

/- The mirror of laws.toOrderS, and that the code does just that (printed by a program of my own). -/
namespace Go.Proofs.YtooikkfldddjfaaGreat
set_option maxRecDepth 10000
open Go.RowKit
set_option linter.unusedVariables false
set_option maxHeartbeats 16000000
def m_laws_toOrderS_b0 (a : List YOrder) (s0 : Int × (List YOrder)) : Option ((Int × (List YOrder)) ⊕ (List YOrder)) :=
 cond (decide (s0.1 < (a.length : Int)))
 ((getI a s0.1).bind fun y1 =>
 (m_laws_toOrder y1).bind fun y2 =>
 (getI s0.2 s0.1).bind fun y3 =>
 some (.inl ((w64 (s0.1 + 1)), (s0.2.set (Int.toNat s0.1) y2))))
 (some (.inr s0.2))
instance (a : List YOrder) : LoopE (m_laws_toOrderS_b0 a) := ⟨fun s0 => [.sl (a.map cOrder), .un, .un, .ms 0, vi s0.1, .un, .un, .un, .un, .un, .un, .un, .un, .un, .un, .un, .un, .un, .un, .un, .un, .un, .un], fun s0 => [some ⟨81, 11, s0.2.map cOrder⟩]⟩
def m_laws_toOrderS (a : List YOrder) : Option (List YOrder) :=
 (chk (mkOk (a.length : Int) 128)).bind fun _ =>
 (iterF (m_laws_toOrderS_b0 a) NN (0, (List.replicate (Int.toNat (a.length : Int)) (⟨⟨#[]⟩, ⟨#[]⟩, 0, 0, 0, 0, [], 0, 0, ⟨#[]⟩, 0⟩ : YOrder)))).bind (fun o0 =>
 some o0)
theorem ok_laws_toOrderS (a : List YOrder) {r : (List YOrder)} (H : m_laws_toOrderS a = some r) : CallM Tryz.prog 49 [.sl (a.map cOrder)] [] (.ms 0) [some ⟨81, 11, r.map cOrder⟩] := by
  replace H := H0 H
  unfold m_laws_toOrderS at H
  refine callM_of Tryz.func49 rfl Tryz.ntmps49 Tryz.results49 fun Q hQ hQn => ?_
  exact wk
instance (a : List YOrder) : CT Tryz.prog (m_laws_toOrderS a) := ⟨49, [.sl (a.map cOrder)], [], fun r => .ms 0, fun r => [some ⟨81, 11, r.map cOrder⟩], ok_laws_toOrderS a⟩
end Go.Proofs.YtooikkfldddjfaaGreat

/- The mirror of laws.szOrderS, and that the code does just that (printed by a program of my own). -/
namespace Go.Proofs.YtooikkfldddjfaaGreat
set_option maxRecDepth 10000
open Go.RowKit
set_option linter.unusedVariables false
set_option maxHeartbeats 16000000
def m_laws_szOrderS_b0 (a : List YOrder) (s0 : Int × Int) : Option ((Int × Int) ⊕ (Int ⊕ Int)) :=
 cond (decide (s0.2 < (a.length : Int)))
 ((getI a s0.2).bind fun y1 =>
 (m_laws_szOrder y1 s0.1).bind fun y2 =>
 cond (decide (y2 < 0))
 (some (.inr (.inr (-1))))
 (some (.inl (y2, (w64 (s0.2 + 1))))))
 (some (.inr (.inl s0.1)))
instance (a : List YOrder) : LoopE (m_laws_szOrderS_b0 a) := ⟨fun s0 => [.sl (a.map cOrder), vi s0.1, .un, .un, .un, vi s0.2, .un, .un, .un, .un, .un, .un, .un, .un, .un, .un, .un, .un, .un, .un, .un, .un, .un, .un, .un, .un, .un], fun s0 => []⟩
def m_laws_szOrderS (a : List YOrder) (left : Int) : Option Int :=
 cond (decide ((w64 (left - (a.length : Int))) < 0))
 (some (-1))
 ((iterF (m_laws_szOrderS_b0 a) NN ((w64 (left - (a.length : Int))), 0)).bind (selim (fun o0 =>
 some o0) (fun r => some r)))
theorem ok_laws_szOrderS (a : List YOrder) (left : Int) {r : Int} (H : m_laws_szOrderS a left = some r) : CallM Tryz.prog 38 [.sl (a.map cOrder), vi left] [] (vi r) [] := by
  replace H := H0 H
  unfold m_laws_szOrderS at H
  refine callM_of Tryz.func38 rfl Tryz.ntmps38 Tryz.results38 fun Q hQ hQn => ?_
  exact wk
instance (a : List YOrder) (left : Int) : CT Tryz.prog (m_laws_szOrderS a left) := ⟨38, [.sl (a.map cOrder), vi left], [], fun r => vi r, fun r => [], ok_laws_szOrderS a left⟩
end Go.Proofs.YtooikkfldddjfaaGreat

/- The mirror of laws.eqBooking, and that the code does just that (printed by a program of my own). -/
namespace Go.Proofs.YtooikkfldddjfaaGreat
set_option maxRecDepth 10000
open Go.RowKit
set_option linter.unusedVariables false
set_option maxHeartbeats 16000000
def m_laws_eqBooking (a : YBooking) (b : YBooking) : Option Bool :=
 cond (!decide (a.thing = b.thing))
 (some false)
 ((m_laws_eqTrip a.trip b.trip).bind fun y1 =>
 cond (!y1)
 (some false)
 (cond (!decide (a.weight = b.weight))
 (some false)
 (some true)))
theorem ok_laws_eqBooking (a : YBooking) (b : YBooking) {r : Bool} (H : m_laws_eqBooking a b = some r) : CallM Tryz.prog 113 [.ag (cBooking a), .ag (cBooking b)] [] (vb r) [] := by
  replace H := H0 H
  unfold m_laws_eqBooking at H
  refine callM_of Tryz.func113 rfl Tryz.ntmps113 Tryz.results113 fun Q hQ hQn => ?_
  exact wk
instance (a : YBooking) (b : YBooking) : CT Tryz.prog (m_laws_eqBooking a b) := ⟨113, [.ag (cBooking a), .ag (cBooking b)], [], fun r => vb r, fun r => [], ok_laws_eqBooking a b⟩
end Go.Proofs.YtooikkfldddjfaaGreat

/- The mirror of laws.toBooking, and that the code does just that (printed by a program of my own). -/
namespace Go.Proofs.YtooikkfldddjfaaGreat
set_option maxRecDepth 10000
open Go.RowKit
set_option linter.unusedVariables false
set_option maxHeartbeats 16000000
def m_laws_toBooking (a : YBooking) : Option YBooking :=
 (m_laws_toTrip a.trip).bind fun y1 =>
 some (⟨a.thing, y1, a.weight⟩ : YBooking)
theorem ok_laws_toBooking (a : YBooking) {r : YBooking} (H : m_laws_toBooking a = some r) : CallM Tryz.prog 99 [.ag (cBooking a)] [] (.ag [vi r.thing, vi r.trip.leg, vi r.trip.day, vi r.weight]) [] := by
  replace H := H0 H
  unfold m_laws_toBooking at H
  refine callM_of Tryz.func99 rfl Tryz.ntmps99 Tryz.results99 fun Q hQ hQn => ?_
  exact wk
instance (a : YBooking) : CT Tryz.prog (m_laws_toBooking a) := ⟨99, [.ag (cBooking a)], [], fun r => .ag [vi r.thing, vi r.trip.leg, vi r.trip.day, vi r.weight], fun r => [], ok_laws_toBooking a⟩
end Go.Proofs.YtooikkfldddjfaaGreat

/- The mirror of laws.eqBookingS, and that the code does just that (printed by a program of my own). -/
namespace Go.Proofs.YtooikkfldddjfaaGreat
set_option maxRecDepth 10000
open Go.RowKit
set_option linter.unusedVariables false
set_option maxHeartbeats 16000000
def m_laws_eqBookingS_b0 (a : List YBooking) (b : List YBooking) (s0 : Int) : Option (Int ⊕ (Unit ⊕ Bool)) :=
 cond (decide (s0 < (a.length : Int)))
 ((getI a s0).bind fun y1 =>
 (getI b s0).bind fun y2 =>
 (m_laws_eqBooking y1 y2).bind fun y3 =>
 cond (!y3)
 (some (.inr (.inr false)))
 (some (.inl (w64 (s0 + 1)))))
 (some (.inr (.inl ())))
instance (a : List YBooking) (b : List YBooking) : LoopE (m_laws_eqBookingS_b0 a b) := ⟨fun s0 => [.sl (a.map cBooking), .sl (b.map cBooking), .un, .un, .un, vi s0, .un, .un, .un, .un, .un, .un, .un, .un, .un, .un, .un, .un, .un, .un, .un, .un, .un, .un, .un, .un, .un], fun s0 => []⟩
def m_laws_eqBookingS (a : List YBooking) (b : List YBooking) : Option Bool :=
 cond (!decide ((a.length : Int) = (b.length : Int)))
 (some false)
 ((iterF (m_laws_eqBookingS_b0 a b) NN 0).bind (selim (fun o0 =>
 some true) (fun r => some r)))
theorem ok_laws_eqBookingS (a : List YBooking) (b : List YBooking) {r : Bool} (H : m_laws_eqBookingS a b = some r) : CallM Tryz.prog 61 [.sl (a.map cBooking), .sl (b.map cBooking)] [] (vb r) [] := by
  replace H := H0 H
  unfold m_laws_eqBookingS at H
  refine callM_of Tryz.func61 rfl Tryz.ntmps61 Tryz.results61 fun Q hQ hQn => ?_
  exact wk
instance (a : List YBooking) (b : List YBooking) : CT Tryz.prog (m_laws_eqBookingS a b) := ⟨61, [.sl (a.map cBooking), .sl (b.map cBooking)], [], fun r => vb r, fun r => [], ok_laws_eqBookingS a b⟩
end Go.Proofs.YtooikkfldddjfaaGreat

/- The mirror of laws.toBookingS, and that the code does just that (printed by a program of my own). -/
namespace Go.Proofs.YtooikkfldddjfaaGreat
set_option maxRecDepth 10000
open Go.RowKit
set_option linter.unusedVariables false
set_option maxHeartbeats 16000000
def m_laws_toBookingS_b0 (a : List YBooking) (s0 : Int × (List YBooking)) : Option ((Int × (List YBooking)) ⊕ (List YBooking)) :=
 cond (decide (s0.1 < (a.length : Int)))
 ((getI a s0.1).bind fun y1 =>
 (m_laws_toBooking y1).bind fun y2 =>
 (getI s0.2 s0.1).bind fun y3 =>
 some (.inl ((w64 (s0.1 + 1)), (s0.2.set (Int.toNat s0.1) y2))))
 (some (.inr s0.2))
instance (a : List YBooking) : LoopE (m_laws_toBookingS_b0 a) := ⟨fun s0 => [.sl (a.map cBooking), .un, .un, .ms 0, vi s0.1, .un, .un, .un, .un, .un, .un, .un, .un, .un, .un, .un, .un, .un, .un, .un, .un, .un, .un], fun s0 => [some ⟨114, 4, s0.2.map cBooking⟩]⟩
def m_laws_toBookingS (a : List YBooking) : Option (List YBooking) :=
 (chk (mkOk (a.length : Int) 32)).bind fun _ =>
 (iterF (m_laws_toBookingS_b0 a) NN (0, (List.replicate (Int.toNat (a.length : Int)) (⟨0, (⟨0, 0⟩ : YTrip), 0⟩ : YBooking)))).bind (fun o0 =>
 some o0)
theorem ok_laws_toBookingS (a : List YBooking) {r : (List YBooking)} (H : m_laws_toBookingS a = some r) : CallM Tryz.prog 50 [.sl (a.map cBooking)] [] (.ms 0) [some ⟨114, 4, r.map cBooking⟩] := by
  replace H := H0 H
  unfold m_laws_toBookingS at H
  refine callM_of Tryz.func50 rfl Tryz.ntmps50 Tryz.results50 fun Q hQ hQn => ?_
  exact wk
instance (a : List YBooking) : CT Tryz.prog (m_laws_toBookingS a) := ⟨50, [.sl (a.map cBooking)], [], fun r => .ms 0, fun r => [some ⟨114, 4, r.map cBooking⟩], ok_laws_toBookingS a⟩
end Go.Proofs.YtooikkfldddjfaaGreat

/- The mirror of laws.szBookingS, and that the code does just that (printed by a program of my own). -/
namespace Go.Proofs.YtooikkfldddjfaaGreat
set_option maxRecDepth 10000
open Go.RowKit
set_option linter.unusedVariables false
set_option maxHeartbeats 16000000
def m_laws_szBookingS (a : List YBooking) (left : Int) : Option Int :=
 cond (decide ((w64 (left - (a.length : Int))) < 0))
 (some (-1))
 (some (w64 (left - (a.length : Int))))
theorem ok_laws_szBookingS (a : List YBooking) (left : Int) {r : Int} (H : m_laws_szBookingS a left = some r) : CallM Tryz.prog 39 [.sl (a.map cBooking), vi left] [] (vi r) [] := by
  replace H := H0 H
  unfold m_laws_szBookingS at H
  refine callM_of Tryz.func39 rfl Tryz.ntmps39 Tryz.results39 fun Q hQ hQn => ?_
  exact wk
instance (a : List YBooking) (left : Int) : CT Tryz.prog (m_laws_szBookingS a left) := ⟨39, [.sl (a.map cBooking), vi left], [], fun r => vi r, fun r => [], ok_laws_szBookingS a left⟩
end Go.Proofs.YtooikkfldddjfaaGreat

/- The mirror of laws.eqScan, and that the code does just that (printed by a program of my own). -/
namespace Go.Proofs.YtooikkfldddjfaaGreat
set_option maxRecDepth 10000
open Go.RowKit
set_option linter.unusedVariables false
set_option maxHeartbeats 16000000
def m_laws_eqScan (a : YScan) (b : YScan) : Option Bool :=
 cond (!decide (a.thing = b.thing))
 (some false)
 (cond (!decide (a.at_ = b.at_))
 (some false)
 (cond (!decide (a.kind = b.kind))
 (some false)
 (cond (!decide (a.place = b.place))
 (some false)
 ((m_laws_eqTrip a.trip b.trip).bind fun y1 =>
 cond (!y1)
 (some false)
 (some true)))))
theorem ok_laws_eqScan (a : YScan) (b : YScan) {r : Bool} (H : m_laws_eqScan a b = some r) : CallM Tryz.prog 115 [.ag (cScan a), .ag (cScan b)] [] (vb r) [] := by
  replace H := H0 H
  unfold m_laws_eqScan at H
  refine callM_of Tryz.func115 rfl Tryz.ntmps115 Tryz.results115 fun Q hQ hQn => ?_
  exact wk
instance (a : YScan) (b : YScan) : CT Tryz.prog (m_laws_eqScan a b) := ⟨115, [.ag (cScan a), .ag (cScan b)], [], fun r => vb r, fun r => [], ok_laws_eqScan a b⟩
end Go.Proofs.YtooikkfldddjfaaGreat

/- The mirror of laws.toScan, and that the code does just that (printed by a program of my own). -/
namespace Go.Proofs.YtooikkfldddjfaaGreat
set_option maxRecDepth 10000
open Go.RowKit
set_option linter.unusedVariables false
set_option maxHeartbeats 16000000
def m_laws_toScan (a : YScan) : Option YScan :=
 (m_laws_toTrip a.trip).bind fun y1 =>
 some (⟨a.thing, a.at_, a.kind, a.place, y1⟩ : YScan)
theorem ok_laws_toScan (a : YScan) {r : YScan} (H : m_laws_toScan a = some r) : CallM Tryz.prog 100 [.ag (cScan a)] [] (.ag [vi r.thing, vi r.at_, vi r.kind, vs r.place, vi r.trip.leg, vi r.trip.day]) [] := by
  replace H := H0 H
  unfold m_laws_toScan at H
  refine callM_of Tryz.func100 rfl Tryz.ntmps100 Tryz.results100 fun Q hQ hQn => ?_
  exact wk
instance (a : YScan) : CT Tryz.prog (m_laws_toScan a) := ⟨100, [.ag (cScan a)], [], fun r => .ag [vi r.thing, vi r.at_, vi r.kind, vs r.place, vi r.trip.leg, vi r.trip.day], fun r => [], ok_laws_toScan a⟩
end Go.Proofs.YtooikkfldddjfaaGreat

/- The mirror of laws.szScan, and that the code does just that (printed by a program of my own). -/
namespace Go.Proofs.YtooikkfldddjfaaGreat
set_option maxRecDepth 10000
open Go.RowKit
set_option linter.unusedVariables false
set_option maxHeartbeats 16000000
def m_laws_szScan (a : YScan) (left : Int) : Option Int :=
 cond (decide ((w64 (left - (a.place.size : Int))) < 0))
 (some (-1))
 (some (w64 (left - (a.place.size : Int))))
theorem ok_laws_szScan (a : YScan) (left : Int) {r : Int} (H : m_laws_szScan a left = some r) : CallM Tryz.prog 86 [.ag (cScan a), vi left] [] (vi r) [] := by
  replace H := H0 H
  unfold m_laws_szScan at H
  refine callM_of Tryz.func86 rfl Tryz.ntmps86 Tryz.results86 fun Q hQ hQn => ?_
  exact wk
instance (a : YScan) (left : Int) : CT Tryz.prog (m_laws_szScan a left) := ⟨86, [.ag (cScan a), vi left], [], fun r => vi r, fun r => [], ok_laws_szScan a left⟩
end Go.Proofs.YtooikkfldddjfaaGreat

/- The mirror of laws.eqScanS, and that the code does just that (printed by a program of my own). -/
namespace Go.Proofs.YtooikkfldddjfaaGreat
set_option maxRecDepth 10000
open Go.RowKit
set_option linter.unusedVariables false
set_option maxHeartbeats 16000000
def m_laws_eqScanS_b0 (a : List YScan) (b : List YScan) (s0 : Int) : Option (Int ⊕ (Unit ⊕ Bool)) :=
 cond (decide (s0 < (a.length : Int)))
 ((getI a s0).bind fun y1 =>
 (getI b s0).bind fun y2 =>
 (m_laws_eqScan y1 y2).bind fun y3 =>
 cond (!y3)
 (some (.inr (.inr false)))
 (some (.inl (w64 (s0 + 1)))))
 (some (.inr (.inl ())))
instance (a : List YScan) (b : List YScan) : LoopE (m_laws_eqScanS_b0 a b) := ⟨fun s0 => [.sl (a.map cScan), .sl (b.map cScan), .un, .un, .un, vi s0, .un, .un, .un, .un, .un, .un, .un, .un, .un, .un, .un, .un, .un, .un, .un, .un, .un, .un, .un, .un, .un], fun s0 => []⟩
def m_laws_eqScanS (a : List YScan) (b : List YScan) : Option Bool :=
 cond (!decide ((a.length : Int) = (b.length : Int)))
 (some false)
 ((iterF (m_laws_eqScanS_b0 a b) NN 0).bind (selim (fun o0 =>
 some true) (fun r => some r)))
theorem ok_laws_eqScanS (a : List YScan) (b : List YScan) {r : Bool} (H : m_laws_eqScanS a b = some r) : CallM Tryz.prog 63 [.sl (a.map cScan), .sl (b.map cScan)] [] (vb r) [] := by
  replace H := H0 H
  unfold m_laws_eqScanS at H
  refine callM_of Tryz.func63 rfl Tryz.ntmps63 Tryz.results63 fun Q hQ hQn => ?_
  exact wk
instance (a : List YScan) (b : List YScan) : CT Tryz.prog (m_laws_eqScanS a b) := ⟨63, [.sl (a.map cScan), .sl (b.map cScan)], [], fun r => vb r, fun r => [], ok_laws_eqScanS a b⟩
end Go.Proofs.YtooikkfldddjfaaGreat

/- The mirror of laws.toScanS, and that the code does just that (printed by a program of my own). -/
namespace Go.Proofs.YtooikkfldddjfaaGreat
set_option maxRecDepth 10000
open Go.RowKit
set_option linter.unusedVariables false
set_option maxHeartbeats 16000000
def m_laws_toScanS_b0 (a : List YScan) (s0 : Int × (List YScan)) : Option ((Int × (List YScan)) ⊕ (List YScan)) :=
 cond (decide (s0.1 < (a.length : Int)))
 ((getI a s0.1).bind fun y1 =>
 (m_laws_toScan y1).bind fun y2 =>
 (getI s0.2 s0.1).bind fun y3 =>
 some (.inl ((w64 (s0.1 + 1)), (s0.2.set (Int.toNat s0.1) y2))))
 (some (.inr s0.2))
instance (a : List YScan) : LoopE (m_laws_toScanS_b0 a) := ⟨fun s0 => [.sl (a.map cScan), .un, .un, .ms 0, vi s0.1, .un, .un, .un, .un, .un, .un, .un, .un, .un, .un, .un, .un, .un, .un, .un, .un, .un, .un], fun s0 => [some ⟨78, 6, s0.2.map cScan⟩]⟩
def m_laws_toScanS (a : List YScan) : Option (List YScan) :=
 (chk (mkOk (a.length : Int) 56)).bind fun _ =>
 (iterF (m_laws_toScanS_b0 a) NN (0, (List.replicate (Int.toNat (a.length : Int)) (⟨0, 0, 0, ⟨#[]⟩, (⟨0, 0⟩ : YTrip)⟩ : YScan)))).bind (fun o0 =>
 some o0)
theorem ok_laws_toScanS (a : List YScan) {r : (List YScan)} (H : m_laws_toScanS a = some r) : CallM Tryz.prog 52 [.sl (a.map cScan)] [] (.ms 0) [some ⟨78, 6, r.map cScan⟩] := by
  replace H := H0 H
  unfold m_laws_toScanS at H
  refine callM_of Tryz.func52 rfl Tryz.ntmps52 Tryz.results52 fun Q hQ hQn => ?_
  exact wk
instance (a : List YScan) : CT Tryz.prog (m_laws_toScanS a) := ⟨52, [.sl (a.map cScan)], [], fun r => .ms 0, fun r => [some ⟨78, 6, r.map cScan⟩], ok_laws_toScanS a⟩
end Go.Proofs.YtooikkfldddjfaaGreat

/- The mirror of laws.szScanS, and that the code does just that (printed by a program of my own). -/
namespace Go.Proofs.YtooikkfldddjfaaGreat
set_option maxRecDepth 10000
open Go.RowKit
set_option linter.unusedVariables false
set_option maxHeartbeats 16000000
def m_laws_szScanS_b0 (a : List YScan) (s0 : Int × Int) : Option ((Int × Int) ⊕ (Int ⊕ Int)) :=
 cond (decide (s0.2 < (a.length : Int)))
 ((getI a s0.2).bind fun y1 =>
 (m_laws_szScan y1 s0.1).bind fun y2 =>
 cond (decide (y2 < 0))
 (some (.inr (.inr (-1))))
 (some (.inl (y2, (w64 (s0.2 + 1))))))
 (some (.inr (.inl s0.1)))
instance (a : List YScan) : LoopE (m_laws_szScanS_b0 a) := ⟨fun s0 => [.sl (a.map cScan), vi s0.1, .un, .un, .un, vi s0.2, .un, .un, .un, .un, .un, .un, .un, .un, .un, .un, .un, .un, .un, .un, .un, .un, .un, .un, .un, .un, .un], fun s0 => []⟩
def m_laws_szScanS (a : List YScan) (left : Int) : Option Int :=
 cond (decide ((w64 (left - (a.length : Int))) < 0))
 (some (-1))
 ((iterF (m_laws_szScanS_b0 a) NN ((w64 (left - (a.length : Int))), 0)).bind (selim (fun o0 =>
 some o0) (fun r => some r)))
theorem ok_laws_szScanS (a : List YScan) (left : Int) {r : Int} (H : m_laws_szScanS a left = some r) : CallM Tryz.prog 41 [.sl (a.map cScan), vi left] [] (vi r) [] := by
  replace H := H0 H
  unfold m_laws_szScanS at H
  refine callM_of Tryz.func41 rfl Tryz.ntmps41 Tryz.results41 fun Q hQ hQn => ?_
  exact wk
instance (a : List YScan) (left : Int) : CT Tryz.prog (m_laws_szScanS a left) := ⟨41, [.sl (a.map cScan), vi left], [], fun r => vi r, fun r => [], ok_laws_szScanS a left⟩
end Go.Proofs.YtooikkfldddjfaaGreat

/- The mirror of laws.eqWorld, and that the code does just that (printed by a program of my own). -/
namespace Go.Proofs.YtooikkfldddjfaaGreat
set_option maxRecDepth 10000
open Go.RowKit
set_option linter.unusedVariables false
set_option maxHeartbeats 16000000
def m_laws_eqWorld (a : YWorld) (b : YWorld) : Option Bool :=
 (m_laws_eqNetwork a.network b.network).bind fun y1 =>
 cond (!y1)
 (some false)
 ((m_laws_eqOrderS a.orders b.orders).bind fun y2 =>
 cond (!y2)
 (some false)
 ((m_laws_eqBookingS a.bookings b.bookings).bind fun y3 =>
 cond (!y3)
 (some false)
 ((m_laws_eqTripS a.closed b.closed).bind fun y4 =>
 cond (!y4)
 (some false)
 (cond (!decide (a.now = b.now))
 (some false)
 ((m_laws_eqScanS a.scans b.scans).bind fun y5 =>
 cond (!y5)
 (some false)
 ((m_laws_eqIntS a.skip b.skip).bind fun y6 =>
 cond (!y6)
 (some false)
 (cond (!decide (a.made = b.made))
 (some false)
 (some true))))))))
theorem ok_laws_eqWorld (a : YWorld) (b : YWorld) {r : Bool} (H : m_laws_eqWorld a b = some r) : CallM Tryz.prog 14 [.ag (cWorld a), .ag (cWorld b)] [] (vb r) [] := by
  replace H := H0 H
  unfold m_laws_eqWorld at H
  refine callM_of Tryz.func14 rfl Tryz.ntmps14 Tryz.results14 fun Q hQ hQn => ?_
  exact wk
instance (a : YWorld) (b : YWorld) : CT Tryz.prog (m_laws_eqWorld a b) := ⟨14, [.ag (cWorld a), .ag (cWorld b)], [], fun r => vb r, fun r => [], ok_laws_eqWorld a b⟩
end Go.Proofs.YtooikkfldddjfaaGreat

/- The mirror of laws.toWorld, and that the code does just that (printed by a program of my own). -/
namespace Go.Proofs.YtooikkfldddjfaaGreat
set_option maxRecDepth 10000
open Go.RowKit
set_option linter.unusedVariables false
set_option maxHeartbeats 16000000
def m_laws_toWorld (a : YWorld) : Option YWorld :=
 (m_laws_toNetwork a.network).bind fun y1 =>
 (m_laws_toOrderS a.orders).bind fun y2 =>
 (m_laws_toBookingS a.bookings).bind fun y3 =>
 (m_laws_toTripS a.closed).bind fun y4 =>
 (m_laws_toScanS a.scans).bind fun y5 =>
 (m_laws_toIntS a.skip).bind fun y6 =>
 some (⟨y1, y2, y3, y4, a.now, y5, y6, a.made⟩ : YWorld)
theorem ok_laws_toWorld (a : YWorld) {r : YWorld} (H : m_laws_toWorld a = some r) : CallM Tryz.prog 12 [.ag (cWorld a)] [] (.ag [.sl (r.network.legs.map cLeg), .sl (r.network.off.map cInt), vi r.network.change, .sl (r.orders.map cOrder), .sl (r.bookings.map cBooking), .sl (r.closed.map cTrip), vi r.now, .sl (r.scans.map cScan), .sl (r.skip.map cInt), vi r.made]) [] := by
  replace H := H0 H
  unfold m_laws_toWorld at H
  refine callM_of Tryz.func12 rfl Tryz.ntmps12 Tryz.results12 fun Q hQ hQn => ?_
  exact wk
instance (a : YWorld) : CT Tryz.prog (m_laws_toWorld a) := ⟨12, [.ag (cWorld a)], [], fun r => .ag [.sl (r.network.legs.map cLeg), .sl (r.network.off.map cInt), vi r.network.change, .sl (r.orders.map cOrder), .sl (r.bookings.map cBooking), .sl (r.closed.map cTrip), vi r.now, .sl (r.scans.map cScan), .sl (r.skip.map cInt), vi r.made], fun r => [], ok_laws_toWorld a⟩
end Go.Proofs.YtooikkfldddjfaaGreat

/- The mirror of laws.szWorld, and that the code does just that (printed by a program of my own). -/
namespace Go.Proofs.YtooikkfldddjfaaGreat
set_option maxRecDepth 10000
open Go.RowKit
set_option linter.unusedVariables false
set_option maxHeartbeats 16000000
def m_laws_szWorld (a : YWorld) (left : Int) : Option Int :=
 (m_laws_szNetwork a.network left).bind fun y1 =>
 cond (decide (y1 < 0))
 (some (-1))
 ((m_laws_szOrderS a.orders y1).bind fun y2 =>
 cond (decide (y2 < 0))
 (some (-1))
 ((m_laws_szBookingS a.bookings y2).bind fun y3 =>
 cond (decide (y3 < 0))
 (some (-1))
 ((m_laws_szTripS a.closed y3).bind fun y4 =>
 cond (decide (y4 < 0))
 (some (-1))
 ((m_laws_szScanS a.scans y4).bind fun y5 =>
 cond (decide (y5 < 0))
 (some (-1))
 ((m_laws_szIntS a.skip y5).bind fun y6 =>
 cond (decide (y6 < 0))
 (some (-1))
 (some y6))))))
theorem ok_laws_szWorld (a : YWorld) (left : Int) {r : Int} (H : m_laws_szWorld a left = some r) : CallM Tryz.prog 10 [.ag (cWorld a), vi left] [] (vi r) [] := by
  replace H := H0 H
  unfold m_laws_szWorld at H
  refine callM_of Tryz.func10 rfl Tryz.ntmps10 Tryz.results10 fun Q hQ hQn => ?_
  exact wk
instance (a : YWorld) (left : Int) : CT Tryz.prog (m_laws_szWorld a left) := ⟨10, [.ag (cWorld a), vi left], [], fun r => vi r, fun r => [], ok_laws_szWorld a left⟩
end Go.Proofs.YtooikkfldddjfaaGreat

/- What the mirrors of the laws' own functions answer (printed by wip/genplain.py). -/
namespace Go.Proofs.YtooikkfldddjfaaGreat
set_option maxRecDepth 10000
open Go.RowKit
set_option linter.unusedVariables false
set_option linter.unusedSimpArgs false
theorem mkOk_of {n : Nat} {b : Int} (h : n ≤ 1048576) (hb : 0 ≤ b) (hb2 : b ≤ 134217728) : mkOk (n : Int) b = true := by
  refine decide_eq_true ⟨by omega, by omega, ?_⟩
  have : b * (n : Int) ≤ 134217728 * 1048576 := Int.mul_le_mul hb2 (by omega) (by omega) (by omega)
  omega
theorem totS_len {α : Type} (f : α → Nat) (xs : List α) : xs.length ≤ totS f xs := by unfold totS; omega
theorem totS_mem {α : Type} (f : α → Nat) {xs : List α} {y : α} (h : y ∈ xs) : f y ≤ totS f xs := by
  have : f y ≤ (xs.map f).sum := by
    induction xs with
    | nil => cases h
    | cons x xs ih =>
      simp only [List.map_cons, List.sum_cons]
      rcases List.mem_cons.1 h with rfl | h
      · omega
      · have := ih h; omega
  unfold totS; omega
theorem iter_sz {α : Type} {xs : List α} {f : α → Nat} {body : Int × Int → Option ((Int × Int) ⊕ (Int ⊕ Int))}
    (h1 : ∀ (i : Nat) (l : Int) x, xs[i]? = some x → 0 ≤ l → l ≤ 1048576 → body (l, (i : Int)) = some (if l < f x then .inr (.inr (-1)) else .inl (l - f x, ((i + 1 : Nat) : Int))))
    (h2 : ∀ l, body (l, (xs.length : Int)) = some (.inr (.inl l))) (hN : xs.length < NN) {l : Int} (hl : 0 ≤ l) (hl2 : l ≤ 1048576) :
    iterF body NN (l, 0) = some (if l < ((xs.map f).sum : Nat) then .inr (-1) else .inl (l - ((xs.map f).sum : Nat))) := by
  have key : ∀ (ys : List α) (i N : Nat) (l : Int), xs.drop i = ys → i ≤ xs.length → ys.length < N → 0 ≤ l → l ≤ 1048576 → iterF body N (l, (i : Int)) = some (if l < ((ys.map f).sum : Nat) then .inr (-1) else .inl (l - ((ys.map f).sum : Nat))) := by
    intro ys
    induction ys with
    | nil =>
      intro i N l hd hi hN h0 h1'
      cases N with
      | zero => omega
      | succ N =>
        have : i = xs.length := by have := congrArg List.length hd; simp at this; omega
        subst this
        simp only [iterF, h2]
        show some (Sum.inl l) = _
        rw [if_neg (by simp; omega)]; simp
    | cons y ys ih =>
      intro i N l hd hi hN h0 h1'
      cases N with
      | zero => simp at hN
      | succ N =>
        have hy : xs[i]? = some y := by
          have := congrArg (fun l => l[0]?) hd
          simpa using this
        have hlt : i < xs.length := (List.getElem?_eq_some_iff.1 hy).1
        have hd' : xs.drop (i + 1) = ys := by
          have := congrArg (List.drop 1) hd
          simpa [List.drop_drop] using this
        simp only [iterF, h1 i l y hy h0 h1', List.map_cons, List.sum_cons]
        by_cases hc : l < f y
        · rw [if_pos hc, if_pos (by omega)]; rfl
        · rw [if_neg hc]
          show iterF body N (l - f y, ((i + 1 : Nat) : Int)) = _
          rw [ih (i + 1) N _ hd' hlt (by simp at hN; omega) (by omega) (by omega)]
          by_cases hc2 : l - f y < ((ys.map f).sum : Nat)
          · rw [if_pos hc2, if_pos (by omega)]
          · rw [if_neg hc2, if_neg (by omega)]; congr 2; omega
  exact key xs 0 NN l rfl (Nat.zero_le _) hN hl hl2
theorem szTo_nn {l : Int} {n : Nat} (h : ¬ szTo l n < 0) (h0 : 0 ≤ l) : (n : Int) ≤ l ∧ szTo l n = l - n := by
  rcases szTo_spec l n with ⟨_, e⟩ | ⟨h1, e⟩
  · rw [e] at h; omega
  · exact ⟨h1, e⟩
theorem eqr_Leg (x : YLeg) (h : totLeg x ≤ 1048576) : m_laws_eqLeg x x = some true := by
  simp [m_laws_eqLeg]
theorem cpy_Leg (x : YLeg) (h : totLeg x ≤ 1048576) : m_laws_toLeg x = some x := by
  simp [m_laws_toLeg]
theorem sz_Leg (x : YLeg) {left : Int} (h0 : 0 ≤ left) (h1 : left ≤ 1048576) (ok : okLeg x) : m_laws_szLeg x left = some (szTo left (totLeg x)) := by
  obtain ⟨k0, k1, k2, k3, k4, k5⟩ := ok
  have ht : totLeg x = x.from_.size + x.to_.size := rfl
  unfold m_laws_szLeg
  unfold okStr maxLen at k0
  rw [w64_in (by omega)]
  by_cases c0 : left - ((x.from_.size : Nat) : Int) < 0
  · rw [decide_eq_true c0]; show some (-1) = _; rw [ht]; rcases szTo_spec left (x.from_.size + x.to_.size) with ⟨h, e⟩ | ⟨h, e⟩; · rw [e]
    omega
  rw [decide_eq_false c0]; simp only [cond_false]
  obtain ⟨l1, hl1⟩ : ∃ l : Int, l = left - ((x.from_.size : Nat) : Int) := ⟨_, rfl⟩
  rw [← hl1]
  unfold okStr maxLen at k1
  rw [w64_in (by omega)]
  by_cases c1 : l1 - ((x.to_.size : Nat) : Int) < 0
  · rw [decide_eq_true c1]; show some (-1) = _; rw [ht]; rcases szTo_spec left (x.from_.size + x.to_.size) with ⟨h, e⟩ | ⟨h, e⟩; · rw [e]
    omega
  rw [decide_eq_false c1]; simp only [cond_false]
  obtain ⟨l2, hl2⟩ : ∃ l : Int, l = l1 - ((x.to_.size : Nat) : Int) := ⟨_, rfl⟩
  rw [← hl2]
  rw [ht]; rcases szTo_spec left (x.from_.size + x.to_.size) with ⟨h, e⟩ | ⟨h, e⟩
  · omega
  · rw [e]; (first | (congr 1; omega) | congr 1)
theorem eqr_LegS (a : List YLeg) (hl : a.length ≤ 1048576) (he : ∀ x ∈ a, m_laws_eqLeg x x = some true) : m_laws_eqLegS a a = some true := by
  have e : iterF (m_laws_eqLegS_b0 a a) NN 0 = some (.inl ()) := by
    refine iter_pass (xs := a) (fun i x hx => ?_) ?_ (by unfold NN; omega)
    · obtain ⟨hi, rfl⟩ := List.getElem?_eq_some_iff.1 hx
      have hw := w64_nat hi (by omega)
      have hx2 := he _ (List.mem_of_getElem? hx)
      simp [m_laws_eqLegS_b0, getI_nat, hx, hi, hw, hx2]
    · simp [m_laws_eqLegS_b0]
  unfold m_laws_eqLegS; simp [e]
theorem cpy_LegS (a : List YLeg) (hl : a.length ≤ 1048576) (he : ∀ x ∈ a, m_laws_toLeg x = some x) : m_laws_toLegS a = some a := by
  have e : ∀ z, iterF (m_laws_toLegS_b0 a) NN (0, List.replicate a.length z) = some a := by
    intro z
    refine iter_copy (fun i out x hx ho => ?_) (fun out => ?_) (by unfold NN; omega)
    · obtain ⟨hi, rfl⟩ := List.getElem?_eq_some_iff.1 hx
      have hw := w64_nat hi (by omega)
      have hx3 : out[i]? = some out[i] := List.getElem?_eq_getElem (by omega)
      have hx2 := he _ (List.mem_of_getElem? hx)
      simp [m_laws_toLegS_b0, getI_nat, hx, hx3, hi, hw, hx2]
    · simp [m_laws_toLegS_b0]
  unfold m_laws_toLegS; rw [chk_t (mkOk_of hl (by decide) (by decide))]; simp [e]
theorem sz_LegS (a : List YLeg) {left : Int} (h0 : 0 ≤ left) (h1 : left ≤ 1048576) (hl : a.length ≤ maxLen) (he : ∀ x ∈ a, ∀ l : Int, 0 ≤ l → l ≤ 1048576 → m_laws_szLeg x l = some (szTo l (totLeg x))) : m_laws_szLegS a left = some (szTo left (totS totLeg a)) := by
  unfold maxLen at hl
  unfold m_laws_szLegS
  rw [w64_in (by omega)]
  by_cases hc : left - (a.length : Int) < 0
  · rw [decide_eq_true hc]; show some (-1) = _
    rcases szTo_spec left (totS totLeg a) with ⟨h, e⟩ | ⟨h, e⟩
    · rw [e]
    · have := totS_len totLeg a; omega
  · rw [decide_eq_false hc]
    have e : iterF (m_laws_szLegS_b0 a) NN (left - (a.length : Int), 0) = some (if left - (a.length : Int) < ((a.map totLeg).sum : Nat) then .inr (-1) else .inl (left - (a.length : Int) - ((a.map totLeg).sum : Nat))) := by
      refine iter_sz (fun i l x hx h0 h1 => ?_) (fun l => ?_) (by unfold NN; omega) (by omega) (by omega)
      · obtain ⟨hi, rfl⟩ := List.getElem?_eq_some_iff.1 hx
        have hw := w64_nat hi (by omega)
        have hx2 := he _ (List.mem_of_getElem? hx) l h0 h1
        rcases szTo_spec l (totLeg a[i]) with ⟨h, e⟩ | ⟨h, e⟩
        · rw [e] at hx2; rw [if_pos h]; simp [m_laws_szLegS_b0, getI_nat, hx, hi, hx2]
        · rw [e] at hx2; rw [if_neg (by omega)]; simp [m_laws_szLegS_b0, getI_nat, hx, hi, hx2, hw, show ¬ (l - (totLeg a[i] : Int) < 0) by omega]
      · simp [m_laws_szLegS_b0]
    show (iterF (m_laws_szLegS_b0 a) NN (left - (a.length : Int), 0)).bind _ = _
    rw [e]
    have ht : totS totLeg a = a.length + (a.map totLeg).sum := rfl
    rcases szTo_spec left (totS totLeg a) with ⟨h, e⟩ | ⟨h, e⟩
    · rw [e, if_pos (by omega)]; rfl
    · rw [e, if_neg (by omega)]; show some _ = some _; congr 1; omega
theorem eqr_IntS (a : List Int) (hl : a.length ≤ 1048576) : m_laws_eqIntS a a = some true := by
  have e : iterF (m_laws_eqIntS_b0 a a) NN 0 = some (.inl ()) := by
    refine iter_pass (xs := a) (fun i x hx => ?_) ?_ (by unfold NN; omega)
    · obtain ⟨hi, rfl⟩ := List.getElem?_eq_some_iff.1 hx
      have hw := w64_nat hi (by omega)
      simp [m_laws_eqIntS_b0, getI_nat, hx, hi, hw]
    · simp [m_laws_eqIntS_b0]
  unfold m_laws_eqIntS; simp [e]
theorem cpy_IntS (a : List Int) (hl : a.length ≤ 1048576) : m_laws_toIntS a = some a := by
  have e : ∀ z, iterF (m_laws_toIntS_b0 a) NN (0, List.replicate a.length z) = some a := by
    intro z
    refine iter_copy (fun i out x hx ho => ?_) (fun out => ?_) (by unfold NN; omega)
    · obtain ⟨hi, rfl⟩ := List.getElem?_eq_some_iff.1 hx
      have hw := w64_nat hi (by omega)
      have hx3 : out[i]? = some out[i] := List.getElem?_eq_getElem (by omega)
      simp [m_laws_toIntS_b0, getI_nat, hx, hx3, hi, hw]
    · simp [m_laws_toIntS_b0]
  unfold m_laws_toIntS; rw [chk_t (mkOk_of hl (by decide) (by decide))]; simp [e]
theorem sz_IntS (a : List Int) {left : Int} (h0 : 0 ≤ left) (h1 : left ≤ 1048576) (hl : a.length ≤ maxLen) : m_laws_szIntS a left = some (szTo left a.length) := by
  unfold maxLen at hl
  unfold m_laws_szIntS
  rw [w64_in (by omega)]
  rcases szTo_spec left a.length with ⟨h, e⟩ | ⟨h, e⟩
  · rw [e, decide_eq_true (by omega)]; rfl
  · rw [e, decide_eq_false (by omega)]; rfl
theorem eqr_Network (x : YNetwork) (h : totNetwork x ≤ 1048576) : m_laws_eqNetwork x x = some true := by
  have e0 := eqr_LegS x.legs (by unfold totNetwork at h; have := totS_len totLeg x.legs; omega) (fun y hy => eqr_Leg y (by unfold totNetwork at h; have := totS_mem totLeg hy; omega))
  have e1 := eqr_IntS x.off (by unfold totNetwork at h; have := totS_len totLeg x.legs; omega)
  simp [m_laws_eqNetwork, e0, e1]
theorem cpy_Network (x : YNetwork) (h : totNetwork x ≤ 1048576) : m_laws_toNetwork x = some x := by
  have e0 := cpy_LegS x.legs (by unfold totNetwork at h; have := totS_len totLeg x.legs; omega) (fun y hy => cpy_Leg y (by unfold totNetwork at h; have := totS_mem totLeg hy; omega))
  have e1 := cpy_IntS x.off (by unfold totNetwork at h; have := totS_len totLeg x.legs; omega)
  simp [m_laws_toNetwork, e0, e1]
theorem sz_Network (x : YNetwork) {left : Int} (h0 : 0 ≤ left) (h1 : left ≤ 1048576) (ok : okNetwork x) : m_laws_szNetwork x left = some (szTo left (totNetwork x)) := by
  obtain ⟨k0, k1, k2⟩ := ok
  have ht : totNetwork x = totS totLeg x.legs + x.off.length := rfl
  unfold m_laws_szNetwork
  rw [sz_LegS x.legs (by omega) (by omega) k0.1 (fun y hy l g0 g1 => sz_Leg y g0 g1 (k0.2 y hy))]; simp only [Option.bind_some]
  by_cases c0 : szTo left (totS totLeg x.legs) < 0
  · rw [decide_eq_true c0]; show some (-1) = _; rw [ht]; rcases szTo_spec left (totS totLeg x.legs) with ⟨h2, e2⟩ | ⟨h2, e2⟩; rcases szTo_spec left (totS totLeg x.legs + x.off.length) with ⟨h, e⟩ | ⟨h, e⟩; · rw [e]
    all_goals omega
  rw [decide_eq_false c0]; simp only [cond_false]
  obtain ⟨d0, e0⟩ := szTo_nn c0 (by omega)
  rw [e0]
  obtain ⟨l1, hl1⟩ : ∃ l : Int, l = left - ((totS totLeg x.legs : Nat) : Int) := ⟨_, rfl⟩
  rw [← hl1]
  rw [sz_IntS x.off (by omega) (by omega) k1.1]; simp only [Option.bind_some]
  by_cases c1 : szTo l1 (x.off.length) < 0
  · rw [decide_eq_true c1]; show some (-1) = _; rw [ht]; rcases szTo_spec l1 (x.off.length) with ⟨h2, e2⟩ | ⟨h2, e2⟩; rcases szTo_spec left (totS totLeg x.legs + x.off.length) with ⟨h, e⟩ | ⟨h, e⟩; · rw [e]
    all_goals omega
  rw [decide_eq_false c1]; simp only [cond_false]
  obtain ⟨d1, e1⟩ := szTo_nn c1 (by omega)
  rw [e1]
  obtain ⟨l2, hl2⟩ : ∃ l : Int, l = l1 - ((x.off.length : Nat) : Int) := ⟨_, rfl⟩
  rw [← hl2]
  rw [ht]; rcases szTo_spec left (totS totLeg x.legs + x.off.length) with ⟨h, e⟩ | ⟨h, e⟩
  · omega
  · rw [e]; (first | (congr 1; omega) | congr 1)
theorem eqr_Trip (x : YTrip) : m_laws_eqTrip x x = some true := by
  simp [m_laws_eqTrip]
theorem cpy_Trip (x : YTrip) : m_laws_toTrip x = some x := by
  simp [m_laws_toTrip]
theorem eqr_TripS (a : List YTrip) (hl : a.length ≤ 1048576) (he : ∀ x ∈ a, m_laws_eqTrip x x = some true) : m_laws_eqTripS a a = some true := by
  have e : iterF (m_laws_eqTripS_b0 a a) NN 0 = some (.inl ()) := by
    refine iter_pass (xs := a) (fun i x hx => ?_) ?_ (by unfold NN; omega)
    · obtain ⟨hi, rfl⟩ := List.getElem?_eq_some_iff.1 hx
      have hw := w64_nat hi (by omega)
      have hx2 := he _ (List.mem_of_getElem? hx)
      simp [m_laws_eqTripS_b0, getI_nat, hx, hi, hw, hx2]
    · simp [m_laws_eqTripS_b0]
  unfold m_laws_eqTripS; simp [e]
theorem cpy_TripS (a : List YTrip) (hl : a.length ≤ 1048576) (he : ∀ x ∈ a, m_laws_toTrip x = some x) : m_laws_toTripS a = some a := by
  have e : ∀ z, iterF (m_laws_toTripS_b0 a) NN (0, List.replicate a.length z) = some a := by
    intro z
    refine iter_copy (fun i out x hx ho => ?_) (fun out => ?_) (by unfold NN; omega)
    · obtain ⟨hi, rfl⟩ := List.getElem?_eq_some_iff.1 hx
      have hw := w64_nat hi (by omega)
      have hx3 : out[i]? = some out[i] := List.getElem?_eq_getElem (by omega)
      have hx2 := he _ (List.mem_of_getElem? hx)
      simp [m_laws_toTripS_b0, getI_nat, hx, hx3, hi, hw, hx2]
    · simp [m_laws_toTripS_b0]
  unfold m_laws_toTripS; rw [chk_t (mkOk_of hl (by decide) (by decide))]; simp [e]
theorem sz_TripS (a : List YTrip) {left : Int} (h0 : 0 ≤ left) (h1 : left ≤ 1048576) (hl : a.length ≤ maxLen) : m_laws_szTripS a left = some (szTo left a.length) := by
  unfold maxLen at hl
  unfold m_laws_szTripS
  rw [w64_in (by omega)]
  rcases szTo_spec left a.length with ⟨h, e⟩ | ⟨h, e⟩
  · rw [e, decide_eq_true (by omega)]; rfl
  · rw [e, decide_eq_false (by omega)]; rfl
theorem eqr_Order (x : YOrder) (h : totOrder x ≤ 1048576) : m_laws_eqOrder x x = some true := by
  have e0 := eqr_TripS x.way (by unfold totOrder at h; omega) (fun y hy => eqr_Trip y)
  simp [m_laws_eqOrder, e0]
theorem cpy_Order (x : YOrder) (h : totOrder x ≤ 1048576) : m_laws_toOrder x = some x := by
  have e0 := cpy_TripS x.way (by unfold totOrder at h; omega) (fun y hy => cpy_Trip y)
  simp [m_laws_toOrder, e0]
theorem sz_Order (x : YOrder) {left : Int} (h0 : 0 ≤ left) (h1 : left ≤ 1048576) (ok : okOrder x) : m_laws_szOrder x left = some (szTo left (totOrder x)) := by
  obtain ⟨k0, k1, k2, k3, k4, k5, k6, k7, k8, k9, k10⟩ := ok
  have ht : totOrder x = x.from_.size + x.to_.size + x.way.length + x.place.size := rfl
  unfold m_laws_szOrder
  unfold okStr maxLen at k0
  rw [w64_in (by omega)]
  by_cases c0 : left - ((x.from_.size : Nat) : Int) < 0
  · rw [decide_eq_true c0]; show some (-1) = _; rw [ht]; rcases szTo_spec left (x.from_.size + x.to_.size + x.way.length + x.place.size) with ⟨h, e⟩ | ⟨h, e⟩; · rw [e]
    omega
  rw [decide_eq_false c0]; simp only [cond_false]
  obtain ⟨l1, hl1⟩ : ∃ l : Int, l = left - ((x.from_.size : Nat) : Int) := ⟨_, rfl⟩
  rw [← hl1]
  unfold okStr maxLen at k1
  rw [w64_in (by omega)]
  by_cases c1 : l1 - ((x.to_.size : Nat) : Int) < 0
  · rw [decide_eq_true c1]; show some (-1) = _; rw [ht]; rcases szTo_spec left (x.from_.size + x.to_.size + x.way.length + x.place.size) with ⟨h, e⟩ | ⟨h, e⟩; · rw [e]
    omega
  rw [decide_eq_false c1]; simp only [cond_false]
  obtain ⟨l2, hl2⟩ : ∃ l : Int, l = l1 - ((x.to_.size : Nat) : Int) := ⟨_, rfl⟩
  rw [← hl2]
  rw [sz_TripS x.way (by omega) (by omega) k6.1]; simp only [Option.bind_some]
  by_cases c2 : szTo l2 (x.way.length) < 0
  · rw [decide_eq_true c2]; show some (-1) = _; rw [ht]; rcases szTo_spec l2 (x.way.length) with ⟨h2, e2⟩ | ⟨h2, e2⟩; rcases szTo_spec left (x.from_.size + x.to_.size + x.way.length + x.place.size) with ⟨h, e⟩ | ⟨h, e⟩; · rw [e]
    all_goals omega
  rw [decide_eq_false c2]; simp only [cond_false]
  obtain ⟨d2, e2⟩ := szTo_nn c2 (by omega)
  rw [e2]
  obtain ⟨l3, hl3⟩ : ∃ l : Int, l = l2 - ((x.way.length : Nat) : Int) := ⟨_, rfl⟩
  rw [← hl3]
  unfold okStr maxLen at k9
  rw [w64_in (by omega)]
  by_cases c3 : l3 - ((x.place.size : Nat) : Int) < 0
  · rw [decide_eq_true c3]; show some (-1) = _; rw [ht]; rcases szTo_spec left (x.from_.size + x.to_.size + x.way.length + x.place.size) with ⟨h, e⟩ | ⟨h, e⟩; · rw [e]
    omega
  rw [decide_eq_false c3]; simp only [cond_false]
  obtain ⟨l4, hl4⟩ : ∃ l : Int, l = l3 - ((x.place.size : Nat) : Int) := ⟨_, rfl⟩
  rw [← hl4]
  rw [ht]; rcases szTo_spec left (x.from_.size + x.to_.size + x.way.length + x.place.size) with ⟨h, e⟩ | ⟨h, e⟩
  · omega
  · rw [e]; (first | (congr 1; omega) | congr 1)
theorem eqr_OrderS (a : List YOrder) (hl : a.length ≤ 1048576) (he : ∀ x ∈ a, m_laws_eqOrder x x = some true) : m_laws_eqOrderS a a = some true := by
  have e : iterF (m_laws_eqOrderS_b0 a a) NN 0 = some (.inl ()) := by
    refine iter_pass (xs := a) (fun i x hx => ?_) ?_ (by unfold NN; omega)
    · obtain ⟨hi, rfl⟩ := List.getElem?_eq_some_iff.1 hx
      have hw := w64_nat hi (by omega)
      have hx2 := he _ (List.mem_of_getElem? hx)
      simp [m_laws_eqOrderS_b0, getI_nat, hx, hi, hw, hx2]
    · simp [m_laws_eqOrderS_b0]
  unfold m_laws_eqOrderS; simp [e]
theorem cpy_OrderS (a : List YOrder) (hl : a.length ≤ 1048576) (he : ∀ x ∈ a, m_laws_toOrder x = some x) : m_laws_toOrderS a = some a := by
  have e : ∀ z, iterF (m_laws_toOrderS_b0 a) NN (0, List.replicate a.length z) = some a := by
    intro z
    refine iter_copy (fun i out x hx ho => ?_) (fun out => ?_) (by unfold NN; omega)
    · obtain ⟨hi, rfl⟩ := List.getElem?_eq_some_iff.1 hx
      have hw := w64_nat hi (by omega)
      have hx3 : out[i]? = some out[i] := List.getElem?_eq_getElem (by omega)
      have hx2 := he _ (List.mem_of_getElem? hx)
      simp [m_laws_toOrderS_b0, getI_nat, hx, hx3, hi, hw, hx2]
    · simp [m_laws_toOrderS_b0]
  unfold m_laws_toOrderS; rw [chk_t (mkOk_of hl (by decide) (by decide))]; simp [e]
theorem sz_OrderS (a : List YOrder) {left : Int} (h0 : 0 ≤ left) (h1 : left ≤ 1048576) (hl : a.length ≤ maxLen) (he : ∀ x ∈ a, ∀ l : Int, 0 ≤ l → l ≤ 1048576 → m_laws_szOrder x l = some (szTo l (totOrder x))) : m_laws_szOrderS a left = some (szTo left (totS totOrder a)) := by
  unfold maxLen at hl
  unfold m_laws_szOrderS
  rw [w64_in (by omega)]
  by_cases hc : left - (a.length : Int) < 0
  · rw [decide_eq_true hc]; show some (-1) = _
    rcases szTo_spec left (totS totOrder a) with ⟨h, e⟩ | ⟨h, e⟩
    · rw [e]
    · have := totS_len totOrder a; omega
  · rw [decide_eq_false hc]
    have e : iterF (m_laws_szOrderS_b0 a) NN (left - (a.length : Int), 0) = some (if left - (a.length : Int) < ((a.map totOrder).sum : Nat) then .inr (-1) else .inl (left - (a.length : Int) - ((a.map totOrder).sum : Nat))) := by
      refine iter_sz (fun i l x hx h0 h1 => ?_) (fun l => ?_) (by unfold NN; omega) (by omega) (by omega)
      · obtain ⟨hi, rfl⟩ := List.getElem?_eq_some_iff.1 hx
        have hw := w64_nat hi (by omega)
        have hx2 := he _ (List.mem_of_getElem? hx) l h0 h1
        rcases szTo_spec l (totOrder a[i]) with ⟨h, e⟩ | ⟨h, e⟩
        · rw [e] at hx2; rw [if_pos h]; simp [m_laws_szOrderS_b0, getI_nat, hx, hi, hx2]
        · rw [e] at hx2; rw [if_neg (by omega)]; simp [m_laws_szOrderS_b0, getI_nat, hx, hi, hx2, hw, show ¬ (l - (totOrder a[i] : Int) < 0) by omega]
      · simp [m_laws_szOrderS_b0]
    show (iterF (m_laws_szOrderS_b0 a) NN (left - (a.length : Int), 0)).bind _ = _
    rw [e]
    have ht : totS totOrder a = a.length + (a.map totOrder).sum := rfl
    rcases szTo_spec left (totS totOrder a) with ⟨h, e⟩ | ⟨h, e⟩
    · rw [e, if_pos (by omega)]; rfl
    · rw [e, if_neg (by omega)]; show some _ = some _; congr 1; omega
theorem eqr_Booking (x : YBooking) : m_laws_eqBooking x x = some true := by
  have e0 := eqr_Trip x.trip
  simp [m_laws_eqBooking, e0]
theorem cpy_Booking (x : YBooking) : m_laws_toBooking x = some x := by
  have e0 := cpy_Trip x.trip
  simp [m_laws_toBooking, e0]
theorem eqr_BookingS (a : List YBooking) (hl : a.length ≤ 1048576) (he : ∀ x ∈ a, m_laws_eqBooking x x = some true) : m_laws_eqBookingS a a = some true := by
  have e : iterF (m_laws_eqBookingS_b0 a a) NN 0 = some (.inl ()) := by
    refine iter_pass (xs := a) (fun i x hx => ?_) ?_ (by unfold NN; omega)
    · obtain ⟨hi, rfl⟩ := List.getElem?_eq_some_iff.1 hx
      have hw := w64_nat hi (by omega)
      have hx2 := he _ (List.mem_of_getElem? hx)
      simp [m_laws_eqBookingS_b0, getI_nat, hx, hi, hw, hx2]
    · simp [m_laws_eqBookingS_b0]
  unfold m_laws_eqBookingS; simp [e]
theorem cpy_BookingS (a : List YBooking) (hl : a.length ≤ 1048576) (he : ∀ x ∈ a, m_laws_toBooking x = some x) : m_laws_toBookingS a = some a := by
  have e : ∀ z, iterF (m_laws_toBookingS_b0 a) NN (0, List.replicate a.length z) = some a := by
    intro z
    refine iter_copy (fun i out x hx ho => ?_) (fun out => ?_) (by unfold NN; omega)
    · obtain ⟨hi, rfl⟩ := List.getElem?_eq_some_iff.1 hx
      have hw := w64_nat hi (by omega)
      have hx3 : out[i]? = some out[i] := List.getElem?_eq_getElem (by omega)
      have hx2 := he _ (List.mem_of_getElem? hx)
      simp [m_laws_toBookingS_b0, getI_nat, hx, hx3, hi, hw, hx2]
    · simp [m_laws_toBookingS_b0]
  unfold m_laws_toBookingS; rw [chk_t (mkOk_of hl (by decide) (by decide))]; simp [e]
theorem sz_BookingS (a : List YBooking) {left : Int} (h0 : 0 ≤ left) (h1 : left ≤ 1048576) (hl : a.length ≤ maxLen) : m_laws_szBookingS a left = some (szTo left a.length) := by
  unfold maxLen at hl
  unfold m_laws_szBookingS
  rw [w64_in (by omega)]
  rcases szTo_spec left a.length with ⟨h, e⟩ | ⟨h, e⟩
  · rw [e, decide_eq_true (by omega)]; rfl
  · rw [e, decide_eq_false (by omega)]; rfl
theorem eqr_Scan (x : YScan) (h : totScan x ≤ 1048576) : m_laws_eqScan x x = some true := by
  have e0 := eqr_Trip x.trip
  simp [m_laws_eqScan, e0]
theorem cpy_Scan (x : YScan) (h : totScan x ≤ 1048576) : m_laws_toScan x = some x := by
  have e0 := cpy_Trip x.trip
  simp [m_laws_toScan, e0]
theorem sz_Scan (x : YScan) {left : Int} (h0 : 0 ≤ left) (h1 : left ≤ 1048576) (ok : okScan x) : m_laws_szScan x left = some (szTo left (totScan x)) := by
  obtain ⟨k0, k1, k2, k3, k4⟩ := ok
  have ht : totScan x = x.place.size := rfl
  unfold m_laws_szScan
  unfold okStr maxLen at k3
  rw [w64_in (by omega)]
  by_cases c0 : left - ((x.place.size : Nat) : Int) < 0
  · rw [decide_eq_true c0]; show some (-1) = _; rw [ht]; rcases szTo_spec left (x.place.size) with ⟨h, e⟩ | ⟨h, e⟩; · rw [e]
    omega
  rw [decide_eq_false c0]; simp only [cond_false]
  obtain ⟨l1, hl1⟩ : ∃ l : Int, l = left - ((x.place.size : Nat) : Int) := ⟨_, rfl⟩
  rw [← hl1]
  rw [ht]; rcases szTo_spec left (x.place.size) with ⟨h, e⟩ | ⟨h, e⟩
  · omega
  · rw [e]; (first | (congr 1; omega) | congr 1)
theorem eqr_ScanS (a : List YScan) (hl : a.length ≤ 1048576) (he : ∀ x ∈ a, m_laws_eqScan x x = some true) : m_laws_eqScanS a a = some true := by
  have e : iterF (m_laws_eqScanS_b0 a a) NN 0 = some (.inl ()) := by
    refine iter_pass (xs := a) (fun i x hx => ?_) ?_ (by unfold NN; omega)
    · obtain ⟨hi, rfl⟩ := List.getElem?_eq_some_iff.1 hx
      have hw := w64_nat hi (by omega)
      have hx2 := he _ (List.mem_of_getElem? hx)
      simp [m_laws_eqScanS_b0, getI_nat, hx, hi, hw, hx2]
    · simp [m_laws_eqScanS_b0]
  unfold m_laws_eqScanS; simp [e]
theorem cpy_ScanS (a : List YScan) (hl : a.length ≤ 1048576) (he : ∀ x ∈ a, m_laws_toScan x = some x) : m_laws_toScanS a = some a := by
  have e : ∀ z, iterF (m_laws_toScanS_b0 a) NN (0, List.replicate a.length z) = some a := by
    intro z
    refine iter_copy (fun i out x hx ho => ?_) (fun out => ?_) (by unfold NN; omega)
    · obtain ⟨hi, rfl⟩ := List.getElem?_eq_some_iff.1 hx
      have hw := w64_nat hi (by omega)
      have hx3 : out[i]? = some out[i] := List.getElem?_eq_getElem (by omega)
      have hx2 := he _ (List.mem_of_getElem? hx)
      simp [m_laws_toScanS_b0, getI_nat, hx, hx3, hi, hw, hx2]
    · simp [m_laws_toScanS_b0]
  unfold m_laws_toScanS; rw [chk_t (mkOk_of hl (by decide) (by decide))]; simp [e]
theorem sz_ScanS (a : List YScan) {left : Int} (h0 : 0 ≤ left) (h1 : left ≤ 1048576) (hl : a.length ≤ maxLen) (he : ∀ x ∈ a, ∀ l : Int, 0 ≤ l → l ≤ 1048576 → m_laws_szScan x l = some (szTo l (totScan x))) : m_laws_szScanS a left = some (szTo left (totS totScan a)) := by
  unfold maxLen at hl
  unfold m_laws_szScanS
  rw [w64_in (by omega)]
  by_cases hc : left - (a.length : Int) < 0
  · rw [decide_eq_true hc]; show some (-1) = _
    rcases szTo_spec left (totS totScan a) with ⟨h, e⟩ | ⟨h, e⟩
    · rw [e]
    · have := totS_len totScan a; omega
  · rw [decide_eq_false hc]
    have e : iterF (m_laws_szScanS_b0 a) NN (left - (a.length : Int), 0) = some (if left - (a.length : Int) < ((a.map totScan).sum : Nat) then .inr (-1) else .inl (left - (a.length : Int) - ((a.map totScan).sum : Nat))) := by
      refine iter_sz (fun i l x hx h0 h1 => ?_) (fun l => ?_) (by unfold NN; omega) (by omega) (by omega)
      · obtain ⟨hi, rfl⟩ := List.getElem?_eq_some_iff.1 hx
        have hw := w64_nat hi (by omega)
        have hx2 := he _ (List.mem_of_getElem? hx) l h0 h1
        rcases szTo_spec l (totScan a[i]) with ⟨h, e⟩ | ⟨h, e⟩
        · rw [e] at hx2; rw [if_pos h]; simp [m_laws_szScanS_b0, getI_nat, hx, hi, hx2]
        · rw [e] at hx2; rw [if_neg (by omega)]; simp [m_laws_szScanS_b0, getI_nat, hx, hi, hx2, hw, show ¬ (l - (totScan a[i] : Int) < 0) by omega]
      · simp [m_laws_szScanS_b0]
    show (iterF (m_laws_szScanS_b0 a) NN (left - (a.length : Int), 0)).bind _ = _
    rw [e]
    have ht : totS totScan a = a.length + (a.map totScan).sum := rfl
    rcases szTo_spec left (totS totScan a) with ⟨h, e⟩ | ⟨h, e⟩
    · rw [e, if_pos (by omega)]; rfl
    · rw [e, if_neg (by omega)]; show some _ = some _; congr 1; omega
theorem eqr_World (x : YWorld) (h : totWorld x ≤ 1048576) : m_laws_eqWorld x x = some true := by
  have e0 := eqr_Network x.network (by unfold totWorld at h; have := totS_len totOrder x.orders; have := totS_len totScan x.scans; omega)
  have e1 := eqr_OrderS x.orders (by unfold totWorld at h; have := totS_len totOrder x.orders; have := totS_len totScan x.scans; omega) (fun y hy => eqr_Order y (by unfold totWorld at h; have := totS_mem totOrder hy; omega))
  have e2 := eqr_BookingS x.bookings (by unfold totWorld at h; have := totS_len totOrder x.orders; have := totS_len totScan x.scans; omega) (fun y hy => eqr_Booking y)
  have e3 := eqr_TripS x.closed (by unfold totWorld at h; have := totS_len totOrder x.orders; have := totS_len totScan x.scans; omega) (fun y hy => eqr_Trip y)
  have e4 := eqr_ScanS x.scans (by unfold totWorld at h; have := totS_len totOrder x.orders; have := totS_len totScan x.scans; omega) (fun y hy => eqr_Scan y (by unfold totWorld at h; have := totS_mem totScan hy; omega))
  have e5 := eqr_IntS x.skip (by unfold totWorld at h; have := totS_len totOrder x.orders; have := totS_len totScan x.scans; omega)
  simp [m_laws_eqWorld, e0, e1, e2, e3, e4, e5]
theorem cpy_World (x : YWorld) (h : totWorld x ≤ 1048576) : m_laws_toWorld x = some x := by
  have e0 := cpy_Network x.network (by unfold totWorld at h; have := totS_len totOrder x.orders; have := totS_len totScan x.scans; omega)
  have e1 := cpy_OrderS x.orders (by unfold totWorld at h; have := totS_len totOrder x.orders; have := totS_len totScan x.scans; omega) (fun y hy => cpy_Order y (by unfold totWorld at h; have := totS_mem totOrder hy; omega))
  have e2 := cpy_BookingS x.bookings (by unfold totWorld at h; have := totS_len totOrder x.orders; have := totS_len totScan x.scans; omega) (fun y hy => cpy_Booking y)
  have e3 := cpy_TripS x.closed (by unfold totWorld at h; have := totS_len totOrder x.orders; have := totS_len totScan x.scans; omega) (fun y hy => cpy_Trip y)
  have e4 := cpy_ScanS x.scans (by unfold totWorld at h; have := totS_len totOrder x.orders; have := totS_len totScan x.scans; omega) (fun y hy => cpy_Scan y (by unfold totWorld at h; have := totS_mem totScan hy; omega))
  have e5 := cpy_IntS x.skip (by unfold totWorld at h; have := totS_len totOrder x.orders; have := totS_len totScan x.scans; omega)
  simp [m_laws_toWorld, e0, e1, e2, e3, e4, e5]
theorem sz_World (x : YWorld) {left : Int} (h0 : 0 ≤ left) (h1 : left ≤ 1048576) (ok : okWorld x) : m_laws_szWorld x left = some (szTo left (totWorld x)) := by
  obtain ⟨k0, k1, k2, k3, k4, k5, k6, k7⟩ := ok
  have ht : totWorld x = totNetwork x.network + totS totOrder x.orders + x.bookings.length + x.closed.length + totS totScan x.scans + x.skip.length := rfl
  unfold m_laws_szWorld
  rw [sz_Network x.network (by omega) (by omega) k0]; simp only [Option.bind_some]
  by_cases c0 : szTo left (totNetwork x.network) < 0
  · rw [decide_eq_true c0]; show some (-1) = _; rw [ht]; rcases szTo_spec left (totNetwork x.network) with ⟨h2, e2⟩ | ⟨h2, e2⟩; rcases szTo_spec left (totNetwork x.network + totS totOrder x.orders + x.bookings.length + x.closed.length + totS totScan x.scans + x.skip.length) with ⟨h, e⟩ | ⟨h, e⟩; · rw [e]
    all_goals omega
  rw [decide_eq_false c0]; simp only [cond_false]
  obtain ⟨d0, e0⟩ := szTo_nn c0 (by omega)
  rw [e0]
  obtain ⟨l1, hl1⟩ : ∃ l : Int, l = left - ((totNetwork x.network : Nat) : Int) := ⟨_, rfl⟩
  rw [← hl1]
  rw [sz_OrderS x.orders (by omega) (by omega) k1.1 (fun y hy l g0 g1 => sz_Order y g0 g1 (k1.2 y hy))]; simp only [Option.bind_some]
  by_cases c1 : szTo l1 (totS totOrder x.orders) < 0
  · rw [decide_eq_true c1]; show some (-1) = _; rw [ht]; rcases szTo_spec l1 (totS totOrder x.orders) with ⟨h2, e2⟩ | ⟨h2, e2⟩; rcases szTo_spec left (totNetwork x.network + totS totOrder x.orders + x.bookings.length + x.closed.length + totS totScan x.scans + x.skip.length) with ⟨h, e⟩ | ⟨h, e⟩; · rw [e]
    all_goals omega
  rw [decide_eq_false c1]; simp only [cond_false]
  obtain ⟨d1, e1⟩ := szTo_nn c1 (by omega)
  rw [e1]
  obtain ⟨l2, hl2⟩ : ∃ l : Int, l = l1 - ((totS totOrder x.orders : Nat) : Int) := ⟨_, rfl⟩
  rw [← hl2]
  rw [sz_BookingS x.bookings (by omega) (by omega) k2.1]; simp only [Option.bind_some]
  by_cases c2 : szTo l2 (x.bookings.length) < 0
  · rw [decide_eq_true c2]; show some (-1) = _; rw [ht]; rcases szTo_spec l2 (x.bookings.length) with ⟨h2, e2⟩ | ⟨h2, e2⟩; rcases szTo_spec left (totNetwork x.network + totS totOrder x.orders + x.bookings.length + x.closed.length + totS totScan x.scans + x.skip.length) with ⟨h, e⟩ | ⟨h, e⟩; · rw [e]
    all_goals omega
  rw [decide_eq_false c2]; simp only [cond_false]
  obtain ⟨d2, e2⟩ := szTo_nn c2 (by omega)
  rw [e2]
  obtain ⟨l3, hl3⟩ : ∃ l : Int, l = l2 - ((x.bookings.length : Nat) : Int) := ⟨_, rfl⟩
  rw [← hl3]
  rw [sz_TripS x.closed (by omega) (by omega) k3.1]; simp only [Option.bind_some]
  by_cases c3 : szTo l3 (x.closed.length) < 0
  · rw [decide_eq_true c3]; show some (-1) = _; rw [ht]; rcases szTo_spec l3 (x.closed.length) with ⟨h2, e2⟩ | ⟨h2, e2⟩; rcases szTo_spec left (totNetwork x.network + totS totOrder x.orders + x.bookings.length + x.closed.length + totS totScan x.scans + x.skip.length) with ⟨h, e⟩ | ⟨h, e⟩; · rw [e]
    all_goals omega
  rw [decide_eq_false c3]; simp only [cond_false]
  obtain ⟨d3, e3⟩ := szTo_nn c3 (by omega)
  rw [e3]
  obtain ⟨l4, hl4⟩ : ∃ l : Int, l = l3 - ((x.closed.length : Nat) : Int) := ⟨_, rfl⟩
  rw [← hl4]
  rw [sz_ScanS x.scans (by omega) (by omega) k5.1 (fun y hy l g0 g1 => sz_Scan y g0 g1 (k5.2 y hy))]; simp only [Option.bind_some]
  by_cases c4 : szTo l4 (totS totScan x.scans) < 0
  · rw [decide_eq_true c4]; show some (-1) = _; rw [ht]; rcases szTo_spec l4 (totS totScan x.scans) with ⟨h2, e2⟩ | ⟨h2, e2⟩; rcases szTo_spec left (totNetwork x.network + totS totOrder x.orders + x.bookings.length + x.closed.length + totS totScan x.scans + x.skip.length) with ⟨h, e⟩ | ⟨h, e⟩; · rw [e]
    all_goals omega
  rw [decide_eq_false c4]; simp only [cond_false]
  obtain ⟨d4, e4⟩ := szTo_nn c4 (by omega)
  rw [e4]
  obtain ⟨l5, hl5⟩ : ∃ l : Int, l = l4 - ((totS totScan x.scans : Nat) : Int) := ⟨_, rfl⟩
  rw [← hl5]
  rw [sz_IntS x.skip (by omega) (by omega) k6.1]; simp only [Option.bind_some]
  by_cases c5 : szTo l5 (x.skip.length) < 0
  · rw [decide_eq_true c5]; show some (-1) = _; rw [ht]; rcases szTo_spec l5 (x.skip.length) with ⟨h2, e2⟩ | ⟨h2, e2⟩; rcases szTo_spec left (totNetwork x.network + totS totOrder x.orders + x.bookings.length + x.closed.length + totS totScan x.scans + x.skip.length) with ⟨h, e⟩ | ⟨h, e⟩; · rw [e]
    all_goals omega
  rw [decide_eq_false c5]; simp only [cond_false]
  obtain ⟨d5, e5⟩ := szTo_nn c5 (by omega)
  rw [e5]
  obtain ⟨l6, hl6⟩ : ∃ l : Int, l = l5 - ((x.skip.length : Nat) : Int) := ⟨_, rfl⟩
  rw [← hl6]
  rw [ht]; rcases szTo_spec left (totNetwork x.network + totS totOrder x.orders + x.bookings.length + x.closed.length + totS totScan x.scans + x.skip.length) with ⟨h, e⟩ | ⟨h, e⟩
  · omega
  · rw [e]; (first | (congr 1; omega) | congr 1)
end Go.Proofs.YtooikkfldddjfaaGreat

/- The mirror of laws.FnExactIsWorld, and that the code does just that (printed by a program of my own). -/
namespace Go.Proofs.YtooikkfldddjfaaGreat
set_option maxRecDepth 10000
open Go.RowKit
set_option linter.unusedVariables false
set_option maxHeartbeats 16000000
def m_laws_FnExactIsWorld (aW : YWorld) : Option Bool :=
 (m_laws_szWorld aW 1048576).bind fun y1 =>
 cond (decide (y1 < 0))
 (some true)
 ((m_laws_toWorld aW).bind fun y2 =>
 (m_spec_IsWorld y2).bind fun y3 =>
 (m_laws_toWorld aW).bind fun y4 =>
 (m_impl_IsWorld y4).bind fun y5 =>
 cond (!(y5 == y3))
 (some false)
 ((m_laws_toWorld aW).bind fun y6 =>
 (m_laws_eqWorld y4 y6).bind fun y7 =>
 cond (!y7)
 (some false)
 (some true)))
theorem ok_laws_FnExactIsWorld (aW : YWorld) {r : Bool} (H : m_laws_FnExactIsWorld aW = some r) : CallM Tryz.prog 3 [.ag (cWorld aW)] [] (vb r) [] := by
  replace H := H0 H
  unfold m_laws_FnExactIsWorld at H
  refine callM_of Tryz.func3 rfl Tryz.ntmps3 Tryz.results3 fun Q hQ hQn => ?_
  exact wk
instance (aW : YWorld) : CT Tryz.prog (m_laws_FnExactIsWorld aW) := ⟨3, [.ag (cWorld aW)], [], fun r => vb r, fun r => [], ok_laws_FnExactIsWorld aW⟩
end Go.Proofs.YtooikkfldddjfaaGreat

/- The mirror of laws.FnExactNextEvent, and that the code does just that (printed by a program of my own). -/
namespace Go.Proofs.YtooikkfldddjfaaGreat
set_option maxRecDepth 10000
open Go.RowKit
set_option linter.unusedVariables false
set_option maxHeartbeats 16000000
def m_laws_FnExactNextEvent (aW : YWorld) : Option Bool :=
 (m_laws_szWorld aW 1048576).bind fun y1 =>
 cond (decide (y1 < 0))
 (some true)
 ((m_laws_toWorld aW).bind fun y2 =>
 (m_spec_NextEvent y2).bind fun y3 =>
 (m_laws_toWorld aW).bind fun y4 =>
 (m_impl_NextEvent y4).bind fun y5 =>
 cond (!decide (y5 = y3))
 (some false)
 ((m_laws_toWorld aW).bind fun y6 =>
 (m_laws_eqWorld y4 y6).bind fun y7 =>
 cond (!y7)
 (some false)
 (some true)))
theorem ok_laws_FnExactNextEvent (aW : YWorld) {r : Bool} (H : m_laws_FnExactNextEvent aW = some r) : CallM Tryz.prog 5 [.ag (cWorld aW)] [] (vb r) [] := by
  replace H := H0 H
  unfold m_laws_FnExactNextEvent at H
  refine callM_of Tryz.func5 rfl Tryz.ntmps5 Tryz.results5 fun Q hQ hQn => ?_
  exact wk
instance (aW : YWorld) : CT Tryz.prog (m_laws_FnExactNextEvent aW) := ⟨5, [.ag (cWorld aW)], [], fun r => vb r, fun r => [], ok_laws_FnExactNextEvent aW⟩
end Go.Proofs.YtooikkfldddjfaaGreat

/- The mirror of laws.FnExactPlannedEnd, and that the code does just that (printed by a program of my own). -/
namespace Go.Proofs.YtooikkfldddjfaaGreat
set_option maxRecDepth 10000
open Go.RowKit
set_option linter.unusedVariables false
set_option maxHeartbeats 16000000
def m_laws_FnExactPlannedEnd (aW : YWorld) (aId : Int) : Option Bool :=
 (m_laws_szWorld aW 1048576).bind fun y1 =>
 cond (decide (y1 < 0))
 (some true)
 ((m_laws_toWorld aW).bind fun y2 =>
 (m_spec_PlannedEnd y2 aId).bind fun y3 =>
 (m_laws_toWorld aW).bind fun y4 =>
 (m_impl_PlannedEnd y4 aId).bind fun y5 =>
 cond (!decide (y5 = y3))
 (some false)
 ((m_laws_toWorld aW).bind fun y6 =>
 (m_laws_eqWorld y4 y6).bind fun y7 =>
 cond (!y7)
 (some false)
 (some true)))
theorem ok_laws_FnExactPlannedEnd (aW : YWorld) (aId : Int) {r : Bool} (H : m_laws_FnExactPlannedEnd aW aId = some r) : CallM Tryz.prog 4 [.ag (cWorld aW), vi aId] [] (vb r) [] := by
  replace H := H0 H
  unfold m_laws_FnExactPlannedEnd at H
  refine callM_of Tryz.func4 rfl Tryz.ntmps4 Tryz.results4 fun Q hQ hQn => ?_
  exact wk
instance (aW : YWorld) (aId : Int) : CT Tryz.prog (m_laws_FnExactPlannedEnd aW aId) := ⟨4, [.ag (cWorld aW), vi aId], [], fun r => vb r, fun r => [], ok_laws_FnExactPlannedEnd aW aId⟩
end Go.Proofs.YtooikkfldddjfaaGreat

/- The laws of IsWorld, NextEvent and PlannedEnd, in plain values. -/
namespace Go.Proofs.YtooikkfldddjfaaGreat
set_option maxRecDepth 10000
open Go.RowKit
set_option linter.unusedVariables false
set_option linter.unusedSimpArgs false
theorem netFit_of {n : YNetwork} (h : totNetwork n ≤ 1048576) : NetFit n := by
  unfold totNetwork at h
  refine ⟨by have := totS_len totLeg n.legs; omega, by omega, fun l hl => ?_⟩
  have h2 : totLeg l = l.from_.size + l.to_.size := rfl
  have := totS_mem totLeg hl
  unfold legFit B60
  omega
theorem wFit_of {w : YWorld} (h : totWorld w ≤ 1048576) : WFit w := by
  unfold totWorld at h
  have h1 := totS_len totOrder w.orders
  have h2 := totS_len totScan w.scans
  refine ⟨netFit_of (by omega), by omega, by omega, by omega, by omega, by omega, fun o ho => ?_⟩
  have h3 : totOrder o = o.from_.size + o.to_.size + o.way.length + o.place.size := rfl
  have := totS_mem totOrder ho
  omega
theorem fit_or {w : YWorld} (ok : okWorld w) : m_laws_szWorld w 1048576 = some (-1) ∨ ∃ y, m_laws_szWorld w 1048576 = some y ∧ ¬ y < 0 ∧ totWorld w ≤ 1048576 := by
  rw [sz_World w (by omega) (by omega) ok]
  by_cases h : szTo 1048576 (totWorld w) < 0
  · left
    unfold szTo at *
    split at h
    · rw [if_pos (by assumption)]
    · omega
  · right
    obtain ⟨h1, _⟩ := szTo_nn h (by omega)
    exact ⟨_, rfl, h, by omega⟩
theorem lawFnExactIsWorld (w : YWorld) (ok : okWorld w) : CallOk Tryz.prog 3 [.ag (cWorld w)] (vb true) [] := by
  refine ok_laws_FnExactIsWorld w ?_
  unfold m_laws_FnExactIsWorld
  rcases fit_or ok with h | ⟨y, h, h1, ht⟩
  · rw [h]; rfl
  · have hf := wFit_of ht
    simp only [h, cpy_World w ht, spec_world hf, impl_world hf, eqr_World w ht, Option.bind_some, decide_eq_false h1, cond_false, Bool.not_true, beq_self_eq_true]
theorem lawFnExactNextEvent (w : YWorld) (ok : okWorld w) : CallOk Tryz.prog 5 [.ag (cWorld w)] (vb true) [] := by
  refine ok_laws_FnExactNextEvent w ?_
  unfold m_laws_FnExactNextEvent
  rcases fit_or ok with h | ⟨y, h, h1, ht⟩
  · rw [h]; rfl
  · have hf := wFit_of ht
    obtain ⟨v, e1, e2⟩ := nextEvent_eq hf
    simp only [h, cpy_World w ht, e1, e2, eqr_World w ht, Option.bind_some, decide_eq_false h1, cond_false, Bool.not_true, decide_true, beq_self_eq_true]
theorem lawFnExactPlannedEnd (w : YWorld) (id : Int) (ok : okWorld w) (_ : (Lit.int .i64 id).wf = true) : CallOk Tryz.prog 4 [.ag (cWorld w), vi id] (vb true) [] := by
  refine ok_laws_FnExactPlannedEnd w id ?_
  unfold m_laws_FnExactPlannedEnd
  rcases fit_or ok with h | ⟨y, h, h1, ht⟩
  · rw [h]; rfl
  · have hf := wFit_of ht
    obtain ⟨v, e1, e2⟩ := plannedEnd_eq hf id
    simp only [h, cpy_World w ht, e1, e2, eqr_World w ht, Option.bind_some, decide_eq_false h1, cond_false, Bool.not_true, decide_true, beq_self_eq_true]
end Go.Proofs.YtooikkfldddjfaaGreat

/- The statement FnExactPlannedEndSaid: for every input that can be read the law FnExactPlannedEnd returns true and leaves its arguments as_ they were. No further condition. -/
namespace Go.Proofs.YtooikkfldddjfaaGreat
open Go.ChangeShapes Go.WideShapes Go.ChangeAt Go.RowKit Go.Deep
set_option linter.unusedVariables false
namespace fnExactPlannedEnd
theorem own : ownKnob Tryz.prog.godebug = none := by kernel_rfl
theorem laidOut : laidOutB Tryz.prog = true := by kernel_rfl
set_option maxRecDepth 100000 in
theorem lifted (os : Os) (started : os.Started) (H : Type) (enc : TypeId × Value → H) :
    ReturnsInHanded {} Tryz.checked os 4 .any (Rows.fnExactPlannedEndSpec.pre6 enc Tryz.prog Tryz.f4 Rows.fnExactPlannedEndRow.domain false) (Rows.fnExactPlannedEndSpec.post enc Tryz.prog Tryz.f4 false true false false) := by
  refine returnsInHanded_of_change (C := Tryz.checked) own started (by kernel_rfl) Tryz.func4
    (ChangeSpec.witness6 (enc := enc) (C := Tryz.checked) false ⟨#[], #[.agg #[.slice none 0 0, .slice none 0 0, .int .i64 0, .slice none 0 0, .slice none 0 0, .slice none 0 0, .int .i64 0, .slice none 0 0, .slice none 0 0, .int .i64 0], .int .i64 0], []⟩ 8 (by kernel_rfl) (by kernel_rfl) (by kernel_rfl) (by kernel_rfl)) ?_
  intro W base args ds gs before hval0 hW hcnd _
  have hval : ∀ (j : Nat) t v, Tryz.f4.params[j]? = some t → args[j]? = some v → Value.okWide Tryz.prog W .any base t v := hval0
  have hW' := hW
  obtain ⟨p, q, hA0, hV, rfl, hfz, hnd⟩ := hW
  have hA : DataW.TrodAll enc Tryz.prog W 0 (fun _ => true) true Tryz.f4.params.toList args.toList ds p := hA0
  rw [Tryz.params4] at hA hval
  obtain ⟨v0, vs0, d0, ds0, p0, q0, hargs, rfl, rfl, h0, r0⟩ := trodAll_cons hA
  obtain ⟨v1, vs1, d1, ds1, p1, q1, rfl, rfl, rfl, h1, r1⟩ := trodAll_cons r0
  obtain ⟨rfl, rfl, rfl⟩ := trodAll_nil r1
  obtain rfl : args = #[v0, v1] := by cases args; simp_all
  obtain ⟨rfl, rfl⟩ := trodVars_none hV
  have k0 := h0
  have lt0 : ∀ x ∈ p0, x.block < W.heap.size := by obtain ⟨m, hm⟩ := k0; exact DataW.trod_lt m _ _ _ hm
  obtain ⟨cs0, rfl, hsz0⟩ := okWide_struct Tryz.underlying31 (hval 0 31 v0 rfl rfl)
  obtain ⟨x0, hx0, ok0⟩ : ∃ a : YWorld, Reads W (cWorld a) cs0.toList ∧ okWorld a := by obtain ⟨fuel, hf⟩ := h0; exact dec_World hf
  obtain ⟨a1, rfl, rfl, rfl, w1⟩ := open_int Tryz.underlying3 (hval 1 3 v1 rfl rfl) h1
  clear hA0 hval0
  refine (CallOk.run (lawFnExactPlannedEnd x0 a1 ok0 w1) rfl (vs := #[.agg cs0, .int .i64 a1]) (w := W) (fun i p hp => ?_)).mono fun e W' ⟨he, bel⟩ => ?_
  · match i, hp with
    | 0, hp => obtain rfl := Option.some.inj hp; exact ⟨_, rfl, reads_rep hx0⟩
    | 1, hp => obtain rfl := Option.some.inj hp; exact ⟨_, rfl, .c (.v _ rfl)⟩
    | n + 2, hp => simp at hp
  subst he
  exact ⟨_, rfl, _, _, _, [], _, [], hW', trodAll_mk1 (shut_bool Tryz.underlying4 _), (trodAll_cons_mk (Below.trod laidOut (by kernel_rfl) (of_decide_eq_true (by kernel_rfl)) k0 bel lt0) (trodAll_cons_mk (shut_int Tryz.underlying3 w1) trodAll_mk0)), rfl, bel.frame _, fun h => by cases h⟩
theorem over : Rows.fnExactPlannedEndRow.holds Tryz.pinned (OpenSpec.ofChange Rows.fnExactPlannedEndSpec) :=
  OpenClaim.holds_of_wide 4 Tryz.f4 rfl rfl rfl rfl rfl rfl rfl ⟨rfl, rfl, rfl, rfl, rfl⟩ rfl rfl rfl rfl rfl (by kernel_rfl) Tryz.func4 (by kernel_rfl)
    (of_decide_eq_true (by kernel_rfl)) (by unfold Func.isWrapper; first | (rw [if_pos (by decide +kernel)]; kernel_rfl) | (rw [if_neg (by decide +kernel)]; exact ⟨rfl, rfl⟩))
    (fun os started H enc _ => lifted os started H enc)
theorem proved : Rows.FnExactPlannedEndSaid := over
#print axioms proved
end fnExactPlannedEnd
end Go.Proofs.YtooikkfldddjfaaGreat
