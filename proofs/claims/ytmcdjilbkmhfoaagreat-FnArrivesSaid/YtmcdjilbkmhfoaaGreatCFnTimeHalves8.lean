/- A part of the proof of the statement in the last file of this claim: texts on the language of the program and on its functions. No condition. -/
import Derived.Test.YtmcdjilbkmhfoaaGreatCFnTimeHalves7
import Derived.Test.YtmcdjilbkmhfoaaGreatCFnTimeHalves5
import Derived.Test.YtmcdjilbkmhfoaaGreatCFnTimeHalves6
import Derived.Test.YtmcdjilbkmhfoaaGreatCFnTimeHalves4
/- Times of a way, and what an order's state says, in plain propositions. -/
namespace Go.Proofs.YtmcdjilbkmhfoaaGreat
set_option maxRecDepth 10000
open Go.RowKit
set_option linter.unusedVariables false
set_option linter.unusedSimpArgs false
set_option linter.unusedSectionVars false
/-- What holds of every value that a loop's body goes out with holds of the loop's. -/
theorem iter_post {σ ο : Type} {body : σ → Option (σ ⊕ ο)} {P : ο → Prop} (h : ∀ s o, body s = some (.inr o) → P o) : ∀ (N : Nat) (s : σ) (o : ο), iterF body N s = some o → P o
  | 0, s, o, he => by simp [iterF] at he
  | N + 1, s, o, he => by
    simp only [iterF] at he
    cases hb : body s with
    | none => rw [hb] at he; cases he
    | some x =>
      rw [hb] at he
      cases x with
      | inl s' => exact iter_post h N s' o he
      | inr r => obtain rfl : r = o := by simpa [selim] using he
                 exact h s r hb
theorem net_change {n : YNetwork} (hn : m_spec_IsNetwork n = some true) : 0 ≤ n.change ∧ n.change ≤ 240 := by
  unfold m_spec_IsNetwork at hn
  have p0 : ∀ (N : Nat) (s : Int) (o : Unit ⊕ Bool), iterF (m_spec_IsNetwork_b0 n) N s = some o → o = .inl () ∨ o = .inr false := by
    refine iter_post fun s o h => ?_
    unfold m_spec_IsNetwork_b0 at h
    cases hd : decide (s < (n.legs.length : Int)) with
    | false => rw [hd] at h; cases h; exact .inl rfl
    | true =>
      rw [hd, cond_true] at h
      cases hg : getI n.legs s with
      | none => rw [hg] at h; cases h
      | some y =>
        rw [hg, Option.bind_some] at h
        cases hl : m_spec_IsLeg y with
        | none => rw [hl] at h; cases h
        | some b => rw [hl, Option.bind_some] at h; cases b <;> cases h; exact .inr rfl
  have p1 : ∀ (N : Nat) (s : Int) (o : Unit ⊕ Bool), iterF (m_spec_IsNetwork_b1 n) N s = some o → o = .inl () ∨ o = .inr false := by
    refine iter_post fun s o h => ?_
    unfold m_spec_IsNetwork_b1 at h
    cases hd : decide (s < (n.off.length : Int)) with
    | false => rw [hd] at h; cases h; exact .inl rfl
    | true =>
      rw [hd, cond_true] at h
      cases hg : getI n.off s with
      | none => rw [hg] at h; cases h
      | some y =>
        rw [hg, Option.bind_some, l1In_v, Option.bind_some] at h
        cases hb : decide (0 ≤ y) && decide (y ≤ 60) with
        | false => rw [hb] at h; cases h; exact .inr rfl
        | true =>
          rw [hb] at h
          cases hs : decide (0 < s) with
          | false => rw [hs] at h; cases h
          | true =>
            rw [hs] at h
            simp only [Bool.not_true, cond_false, cond_true] at h
            cases hg2 : getI n.off (w64 (s - 1)) with
            | none => rw [hg2] at h; cases h
            | some z =>
              rw [hg2] at h
              simp only [Option.bind_some] at h
              cases hz : decide (y ≤ z) with
              | false => rw [hz] at h; cases h
              | true => rw [hz] at h; cases h; exact .inr rfl
  cases h0 : iterF (m_spec_IsNetwork_b0 n) NN 0 with
  | none => rw [h0] at hn; cases hn
  | some r0 =>
  rw [h0] at hn
  rcases p0 _ _ _ h0 with rfl | rfl
  · simp only [Option.bind_some, selim] at hn
    cases h1 : iterF (m_spec_IsNetwork_b1 n) NN 0 with
    | none => rw [h1] at hn; cases hn
    | some r1 =>
    rw [h1] at hn
    rcases p1 _ _ _ h1 with rfl | rfl
    · simp only [Option.bind_some, selim, l1In_v] at hn
      cases h2 : decide ((n.legs.length : Int) ≤ 20) with
      | false => rw [h2] at hn; cases hn
      | true =>
      cases h3 : decide ((n.off.length : Int) ≤ 10) with
      | false => rw [h2, h3] at hn; cases hn
      | true =>
      rw [h2, h3] at hn
      simp only [cond_true] at hn
      have := Option.some.inj hn
      simpa only [Bool.and_eq_true, decide_eq_true_iff] using this
    · cases hn
  · cases hn
def legFrom (n : YNetwork) (t : YTrip) : ByteArray := ((getI n.legs t.leg).map (·.from_)).getD ⟨#[]⟩
/-- A way that can be gone from a place and a time on. -/
def chainV (n : YNetwork) : ByteArray → Int → List YTrip → Prop
  | _, _, [] => True
  | p, a, t :: ts => tripB n t = true ∧ legFrom n t = p ∧ a ≤ startV n t ∧ chainV n (legTo n t) (endsV n t + n.change) ts
theorem isTrip_s {n : YNetwork} (h : NetFit n) (hn : m_spec_IsNetwork n = some true) (t : YTrip) : m_spec_IsTrip n t = some (tripB n t) := by
  rw [← (isTrip_eq h t).1, isTrip_v h hn, tripB_v h]
theorem isWay_chain {n : YNetwork} (hf : NetFit n) (hn : m_spec_IsNetwork n = some true) {way : List YTrip} (hl : way.length ≤ 1048576) {a b : ByteArray} {t : Int} (h : m_spec_IsWay n way a b t = some true) : chainV n a t way := by
  obtain ⟨ch0, ch1⟩ := net_change hn
  have hpl := placesV_len n
  have hll := hf.legs
  let F : Nat → ByteArray × Int → YTrip → Option ((ByteArray × Int) ⊕ (ByteArray ⊕ Bool)) := fun _ p t =>
    some (if tripB n t = true ∧ legFrom n t = p.1 ∧ p.2 ≤ startV n t then .inl (legTo n t, endsV n t + n.change) else .inr (.inr false))
  have e1 : iterF (m_spec_IsWay_b0 n way b) NN (a, t, 0) = runL F (fun p => some (.inl p.1)) 0 way (a, t) := by
    refine iter_list (A := ByteArray × Int) (fun p i => (p.1, p.2, i)) F (fun p => some (.inl p.1)) (fun p i x hx => ?_) (fun p => ?_) (by unfold NN; omega) (a, t)
    · have hlt := (List.getElem?_eq_some_iff.1 hx).1
      have hg : getI way (i : Int) = some x := by rw [getI_nat]; exact hx
      have hi : w64 ((i : Int) + 1) = ((i + 1 : Nat) : Int) := w64_nat hlt (by omega)
      unfold m_spec_IsWay_b0
      simp only [decide_eq_true (show (i : Int) < way.length by omega), cond_true, hg, Option.bind_some, hi, isTrip_s hf hn, F]
      cases ht : tripB n x with
      | false => simp [selim]
      | true =>
        obtain ⟨y, hy, _⟩ := tripB_leg hf ht
        obtain ⟨t1, t2, t3, t4, t5⟩ := trip_time hf hn ht
        have f1 : legFrom n x = y.from_ := by unfold legFrom; rw [hy]; rfl
        have f2 : legTo n x = y.to_ := by unfold legTo; rw [hy]; rfl
        have hw : w64 (endsV n x + n.change) = endsV n x + n.change := w64_in (by omega)
        simp only [hy, Option.bind_some, t1, t2, f1, f2, hw, Bool.not_true, cond_false, true_and]
        by_cases h1 : y.from_ = p.1
        · by_cases h2 : startV n x < p.2
          · rw [decide_eq_true h1, decide_eq_true h2, if_neg (show ¬ (y.from_ = p.1 ∧ p.2 ≤ startV n x) by omega)]; rfl
          · rw [decide_eq_true h1, decide_eq_false h2, if_pos ⟨h1, by omega⟩]; rfl
        · rw [decide_eq_false h1, if_neg (fun h => h1 h.1)]; rfl
    · unfold m_spec_IsWay_b0
      simp
  have key : ∀ (ts : List YTrip) (i : Nat) (p : ByteArray × Int) (r : ByteArray), runL F (fun p => some (.inl p.1)) i ts p = some (.inl r) → chainV n p.1 p.2 ts := by
    intro ts
    induction ts with
    | nil => intro i p r h; trivial
    | cons x ts ih =>
      intro i p r h
      simp only [runL, F] at h
      by_cases hc : tripB n x = true ∧ legFrom n x = p.1 ∧ p.2 ≤ startV n x
      · rw [if_pos hc] at h
        exact ⟨hc.1, hc.2.1, hc.2.2, ih (i + 1) (legTo n x, endsV n x + n.change) r h⟩
      · rw [if_neg hc] at h; cases h
  unfold m_spec_IsWay at h
  rw [(places_eq hf).2, hn] at h
  simp only [Option.bind_some, l4Index_v (show (placesV n).length ≤ 4194304 by omega), e1] at h
  cases h1 : decide (idxV (placesV n) a < 0) with
  | true => rw [h1] at h; cases h
  | false =>
  cases h2 : decide (idxV (placesV n) b < 0) with
  | true => rw [h1, h2] at h; cases h
  | false =>
  rw [h1, h2] at h
  simp only [Bool.not_true, cond_false] at h
  cases hr : runL F (fun p => some (.inl p.1)) 0 way (a, t) with
  | none => rw [hr] at h; cases h
  | some r =>
    cases r with
    | inl r => exact key way 0 (a, t) r hr
    | inr v =>
      exfalso
      have : ∀ (ts : List YTrip) (i : Nat) (p : ByteArray × Int) (v : Bool), runL F (fun p => some (.inl p.1)) i ts p = some (.inr v) → v = false := by
        intro ts
        induction ts with
        | nil => intro i p v h; cases h
        | cons x ts ih =>
          intro i p v h
          simp only [runL, F] at h
          by_cases hc : tripB n x = true ∧ legFrom n x = p.1 ∧ p.2 ≤ startV n x
          · rw [if_pos hc] at h; exact ih _ _ _ h
          · rw [if_neg hc] at h; cases h; rfl
      have hv := this _ _ _ _ hr
      subst hv
      rw [hr] at h
      cases h
theorem chain_at {n : YNetwork} : ∀ {ts : List YTrip} {p : ByteArray} {a : Int} {i : Nat} {t : YTrip}, chainV n p a ts → ts[i]? = some t → tripB n t = true ∧ ∀ t', ts[i + 1]? = some t' → endsV n t + n.change ≤ startV n t' ∧ legFrom n t' = legTo n t
  | [], _, _, _, _, _, h => by simp at h
  | x :: ts, p, a, 0, t, hc, h => by
    obtain rfl : x = t := by simpa using h
    refine ⟨hc.1, fun t' h' => ?_⟩
    cases ts with
    | nil => simp at h'
    | cons y ts => obtain rfl : y = t' := by simpa using h'
                   exact ⟨hc.2.2.2.2.2.1, hc.2.2.2.2.1⟩
  | x :: ts, p, a, i + 1, t, hc, h => by
    have h' : ts[i]? = some t := by simpa using h
    have := chain_at hc.2.2.2 h'
    simpa using this
/-- Where an order is between its trips. -/
def hereV (n : YNetwork) (o : YOrder) : ByteArray := if 0 < o.gone then ((o.way[(o.gone - 1).toNat]?).map (legTo n)).getD ⟨#[]⟩ else o.from_
/-- What an order's state says. -/
structure StateOk (n : YNetwork) (o : YOrder) (now : Int) : Prop where
  past : ∀ t, 0 < o.gone → o.way[(o.gone - 1).toNat]? = some t → endsV n t ≤ now
  cases : (o.state = 1 ∧ o.place = hereV n o ∧ ¬ hereV n o = o.to_ ∧ o.ended = 0 ∧ ∀ t, o.way[o.gone.toNat]? = some t → now < startV n t) ∨
    (o.state = 2 ∧ o.place = ⟨#[]⟩ ∧ o.ended = 0 ∧ ∃ t, o.way[o.gone.toNat]? = some t ∧ startV n t ≤ now ∧ now < endsV n t) ∨
    (o.state = 3 ∧ o.place = o.to_ ∧ hereV n o = o.to_ ∧ o.gone = o.way.length ∧ 0 < o.gone ∧ ∀ t, o.way[(o.gone - 1).toNat]? = some t → o.ended = endsV n t)
theorem cond_some {c : Prop} [Decidable c] {a b : Option Bool} : cond (decide c) a b = some true ↔ (c ∧ a = some true) ∨ (¬ c ∧ b = some true) := by
  by_cases h : c <;> simp [h]
theorem cond_someN {c : Prop} [Decidable c] {a b : Option Bool} : cond (!decide c) a b = some true ↔ (¬ c ∧ a = some true) ∨ (c ∧ b = some true) := by
  by_cases h : c <;> simp [h]
theorem state_iff {n : YNetwork} (hf : NetFit n) (hn : m_spec_IsNetwork n = some true) {o : YOrder} (hg : 0 ≤ o.gone ∧ o.gone ≤ o.way.length) (hl : o.way.length ≤ 1048576) (ht : ∀ t ∈ o.way, tripB n t = true) (now : Int) : m_spec_l10State n o now = some true ↔ StateOk n o now := by
  have hw1 : w64 (o.gone - 1) = o.gone - 1 := w64_in (by omega)
  have nx : (∃ t, o.gone < o.way.length ∧ getI o.way o.gone = some t ∧ o.way[o.gone.toNat]? = some t ∧ m_spec_l3Starts n t = some (startV n t) ∧ m_spec_l3Ends n t = some (endsV n t)) ∨ (o.gone = o.way.length ∧ o.way[o.gone.toNat]? = none) := by
    by_cases h : o.gone < o.way.length
    · have hlt : o.gone.toNat < o.way.length := by omega
      obtain ⟨t1, t2, _⟩ := trip_time hf hn (ht _ (List.getElem_mem hlt))
      exact .inl ⟨o.way[o.gone.toNat], h, by unfold getI; rw [if_pos hg.1]; exact List.getElem?_eq_getElem hlt, List.getElem?_eq_getElem hlt, t1, t2⟩
    · exact .inr ⟨by omega, List.getElem?_eq_none (by omega)⟩
  unfold m_spec_l10State
  rw [hw1]
  by_cases h0 : 0 < o.gone
  · have hlt : (o.gone - 1).toNat < o.way.length := by omega
    obtain ⟨p, hp, hp1⟩ : ∃ p, getI o.way (o.gone - 1) = some p ∧ o.way[(o.gone - 1).toNat]? = some p := ⟨o.way[(o.gone - 1).toNat], by unfold getI; rw [if_pos (by omega)]; exact List.getElem?_eq_getElem hlt, List.getElem?_eq_getElem hlt⟩
    have hpt := ht p (List.mem_of_getElem? hp1)
    obtain ⟨y, hy, _⟩ := tripB_leg hf hpt
    obtain ⟨t1, t2, t3, t4, t5⟩ := trip_time hf hn hpt
    have hh : hereV n o = y.to_ := by unfold hereV; rw [if_pos h0, hp1]; simp [legTo, hy]
    rcases nx with ⟨t, n1, n2, n3, n4, n5⟩ | ⟨n1, n3⟩
    · have ng : ¬ o.gone = o.way.length := by omega
      simp only [decide_eq_true h0, cond_true, hp, hy, t2, n2, n4, n5, Option.bind_some, cond_some, cond_someN, Option.some.injEq, decide_eq_true_iff]
      constructor
      · intro h
        refine ⟨fun q _ hq => ?_, ?_⟩
        · rw [hp1] at hq; obtain rfl := Option.some.inj hq
          rcases h with ⟨_, h⟩ | ⟨h, _⟩
          · simp at h
          · omega
        · rw [hh]; simp only [n3, hp1, Option.some.injEq, forall_eq', exists_eq_left']
          by_cases s1 : o.state = 1 <;> by_cases s2 : o.state = 2 <;> by_cases s3 : o.state = 3 <;> simp_all
      · rintro ⟨k1, k2⟩
        have k1' := k1 p h0 hp1
        rw [hh] at k2; simp only [n3, hp1, Option.some.injEq, forall_eq', exists_eq_left'] at k2
        have : ¬ now < endsV n p := by omega
        rcases k2 with k | k | k <;> simp_all
    · simp only [decide_eq_true h0, cond_true, hp, hy, t2, Option.bind_some, cond_some, cond_someN, Option.some.injEq, decide_eq_true_iff]
      have ng : ¬ o.gone < o.way.length := by omega
      constructor
      · intro h
        refine ⟨fun q _ hq => ?_, ?_⟩
        · rw [hp1] at hq; obtain rfl := Option.some.inj hq
          rcases h with ⟨_, h⟩ | ⟨h, _⟩
          · simp at h
          · omega
        · rw [hh]; simp only [n3, hp1, Option.some.injEq, forall_eq', exists_eq_left', reduceCtorEq, false_and, exists_false, false_implies, implies_true]
          by_cases s1 : o.state = 1 <;> by_cases s2 : o.state = 2 <;> by_cases s3 : o.state = 3 <;> simp_all
      · rintro ⟨k1, k2⟩
        have k1' := k1 p h0 hp1
        rw [hh] at k2; simp only [n3, hp1, Option.some.injEq, forall_eq', exists_eq_left', reduceCtorEq, false_and, exists_false, false_implies, implies_true] at k2
        have : ¬ now < endsV n p := by omega
        rcases k2 with k | k | k <;> simp_all
  · have hh : hereV n o = o.from_ := by unfold hereV; rw [if_neg h0]
    rcases nx with ⟨t, n1, n2, n3, n4, n5⟩ | ⟨n1, n3⟩
    · have ng : ¬ o.gone = o.way.length := by omega
      simp only [decide_eq_false h0, cond_false, n2, n4, n5, Option.bind_some, cond_some, cond_someN, Option.some.injEq, decide_eq_true_iff]
      constructor
      · intro h
        refine ⟨fun q hq => absurd hq h0, ?_⟩
        rw [hh]; simp only [n3, Option.some.injEq, forall_eq', exists_eq_left']
        by_cases s1 : o.state = 1 <;> by_cases s2 : o.state = 2 <;> by_cases s3 : o.state = 3 <;> simp_all
      · rintro ⟨k1, k2⟩
        rw [hh] at k2; simp only [n3, Option.some.injEq, forall_eq', exists_eq_left'] at k2
        rcases k2 with k | k | k <;> simp_all
    · have ng : ¬ o.gone < o.way.length := by omega
      simp only [decide_eq_false h0, cond_false, Option.bind_some, cond_some, cond_someN, Option.some.injEq, decide_eq_true_iff]
      constructor
      · intro h
        refine ⟨fun q hq => absurd hq h0, ?_⟩
        rw [hh]; simp only [n3, reduceCtorEq, false_and, exists_false, false_implies, implies_true]
        by_cases s1 : o.state = 1 <;> by_cases s2 : o.state = 2 <;> by_cases s3 : o.state = 3 <;> simp_all
      · rintro ⟨k1, k2⟩
        rw [hh] at k2; simp only [n3, reduceCtorEq, false_and, exists_false, false_implies, implies_true] at k2
        rcases k2 with k | k | k
        · simp_all
        · simp_all
        · exact absurd k.2.2.2.2.1 h0
end Go.Proofs.YtmcdjilbkmhfoaaGreat

/- What happens to an order at a time, and that it stays a valid one. -/
namespace Go.Proofs.YtmcdjilbkmhfoaaGreat
set_option maxRecDepth 10000
open Go.RowKit
set_option linter.unusedVariables false
set_option linter.unusedSimpArgs false
set_option linter.unusedSectionVars false
/-- What an order does next, and when. -/
def eventV (n : YNetwork) (o : YOrder) : Option Int := (o.way[o.gone.toNat]?).map fun t => if o.state = 2 then endsV n t else startV n t
def arr1 (n : YNetwork) (at_ : Int) (o : YOrder) (t : YTrip) : YOrder :=
  if legTo n t = o.to_ then { o with gone := o.gone + 1, state := 3, place := legTo n t, ended := at_ } else { o with gone := o.gone + 1, state := 1, place := legTo n t }
/-- Its ride ends. -/
def arriveV (n : YNetwork) (at_ : Int) (o : YOrder) : YOrder := match o.way[o.gone.toNat]? with
  | some t => if o.state = 2 ∧ endsV n t = at_ then arr1 n at_ o t else o
  | none => o
/-- Its ride begins. -/
def loadV (n : YNetwork) (at_ : Int) (o : YOrder) : YOrder := match o.way[o.gone.toNat]? with
  | some t => if o.state = 1 ∧ startV n t = at_ then { o with state := 2, place := ⟨#[]⟩ } else o
  | none => o
/-- What the rest of a world asks of an order's way. -/
structure WayOk (n : YNetwork) (o : YOrder) : Prop where
  gone : 0 ≤ o.gone ∧ o.gone ≤ o.way.length
  trip : ∀ t ∈ o.way, 0 ≤ startV n t ∧ startV n t < endsV n t ∧ endsV n t ≤ 100000
  next : ∀ (i : Nat) t t', o.way[i]? = some t → o.way[i + 1]? = some t' → endsV n t ≤ startV n t'
  last : ∀ (i : Nat) t, o.way[i]? = some t → legTo n t = o.to_ → i + 1 = o.way.length
/-- What stays as_ it was. -/
structure SameOrd (o o' : YOrder) : Prop where
  from_ : o'.from_ = o.from_
  to_ : o'.to_ = o.to_
  service : o'.service = o.service
  weight : o'.weight = o.weight
  at_ : o'.at_ = o.at_
  due : o'.due = o.due
  way : o'.way = o.way
theorem SameOrd.refl (o : YOrder) : SameOrd o o := ⟨rfl, rfl, rfl, rfl, rfl, rfl, rfl⟩
theorem SameOrd.trans {a b c : YOrder} (h : SameOrd a b) (k : SameOrd b c) : SameOrd a c := ⟨k.1.trans h.1, k.2.trans h.2, k.3.trans h.3, k.4.trans h.4, k.5.trans h.5, k.6.trans h.6, k.7.trans h.7⟩
theorem arrive_same (n : YNetwork) (at_ : Int) (o : YOrder) : SameOrd o (arriveV n at_ o) := by
  unfold arriveV arr1
  split
  · split
    · split <;> exact ⟨rfl, rfl, rfl, rfl, rfl, rfl, rfl⟩
    · exact .refl o
  · exact .refl o
theorem load_same (n : YNetwork) (at_ : Int) (o : YOrder) : SameOrd o (loadV n at_ o) := by
  unfold loadV
  split
  · split
    · exact ⟨rfl, rfl, rfl, rfl, rfl, rfl, rfl⟩
    · exact .refl o
  · exact .refl o
def stepV (n : YNetwork) (at_ : Int) (o : YOrder) : YOrder := loadV n at_ (arriveV n at_ o)
theorem step_same (n : YNetwork) (at_ : Int) (o : YOrder) : SameOrd o (stepV n at_ o) := (arrive_same n at_ o).trans (load_same n at_ _)
theorem WayOk.same {n : YNetwork} {o o' : YOrder} (h : WayOk n o) (k : SameOrd o o') (hg : 0 ≤ o'.gone ∧ o'.gone ≤ o.way.length) : WayOk n o' :=
  ⟨by rw [k.way]; exact hg, by rw [k.way]; exact h.trip, by rw [k.way]; exact h.next, by rw [k.way, k.to_]; exact h.last⟩
/-- How much is still to happen to an order. -/
def todoV (o : YOrder) : Nat := 2 * (o.way.length - o.gone.toNat) - (if o.state = 2 then 1 else 0)
/-- Where an order stands behind all that happened until a time. -/
structure Stands (n : YNetwork) (o : YOrder) (at_ : Int) : Prop where
  ok : StateOk n o at_
  gone : 0 ≤ o.gone ∧ o.gone ≤ o.way.length
  next : ∀ e, eventV n o = some e → at_ < e
theorem stands_of {n : YNetwork} {o : YOrder} {at_ : Int} (h : StateOk n o at_) (hg : 0 ≤ o.gone ∧ o.gone ≤ o.way.length) : Stands n o at_ := by
  refine ⟨h, hg, fun e he => ?_⟩
  unfold eventV at he
  rcases h.cases with ⟨c, _, _, _, k⟩ | ⟨c, _, _, t, k1, _, k3⟩ | ⟨c, _, _, k, _, _⟩
  · cases ht : o.way[o.gone.toNat]? with
    | none => rw [ht] at he; cases he
    | some t => rw [ht] at he; simp [c] at he; subst he; exact k t ht
  · rw [k1] at he; simp [c] at he; subst he; exact k3
  · rw [List.getElem?_eq_none (by omega)] at he; cases he
theorem load_ok {n : YNetwork} {o : YOrder} {at_ : Int} (hw : WayOk n o) (hp : ∀ t, 0 < o.gone → o.way[(o.gone - 1).toNat]? = some t → endsV n t ≤ at_)
    (hs : o.state = 1) (h1 : o.place = hereV n o) (h2 : ¬ hereV n o = o.to_) (h3 : o.ended = 0) (h4 : ∀ t, o.way[o.gone.toNat]? = some t → at_ ≤ startV n t) :
    Stands n (loadV n at_ o) at_ ∧ todoV (loadV n at_ o) ≤ todoV o ∧ ((∃ t, o.way[o.gone.toNat]? = some t ∧ startV n t = at_) → todoV (loadV n at_ o) < todoV o) := by
  unfold loadV
  cases ht : o.way[o.gone.toNat]? with
  | none =>
    refine ⟨stands_of ⟨hp, .inl ⟨hs, h1, h2, h3, fun t h => ?_⟩⟩ hw.gone, Nat.le_refl _, fun ⟨t, h, _⟩ => ?_⟩
    · rw [ht] at h; cases h
    · cases h
  | some t =>
    have hlt := (List.getElem?_eq_some_iff.1 ht).1
    obtain ⟨a1, a2, a3⟩ := hw.trip t (List.mem_of_getElem? ht)
    have h4' := h4 t ht
    by_cases hst : startV n t = at_
    · simp only [hs, hst, and_self, if_true]
      refine ⟨stands_of ⟨fun q hq => ?_, .inr (.inl ⟨rfl, rfl, h3, t, ht, by omega, by omega⟩)⟩ hw.gone, ?_, fun _ => ?_⟩
      · exact hp q hq
      · unfold todoV; simp only [hs]; simp
      · unfold todoV; simp only [hs]; simp; omega
    · have hng : ¬ (o.state = 1 ∧ startV n t = at_) := fun h => hst h.2
      simp only [if_neg hng]
      refine ⟨stands_of ⟨hp, .inl ⟨hs, h1, h2, h3, fun q hq => ?_⟩⟩ hw.gone, Nat.le_refl _, fun ⟨q, hq, hq2⟩ => ?_⟩
      · rw [ht] at hq; obtain rfl := Option.some.inj hq; omega
      · obtain rfl := Option.some.inj hq; exact absurd hq2 hst
theorem load_other {n : YNetwork} {o : YOrder} {at_ : Int} (hs : ¬ o.state = 1) : loadV n at_ o = o := by
  unfold loadV
  cases o.way[o.gone.toNat]? with
  | none => rfl
  | some t => simp [hs]
theorem step_ok {n : YNetwork} {o : YOrder} {now at_ : Int} (hw : WayOk n o) (h : StateOk n o now) (hn : now ≤ at_) (he : ∀ e, eventV n o = some e → at_ ≤ e) :
    Stands n (stepV n at_ o) at_ ∧ WayOk n (stepV n at_ o) ∧ todoV (stepV n at_ o) ≤ todoV o ∧ (eventV n o = some at_ → todoV (stepV n at_ o) < todoV o) := by
  have hg := hw.gone
  have main : Stands n (stepV n at_ o) at_ ∧ todoV (stepV n at_ o) ≤ todoV o ∧ (eventV n o = some at_ → todoV (stepV n at_ o) < todoV o) := by
    unfold stepV
    rcases h.cases with ⟨c1, c2, c3, c4, c5⟩ | ⟨c1, c2, c3, t, c4, c5, c6⟩ | ⟨c1, c2, c3, c4, c5, c6⟩
    · have e1 : arriveV n at_ o = o := by
        unfold arriveV
        cases o.way[o.gone.toNat]? with
        | none => rfl
        | some t => simp [c1]
      rw [e1]
      have h4 : ∀ t, o.way[o.gone.toNat]? = some t → at_ ≤ startV n t := fun t ht => he _ (by unfold eventV; rw [ht]; simp [c1])
      obtain ⟨a, b, c⟩ := load_ok hw (fun t h1 h2 => by have := h.past t h1 h2; omega) c1 c2 c3 c4 h4
      refine ⟨a, b, fun hev => c ?_⟩
      unfold eventV at hev
      cases ht : o.way[o.gone.toNat]? with
      | none => rw [ht] at hev; cases hev
      | some t => rw [ht] at hev; simp [c1] at hev; exact ⟨t, rfl, hev⟩
    · have hlt := (List.getElem?_eq_some_iff.1 c4).1
      obtain ⟨a1, a2, a3⟩ := hw.trip t (List.mem_of_getElem? c4)
      have he' := he (endsV n t) (by unfold eventV; rw [c4]; simp [c1])
      by_cases hx : endsV n t = at_
      · have e1 : arriveV n at_ o = arr1 n at_ o t := by unfold arriveV; rw [c4]; simp only [c1, hx, and_self, if_true]
        rw [e1]
        have hgn : (o.gone + 1 - 1).toNat = o.gone.toNat := by omega
        have hgs : (o.gone + 1).toNat = o.gone.toNat + 1 := by omega
        unfold arr1
        by_cases hd : legTo n t = o.to_
        · have hlen := hw.last _ t c4 hd
          rw [if_pos hd, load_other (by simp)]
          have hh : hereV n { o with gone := o.gone + 1, state := 3, place := legTo n t, ended := at_ } = legTo n t := by
            unfold hereV; simp only [hgn, c4]; rw [if_pos (by omega)]; rfl
          refine ⟨stands_of ⟨fun q _ hq => ?_, .inr (.inr ⟨rfl, hd, hh.trans hd, by simp only; omega, by simp only; omega, fun q hq => ?_⟩)⟩ (by simp only; omega), ?_, fun _ => ?_⟩
          · simp only [hgn, c4, Option.some.injEq] at hq; subst hq; omega
          · simp only [hgn, c4, Option.some.injEq] at hq; subst hq; exact hx.symm
          · unfold todoV; simp only [hgs, c1]; simp; omega
          · unfold todoV; simp only [hgs, c1]; simp; omega
        · rw [if_neg hd]
          have hh : hereV n { o with gone := o.gone + 1, state := 1, place := legTo n t } = legTo n t := by
            unfold hereV; simp only [hgn, c4]; rw [if_pos (by omega)]; rfl
          have hw' : WayOk n { o with gone := o.gone + 1, state := 1, place := legTo n t } := hw.same ⟨rfl, rfl, rfl, rfl, rfl, rfl, rfl⟩ (by simp only; omega)
          obtain ⟨a, b, c⟩ := load_ok (at_ := at_) hw' (fun q _ hq => by simp only [hgn, c4, Option.some.injEq] at hq; subst hq; omega) rfl hh.symm (by rw [hh]; exact hd) c3 (fun q hq => by
            simp only [hgs] at hq
            have := hw.next _ t q c4 hq
            omega)
          have hb : todoV { o with gone := o.gone + 1, state := 1, place := legTo n t } < todoV o := by unfold todoV; simp only [hgs, c1]; simp; omega
          exact ⟨a, by omega, fun _ => by omega⟩
      · have e1 : arriveV n at_ o = o := by unfold arriveV; rw [c4]; simp only [hx, and_false, if_false]
        rw [e1, load_other (by omega)]
        refine ⟨stands_of ⟨fun q h1 h2 => by have := h.past q h1 h2; omega, .inr (.inl ⟨c1, c2, c3, t, c4, by omega, by omega⟩)⟩ hg, Nat.le_refl _, fun hev => ?_⟩
        unfold eventV at hev
        rw [c4] at hev; simp [c1] at hev; exact absurd hev hx
    · have hnone : o.way[o.gone.toNat]? = none := List.getElem?_eq_none (by omega)
      have e1 : arriveV n at_ o = o := by unfold arriveV; rw [hnone]
      rw [e1, load_other (by omega)]
      refine ⟨stands_of ⟨fun q h1 h2 => by have := h.past q h1 h2; omega, .inr (.inr ⟨c1, c2, c3, c4, c5, c6⟩)⟩ hg, Nat.le_refl _, fun hev => ?_⟩
      unfold eventV at hev
      rw [hnone] at hev; cases hev
  have hs := step_same n at_ o
  exact ⟨main.1, hw.same hs (by have := main.1.gone; rw [hs.way] at this; exact this), main.2⟩
theorem todo_none {n : YNetwork} {o : YOrder} (hw : WayOk n o) {now : Int} (h : StateOk n o now) (h0 : todoV o = 0) : eventV n o = none := by
  have hg := hw.gone
  unfold eventV
  rcases h.cases with ⟨c, _⟩ | ⟨c, _, _, t, k1, _⟩ | ⟨c, _, _, k, _⟩
  · unfold todoV at h0; rw [if_neg (by omega)] at h0
    rw [List.getElem?_eq_none (by omega)]; rfl
  · have hlt := (List.getElem?_eq_some_iff.1 k1).1
    unfold todoV at h0; rw [if_pos c] at h0; omega
  · rw [List.getElem?_eq_none (by omega)]; rfl
end Go.Proofs.YtmcdjilbkmhfoaaGreat

/- What happens to a world at a time, and that it stays a valid one. -/
namespace Go.Proofs.YtmcdjilbkmhfoaaGreat
set_option maxRecDepth 10000
open Go.RowKit
set_option linter.unusedVariables false
set_option linter.unusedSimpArgs false
set_option linter.unusedSectionVars false
theorem world_scan {w : YWorld} (hf : WFit w) (hv : worldV w = true) {s : YScan} (hs : s ∈ w.scans) : m_spec_IsScan w.network s = some true ∧ s.at_ ≤ w.now := by
  unfold worldV at hv
  simp only [Bool.and_eq_true] at hv
  obtain ⟨j, hj, rfl⟩ := List.getElem_of_mem hs
  have := allI_iff.1 hv.1.1.2 j _ (List.getElem?_eq_getElem hj)
  unfold scanC at this
  simp only [Bool.and_eq_true, Bool.not_eq_true', decide_eq_false_iff_not] at this
  obtain ⟨b, hb⟩ := isScan_some hf.net w.scans[j]
  rw [hb] at this ⊢
  simp only [Option.getD_some] at this
  exact ⟨by rw [this.1], by omega⟩
def mkScan (skip : List Int) (p : List YScan × Int) (s : YScan) : List YScan × Int :=
  let m := if p.2 < 1000000000 then p.2 + 1 else p.2
  (if (skip.any fun y => decide (y = m)) = false ∧ p.1.length < 200 then p.1 ++ [s] else p.1, m)
def dropsV (n : YNetwork) (at_ : Int) (i : Nat) (o : YOrder) : List YScan := match o.way[o.gone.toNat]? with
  | some t => if o.state = 2 ∧ endsV n t = at_ then ⟨((i + 1 : Nat) : Int), at_, 2, ⟨#[]⟩, t⟩ :: (if legTo n t = o.to_ then [⟨((i + 1 : Nat) : Int), at_, 4, legTo n t, ⟨0, 0⟩⟩] else []) else []
  | none => []
def loadsV (n : YNetwork) (at_ : Int) (i : Nat) (o : YOrder) : List YScan := match o.way[o.gone.toNat]? with
  | some t => if o.state = 1 ∧ startV n t = at_ then [⟨((i + 1 : Nat) : Int), at_, 3, ⟨#[]⟩, t⟩] else []
  | none => []
def scansOf (f : Nat → YOrder → List YScan) : Nat → List YOrder → List YScan
  | _, [] => []
  | i, o :: os => f i o ++ scansOf f (i + 1) os
theorem scansOf_mem {f : Nat → YOrder → List YScan} {s : YScan} : ∀ {os : List YOrder} {i : Nat}, s ∈ scansOf f i os → ∃ j o, os[j]? = some o ∧ s ∈ f (i + j) o
  | [], _, h => by simp [scansOf] at h
  | o :: os, i, h => by
    simp only [scansOf, List.mem_append] at h
    rcases h with h | h
    · exact ⟨0, o, rfl, h⟩
    · obtain ⟨j, o', h1, h2⟩ := scansOf_mem h
      exact ⟨j + 1, o', by simpa using h1, by rwa [show i + (j + 1) = i + 1 + j by omega]⟩
def scans1 (w : YWorld) (at_ : Int) : List YScan := scansOf (dropsV w.network at_) 0 w.orders ++ scansOf (loadsV w.network at_) 0 (w.orders.map (arriveV w.network at_))
def happenV (w : YWorld) (at_ : Int) : YWorld :=
  { w with orders := w.orders.map (stepV w.network at_), now := at_, scans := ((scans1 w at_).foldl (mkScan w.skip) (w.scans, w.made)).1, made := ((scans1 w at_).foldl (mkScan w.skip) (w.scans, w.made)).2 }
structure WOk (w : YWorld) : Prop where
  fit : WFit w
  ok : worldV w = true
theorem WOk.net {w : YWorld} (h : WOk w) : m_spec_IsNetwork w.network = some true := world_net h.fit h.ok
theorem WOk.way {w : YWorld} (h : WOk w) {i : Nat} {o : YOrder} (ho : w.orders[i]? = some o) : WayOk w.network o := by
  have hok := world_ok h.fit h.ok ho
  have hl := h.fit.way o (List.mem_of_getElem? ho)
  have hch := isWay_chain h.fit.net h.net hl hok.isWay
  refine ⟨hok.gone, fun t ht => ?_, fun i t t' h1 h2 => ?_, fun i t h1 h2 => ?_⟩
  · obtain ⟨_, _, a, b, c⟩ := trip_time h.fit.net h.net (hok.trip t ht)
    exact ⟨a, b, c⟩
  · have := ((chain_at hch h1).2 t' h2).1
    have := (net_change h.net).1
    omega
  · have hw := allI_iff.1 hok.way i t h1
    unfold wayC at hw
    simp only [Nat.zero_add, Bool.and_eq_true, Bool.not_eq_true', Bool.and_eq_false_imp, decide_eq_true_iff, decide_eq_false_iff_not] at hw
    have h3 := hw.2 h2
    have := (List.getElem?_eq_some_iff.1 h1).1
    omega
theorem WOk.state {w : YWorld} (h : WOk w) {i : Nat} {o : YOrder} (ho : w.orders[i]? = some o) : StateOk w.network o w.now := by
  have hok := world_ok h.fit h.ok ho
  exact (state_iff h.fit.net h.net hok.gone (h.fit.way o (List.mem_of_getElem? ho)) hok.trip _).1 hok.st
theorem WOk.parts {w : YWorld} (h : WOk w) : (0 ≤ w.now ∧ w.now ≤ 100000) ∧ w.orders.length ≤ 30 ∧ w.closed.length ≤ 20 ∧ w.scans.length ≤ 200 ∧ w.skip.length ≤ 50 ∧ (w.scans.length ≤ w.made ∧ w.made ≤ 1000000000) ∧ w.bookings.length ≤ 120 := by
  have hb := books_net (world_books h.ok)
  have hv := h.ok
  unfold worldV at hv
  simp only [Bool.and_eq_true, Bool.not_eq_true', decide_eq_true_iff, decide_eq_false_iff_not] at hv
  obtain ⟨⟨⟨⟨⟨⟨⟨⟨⟨⟨h1, h2⟩, h3⟩, h4⟩, h5⟩, h6⟩, h7⟩, h8⟩, h9⟩, h10⟩, h11⟩ := hv
  exact ⟨h2, by omega, by omega, by omega, by omega, h7, hb.2⟩
/-- What the scans that a time makes are kept in. -/
structure ScansOk (n : YNetwork) (at_ : Int) (p : List YScan × Int) : Prop where
  good : ∀ s ∈ p.1, m_spec_IsScan n s = some true ∧ s.at_ ≤ at_
  len : p.1.length ≤ 200
  made : p.1.length ≤ p.2 ∧ p.2 ≤ 1000000000
theorem mkScan_ok {n : YNetwork} {at_ : Int} {skip : List Int} {p : List YScan × Int} {s : YScan} (h : ScansOk n at_ p) (hs : m_spec_IsScan n s = some true ∧ s.at_ ≤ at_) : ScansOk n at_ (mkScan skip p s) := by
  obtain ⟨h1, h2, h3⟩ := h
  unfold mkScan
  by_cases hm : p.2 < 1000000000
  · simp only [if_pos hm]
    split
    · rename_i hc
      exact ⟨fun x hx => by rcases List.mem_append.1 hx with hx | hx
                            · exact h1 x hx
                            · obtain rfl : x = s := by simpa using hx
                              exact hs, by simp; omega, by simp; omega⟩
    · exact ⟨h1, h2, by simp only; omega⟩
  · simp only [if_neg hm]
    split
    · rename_i hc
      exact ⟨fun x hx => by rcases List.mem_append.1 hx with hx | hx
                            · exact h1 x hx
                            · obtain rfl : x = s := by simpa using hx
                              exact hs, by simp; omega, by simp; omega⟩
    · exact ⟨h1, h2, by simp only; omega⟩
theorem fold_scans {n : YNetwork} {at_ : Int} {skip : List Int} : ∀ (l : List YScan) (p : List YScan × Int), ScansOk n at_ p → (∀ s ∈ l, m_spec_IsScan n s = some true ∧ s.at_ ≤ at_) → ScansOk n at_ (l.foldl (mkScan skip) p)
  | [], p, h, _ => h
  | s :: l, p, h, hl => fold_scans l _ (mkScan_ok h (hl s List.mem_cons_self)) fun x hx => hl x (List.mem_cons_of_mem _ hx)
theorem arrive_comes {n : YNetwork} {at_ : Int} {o : YOrder} : comesV o ≤ comesV (arriveV n at_ o) := by
  unfold arriveV
  split
  · split
    · rename_i t ht hc
      unfold arr1
      split <;> (unfold comesV; simp [hc.1])
    · exact Int.le_refl _
  · exact Int.le_refl _
theorem load_comes {n : YNetwork} {at_ : Int} {o : YOrder} : comesV o ≤ comesV (loadV n at_ o) := by
  unfold loadV
  split
  · split
    · rename_i t ht hc
      unfold comesV
      simp [hc.1]
      omega
    · exact Int.le_refl _
  · exact Int.le_refl _
theorem step_comes {n : YNetwork} {at_ : Int} {o : YOrder} : comesV o ≤ comesV (stepV n at_ o) := Int.le_trans arrive_comes load_comes
theorem drop_any {α : Type} {l : List α} {p : α → Bool} {a b : Nat} (h : a ≤ b) (hk : (l.drop a).any p = false) : (l.drop b).any p = false := by
  obtain ⟨c, rfl⟩ : ∃ c, b = a + c := ⟨b - a, by omega⟩
  rw [← List.drop_drop]
  rw [List.any_eq_false] at hk ⊢
  exact fun x hx => hk x (List.mem_of_mem_drop hx)
section
variable {w : YWorld} (h : WOk w) {at_ : Int} (hn : w.now ≤ at_) (hm : at_ ≤ 100000) (he : ∀ o ∈ w.orders, ∀ e, eventV w.network o = some e → at_ ≤ e)
include h hn hm he
theorem scan_parts {th : Int} {k : Int} {p : ByteArray} {t : YTrip} (h1 : 1 ≤ th ∧ th ≤ 9999)
    (hk : (k = 2 ∧ p = ⟨#[]⟩ ∧ tripB w.network t = true ∧ endsV w.network t ≤ at_) ∨ (k = 3 ∧ p = ⟨#[]⟩ ∧ tripB w.network t = true ∧ at_ ≤ startV w.network t) ∨ (k = 4 ∧ ¬ idxV (placesV w.network) p < 0 ∧ t = ⟨0, 0⟩)) :
    m_spec_IsScan w.network ⟨th, at_, k, p, t⟩ = some true := by
  have hnow := h.parts.1
  have hpl := placesV_len w.network
  have hll := h.fit.net.legs
  unfold m_spec_IsScan
  rw [h.net]
  simp only [Option.bind_some, l1In_v, Bool.not_true, cond_false, decide_eq_true h1.1, decide_eq_true h1.2, decide_eq_true (show 0 ≤ at_ by omega), decide_eq_true hm, Bool.and_self, (places_eq h.fit.net).2, l4Index_v (show (placesV w.network).length ≤ 4194304 by omega), isTrip_s h.fit.net h.net]
  rcases hk with ⟨rfl, rfl, h2, h3⟩ | ⟨rfl, rfl, h2, h3⟩ | ⟨rfl, h2, rfl⟩
  · obtain ⟨a1, a2, _⟩ := trip_time h.fit.net h.net h2
    simp [h2, a1, a2, h3]
  · obtain ⟨a1, a2, _⟩ := trip_time h.fit.net h.net h2
    simp [h2, a1, a2, h3]
  · have : 0 ≤ idxV (placesV w.network) p := by omega
    simp [this]
theorem scans1_ok : ∀ s ∈ scans1 w at_, m_spec_IsScan w.network s = some true ∧ s.at_ ≤ at_ := by
  have hlen := h.parts.2.1
  intro s hs
  unfold scans1 at hs
  rcases List.mem_append.1 hs with hs | hs
  · obtain ⟨j, o, ho, hj⟩ := scansOf_mem hs
    have hlt := (List.getElem?_eq_some_iff.1 ho).1
    have hok := world_ok h.fit h.ok ho
    rw [Nat.zero_add] at hj
    unfold dropsV at hj
    split at hj
    · rename_i t ht
      have htb := hok.trip t (List.mem_of_getElem? ht)
      split at hj
      · rename_i hc
        rcases List.mem_cons.1 hj with rfl | hj
        · exact ⟨scan_parts h hn hm he (by omega) (.inl ⟨rfl, rfl, htb, by omega⟩), Int.le_refl _⟩
        · split at hj
          · rename_i hd
            obtain rfl := List.mem_singleton.1 hj
            have hto : ¬ idxV (placesV w.network) o.to_ < 0 := by
              have := world_order h.ok ho
              unfold orderV at this
              simp only [Bool.and_eq_true, Bool.not_eq_true', decide_eq_false_iff_not] at this
              exact this.1.1.1.1.1.1.1.1.1.1.2
            exact ⟨scan_parts h hn hm he (by omega) (.inr (.inr ⟨rfl, by rw [hd]; exact hto, rfl⟩)), Int.le_refl _⟩
          · cases hj
      · cases hj
    · cases hj
  · obtain ⟨j, o, ho, hj⟩ := scansOf_mem hs
    have hlt := (List.getElem?_eq_some_iff.1 ho).1
    rw [List.length_map] at hlt
    rw [List.getElem?_map] at ho
    obtain ⟨o0, ho0, rfl⟩ := Option.map_eq_some_iff.1 ho
    have hok := world_ok h.fit h.ok ho0
    rw [Nat.zero_add] at hj
    unfold loadsV at hj
    split at hj
    · rename_i t ht
      rw [(arrive_same w.network at_ o0).way] at ht
      have htb := hok.trip t (List.mem_of_getElem? ht)
      split at hj
      · rename_i hc
        obtain rfl := List.mem_singleton.1 hj
        exact ⟨scan_parts h hn hm he (by omega) (.inr (.inl ⟨rfl, rfl, htb, by omega⟩)), Int.le_refl _⟩
      · cases hj
    · cases hj
theorem happen_order {i : Nat} {o : YOrder} (ho : w.orders[i]? = some o) (s : List YScan) (m : Int) : orderV { w with orders := w.orders.map (stepV w.network at_), now := at_, scans := s, made := m } i (stepV w.network at_ o) = true := by
  have hv := world_order h.ok ho
  have hok := world_ok h.fit h.ok ho
  have hl := h.fit.way o (List.mem_of_getElem? ho)
  have hs := step_same w.network at_ o
  obtain ⟨k1, k2, _⟩ := step_ok (h.way ho) (h.state ho) hn (he o (List.mem_of_getElem? ho))
  have hst := (state_iff h.fit.net h.net k2.gone (by rw [hs.way]; exact hl) (by rw [hs.way]; exact hok.trip) at_).2 k1.ok
  have hcm := step_comes (n := w.network) (at_ := at_) (o := o)
  have hgn := k2.gone
  unfold orderV at hv ⊢
  simp only [Bool.and_eq_true, Bool.not_eq_true', decide_eq_true_iff, decide_eq_false_iff_not] at hv ⊢
  obtain ⟨⟨⟨⟨⟨⟨⟨⟨⟨⟨⟨h1, h2⟩, h3⟩, h4⟩, h5⟩, h6⟩, h7⟩, h8⟩, h9⟩, h10⟩, h11⟩, h12⟩ := hv
  have hend : endV w.network (stepV w.network at_ o) = endV w.network o := by unfold endV; rw [hs.way, hs.from_]
  refine ⟨⟨⟨⟨⟨⟨⟨⟨⟨⟨⟨?_, ?_⟩, ?_⟩, ?_⟩, ?_⟩, ?_⟩, ?_⟩, ?_⟩, ?_⟩, ?_⟩, ?_⟩, ?_⟩
  · rw [hs.from_]; exact h1
  · rw [hs.to_]; exact h2
  · rw [hs.from_, hs.to_]; exact h3
  · rw [hs.service]; exact h4
  · rw [hs.weight]; exact h5
  · rw [hs.at_]; exact ⟨h6.1, Int.le_trans h6.2 hn⟩
  · rw [hs.due]; exact h7
  · exact hgn
  · rw [hs.way]
    refine (allI_congr fun j x hx => ?_).trans h9
    unfold wayC
    simp only [hs.weight, hs.to_, hs.way]
  · simp only [hend, hs.way, hs.from_, hs.at_]; exact h10
  · rw [hst]; rfl
  · rw [hs.way]
    exact drop_any (by omega) h12
theorem happen_ok : WOk (happenV w at_) := by
  have hp := h.parts
  have hv := h.ok
  have hsc := fold_scans (skip := w.skip) (scans1 w at_) (w.scans, w.made) (n := w.network) (at_ := at_) ⟨fun s hs => ?_, hp.2.2.2.1, hp.2.2.2.2.2.1⟩ (scans1_ok h hn hm he)
  · refine ⟨⟨h.fit.net, by simp only [happenV, List.length_map]; exact h.fit.orders, h.fit.bookings, h.fit.closed, by have := hsc.len; simp only [happenV]; omega, h.fit.skip, fun o ho => ?_⟩, ?_⟩
    · simp only [happenV, List.mem_map] at ho
      obtain ⟨o0, ho0, rfl⟩ := ho
      rw [(step_same w.network at_ o0).way]
      exact h.fit.way o0 ho0
    · unfold worldV at hv ⊢
      simp only [Bool.and_eq_true, Bool.not_eq_true', decide_eq_true_iff, decide_eq_false_iff_not] at hv ⊢
      obtain ⟨⟨⟨⟨⟨⟨⟨⟨⟨⟨h1, h2⟩, h3⟩, h4⟩, h5⟩, h6⟩, h7⟩, h8⟩, h9⟩, h10⟩, h11⟩ := hv
      have hl := hsc.len
      have hmd := hsc.made
      refine ⟨⟨⟨⟨⟨⟨⟨⟨⟨⟨h1, ?_⟩, ?_⟩, h4⟩, ?_⟩, h6⟩, ?_⟩, h8⟩, ?_⟩, ?_⟩, ?_⟩
      · simp only [happenV]; omega
      · simp only [happenV, List.length_map]; exact h3
      · simp only [happenV]; omega
      · simp only [happenV]; exact hmd
      · refine allI_iff.2 fun j s hj => ?_
        obtain ⟨a, b⟩ := hsc.good s (List.mem_of_getElem? hj)
        show ((m_spec_IsScan w.network s).getD false && !decide (at_ < s.at_)) = true
        rw [a, decide_eq_false (show ¬ at_ < s.at_ by omega)]; rfl
      · refine allI_iff.2 fun j o hj => ?_
        simp only [happenV, List.getElem?_map] at hj
        obtain ⟨o0, ho0, rfl⟩ := Option.map_eq_some_iff.1 hj
        rw [Nat.zero_add]
        exact happen_order h hn hm he ho0 _ _
      · unfold tripsV at h11 ⊢
        simp only [happenV, List.foldl_map]
        rw [← h11]
        congr 1
        funext a o
        rw [(step_same w.network at_ o).way]
  · have := world_scan h.fit h.ok hs
    exact ⟨this.1, by have := this.2; omega⟩
end
end Go.Proofs.YtmcdjilbkmhfoaaGreat

/- What happens next, and the run of a world until a time. -/
namespace Go.Proofs.YtmcdjilbkmhfoaaGreat
set_option maxRecDepth 10000
open Go.RowKit
set_option linter.unusedVariables false
set_option linter.unusedSimpArgs false
set_option linter.unusedSectionVars false
def lessV (a : Int) (e : Option Int) : Int := match e with
  | some v => if a < 0 ∨ v < a then v else a
  | none => a
def nextV (w : YWorld) : Int := w.orders.foldl (fun a o => lessV a (eventV w.network o)) (-1)
theorem fold_less {n : YNetwork} : ∀ (os : List YOrder) (a : Int), (∀ o ∈ os, ∀ e, eventV n o = some e → 0 ≤ e) → a < 0 ∨ 0 ≤ a →
    (os.foldl (fun a o => lessV a (eventV n o)) a = a ∧ a < 0 ∧ ∀ o ∈ os, eventV n o = none) ∨
    (0 ≤ os.foldl (fun a o => lessV a (eventV n o)) a ∧ (os.foldl (fun a o => lessV a (eventV n o)) a = a ∨ ∃ o ∈ os, eventV n o = some (os.foldl (fun a o => lessV a (eventV n o)) a)) ∧ (0 ≤ a → os.foldl (fun a o => lessV a (eventV n o)) a ≤ a) ∧ ∀ o ∈ os, ∀ e, eventV n o = some e → os.foldl (fun a o => lessV a (eventV n o)) a ≤ e)
  | [], a, _, ha => by
    rcases ha with ha | ha
    · exact .inl ⟨rfl, ha, fun o h => by cases h⟩
    · exact .inr ⟨ha, .inl rfl, fun _ => Int.le_refl _, fun o h => by cases h⟩
  | o :: os, a, h, ha => by
    simp only [List.foldl_cons]
    have h0 := h o List.mem_cons_self
    have hs := fun x hx => h x (List.mem_cons_of_mem o hx)
    cases ho : eventV n o with
    | none =>
      have e : lessV a none = a := rfl
      rw [e]
      rcases fold_less os a hs ha with ⟨k1, k2, k3⟩ | ⟨k1, k2, k3, k4⟩
      · exact .inl ⟨k1, k2, fun x hx => by rcases List.mem_cons.1 hx with rfl | hx
                                           · exact ho
                                           · exact k3 x hx⟩
      · refine .inr ⟨k1, ?_, k3, fun x hx e he => ?_⟩
        · rcases k2 with k2 | ⟨x, hx, k2⟩
          · exact .inl k2
          · exact .inr ⟨x, List.mem_cons_of_mem _ hx, k2⟩
        · rcases List.mem_cons.1 hx with rfl | hx
          · rw [ho] at he; cases he
          · exact k4 x hx e he
    | some v =>
      have hv := h0 v ho
      have e : 0 ≤ lessV a (some v) ∧ lessV a (some v) ≤ v ∧ (0 ≤ a → lessV a (some v) ≤ a) ∧ (lessV a (some v) = a ∨ lessV a (some v) = v) := by
        unfold lessV; simp only; split <;> omega
      obtain ⟨e1, e2, e3, e4⟩ := e
      rcases fold_less os (lessV a (some v)) hs (.inr e1) with ⟨k1, k2, k3⟩ | ⟨k1, k2, k3, k4⟩
      · omega
      · have k3' := k3 e1
        refine .inr ⟨k1, ?_, fun ha => by have := e3 ha; omega, fun x hx e he => ?_⟩
        · rcases k2 with k2 | ⟨x, hx, k2⟩
          · rcases e4 with e4 | e4
            · exact .inl (by rw [k2, e4])
            · exact .inr ⟨o, List.mem_cons_self, by rw [k2, e4, ho]⟩
          · exact .inr ⟨x, List.mem_cons_of_mem _ hx, k2⟩
        · rcases List.mem_cons.1 hx with rfl | hx
          · rw [ho] at he; obtain rfl := Option.some.inj he; omega
          · exact k4 x hx e he
theorem event_pos {n : YNetwork} {o : YOrder} (h : WayOk n o) {e : Int} (he : eventV n o = some e) : 0 ≤ e ∧ e ≤ 100000 := by
  unfold eventV at he
  cases ht : o.way[o.gone.toNat]? with
  | none => rw [ht] at he; cases he
  | some t =>
    rw [ht] at he
    obtain ⟨a, b, c⟩ := h.trip t (List.mem_of_getElem? ht)
    simp only [Option.map_some, Option.some.injEq] at he
    subst he
    split <;> omega
theorem next_spec {w : YWorld} (h : WOk w) : (nextV w = -1 ∧ ∀ o ∈ w.orders, eventV w.network o = none) ∨
    (w.now < nextV w ∧ nextV w ≤ 100000 ∧ (∃ o ∈ w.orders, eventV w.network o = some (nextV w)) ∧ ∀ o ∈ w.orders, ∀ e, eventV w.network o = some e → nextV w ≤ e) := by
  have hp : ∀ o ∈ w.orders, ∀ e, eventV w.network o = some e → 0 ≤ e ∧ e ≤ 100000 := fun o ho e he => by
    obtain ⟨i, hi, rfl⟩ := List.getElem_of_mem ho
    exact event_pos (h.way (List.getElem?_eq_getElem hi)) he
  rcases fold_less w.orders (-1) (fun o ho e he => (hp o ho e he).1) (.inl (by omega)) with ⟨k1, _, k3⟩ | ⟨k1, k2, _, k4⟩
  · exact .inl ⟨k1, k3⟩
  · rcases k2 with k2 | ⟨o, ho, k2⟩
    · exact absurd k1 (by rw [k2]; omega)
    · refine .inr ⟨?_, (hp o ho _ k2).2, ⟨o, ho, k2⟩, k4⟩
      obtain ⟨i, hi, rfl⟩ := List.getElem_of_mem ho
      have hs := stands_of (h.state (List.getElem?_eq_getElem hi)) (h.way (List.getElem?_eq_getElem hi)).gone
      exact hs.next _ k2
theorem next_of_neg {w : YWorld} (h : WOk w) (hn : nextV w < 0) : nextV w = -1 ∧ ∀ o ∈ w.orders, eventV w.network o = none := by
  have := h.parts.1
  rcases next_spec h with k | ⟨k, _⟩
  · exact k
  · omega
/-- The time after the next event. -/
theorem happen_next {w : YWorld} (h : WOk w) (hn : 0 ≤ nextV w) : WOk (happenV w (nextV w)) ∧ w.now < nextV w ∧ nextV w ≤ 100000 := by
  rcases next_spec h with ⟨k, _⟩ | ⟨k1, k2, k3, k4⟩
  · omega
  · exact ⟨happen_ok h (by omega) k2 k4, k1, k2⟩
def todoW (w : YWorld) : Nat := (w.orders.map todoV).sum
theorem sum_lt {α : Type} {f g : α → Nat} : ∀ {l : List α}, (∀ x ∈ l, f x ≤ g x) → (∃ x ∈ l, f x < g x) → (l.map f).sum < (l.map g).sum
  | [], _, ⟨x, h, _⟩ => by cases h
  | a :: l, h, ⟨x, hx, hlt⟩ => by
    have h1 := h a List.mem_cons_self
    have h2 : (l.map f).sum ≤ (l.map g).sum := sum_le fun x hx => h x (List.mem_cons_of_mem _ hx)
    simp only [List.map_cons, List.sum_cons]
    rcases List.mem_cons.1 hx with rfl | hx
    · omega
    · have := sum_lt (fun x hx => h x (List.mem_cons_of_mem _ hx)) ⟨x, hx, hlt⟩
      omega
where
  sum_le {α : Type} {f g : α → Nat} : ∀ {l : List α}, (∀ x ∈ l, f x ≤ g x) → (l.map f).sum ≤ (l.map g).sum
  | [], _ => Nat.le_refl _
  | a :: l, h => by
    have h1 := h a List.mem_cons_self
    have h2 := sum_le fun x hx => h x (List.mem_cons_of_mem _ hx)
    simp only [List.map_cons, List.sum_cons]
    omega
theorem happen_todo {w : YWorld} (h : WOk w) (hn : 0 ≤ nextV w) : todoW (happenV w (nextV w)) < todoW w := by
  rcases next_spec h with ⟨k, _⟩ | ⟨k1, k2, ⟨o, ho, k3⟩, k4⟩
  · omega
  · have hstep : ∀ x ∈ w.orders, todoV (stepV w.network (nextV w) x) ≤ todoV x ∧ (eventV w.network x = some (nextV w) → todoV (stepV w.network (nextV w) x) < todoV x) := fun x hx => by
      obtain ⟨i, hi, rfl⟩ := List.getElem_of_mem hx
      have hi' := List.getElem?_eq_getElem hi
      exact (step_ok (h.way hi') (h.state hi') (by omega) (k4 _ hx)).2.2
    unfold todoW happenV
    simp only [List.map_map]
    exact sum_lt (f := todoV ∘ stepV w.network (nextV w)) (fun x hx => (hstep x hx).1) ⟨o, ho, (hstep o ho).2 k3⟩
/-- The run of a world until a time. -/
def runV : Nat → YWorld → Int → YWorld
  | 0, w, _ => w
  | k + 1, w, u => if nextV w < 0 ∨ u < nextV w then w else runV k (happenV w (nextV w)) u
theorem todo_zero {w : YWorld} (h : WOk w) (h0 : todoW w = 0) : nextV w = -1 := by
  rcases next_spec h with ⟨k, _⟩ | ⟨k1, k2, ⟨o, ho, k3⟩, k4⟩
  · exact k
  · exfalso
    have hz : todoV o = 0 := by
      unfold todoW at h0
      have := List.sum_eq_zero_iff_forall_eq_nat.1 h0 (todoV o) (List.mem_map_of_mem ho)
      exact this
    obtain ⟨i, hi, rfl⟩ := List.getElem_of_mem ho
    have hi' := List.getElem?_eq_getElem hi
    rw [todo_none (h.way hi') (h.state hi') hz] at k3
    cases k3
/-- What stays of a world in a run. -/
structure SameW (w w' : YWorld) : Prop where
  network : w'.network = w.network
  bookings : w'.bookings = w.bookings
  closed : w'.closed = w.closed
  skip : w'.skip = w.skip
  len : w'.orders.length = w.orders.length
  ord : ∀ (i : Nat) (o o' : YOrder), w.orders[i]? = some o → w'.orders[i]? = some o' → SameOrd o o'
theorem SameW.refl (w : YWorld) : SameW w w := ⟨rfl, rfl, rfl, rfl, rfl, fun i o o' h h' => by rw [h] at h'; obtain rfl := Option.some.inj h'; exact .refl o⟩
theorem SameW.trans {a b c : YWorld} (h : SameW a b) (k : SameW b c) : SameW a c := by
  refine ⟨k.network.trans h.network, k.bookings.trans h.bookings, k.closed.trans h.closed, k.skip.trans h.skip, k.len.trans h.len, fun i o o' h1 h2 => ?_⟩
  have hlt := (List.getElem?_eq_some_iff.1 h1).1
  have hb : b.orders[i]? = some (b.orders[i]'(by rw [h.len]; exact hlt)) := List.getElem?_eq_getElem _
  exact (h.ord i o _ h1 hb).trans (k.ord i _ o' hb h2)
theorem happen_same (w : YWorld) (at_ : Int) : SameW w (happenV w at_) := by
  refine ⟨rfl, rfl, rfl, rfl, by simp [happenV], fun i o o' h h' => ?_⟩
  simp only [happenV, List.getElem?_map, h, Option.map_some, Option.some.injEq] at h'
  subst h'
  exact step_same _ _ o
theorem run_ok : ∀ (k : Nat) (w : YWorld) (u : Int), WOk w → todoW w ≤ k → u ≤ 100000 → WOk (runV k w u) ∧ (nextV (runV k w u) < 0 ∨ u < nextV (runV k w u)) ∧ SameW w (runV k w u) ∧ (w.now ≤ u → (runV k w u).now ≤ u)
  | 0, w, u, h, h0, hu => ⟨h, .inl (by have := todo_zero h (by omega); show nextV w < 0; omega), .refl w, fun h => h⟩
  | k + 1, w, u, h, h0, hu => by
    unfold runV
    split
    · rename_i hc
      exact ⟨h, hc, .refl w, fun h => h⟩
    · rename_i hc
      obtain ⟨a, b, c⟩ := happen_next h (by omega)
      have ht := happen_todo h (by omega)
      obtain ⟨r1, r2, r3, r4⟩ := run_ok k (happenV w (nextV w)) u a (by omega) hu
      exact ⟨r1, r2, (happen_same w _).trans r3, fun _ => r4 (by show nextV w ≤ u; omega)⟩
theorem run_more : ∀ (k j : Nat) (w : YWorld) (u : Int), WOk w → todoW w ≤ k → u ≤ 100000 → runV (k + j) w u = runV k w u
  | 0, j, w, u, h, h0, hu => by
    have := todo_zero h (by omega)
    cases j with
    | zero => rfl
    | succ j => show runV (0 + j + 1) w u = w
                unfold runV
                rw [if_pos (.inl (by omega))]
  | k + 1, j, w, u, h, h0, hu => by
    rw [show k + 1 + j = (k + j) + 1 by omega]
    unfold runV
    split
    · rfl
    · rename_i hc
      obtain ⟨a, b, c⟩ := happen_next h (by omega)
      have ht := happen_todo h (by omega)
      exact run_more k j _ u a (by omega) hu
theorem run_any {k j : Nat} {w : YWorld} {u : Int} (h : WOk w) (hk : todoW w ≤ k) (hj : todoW w ≤ j) (hu : u ≤ 100000) : runV k w u = runV j w u := by
  obtain ⟨a, rfl⟩ : ∃ a, k = todoW w + a := ⟨k - todoW w, by omega⟩
  obtain ⟨b, rfl⟩ : ∃ b, j = todoW w + b := ⟨j - todoW w, by omega⟩
  rw [run_more _ a w u h (Nat.le_refl _) hu, run_more _ b w u h (Nat.le_refl _) hu]
/-- The clock is set on: no event until then. -/
theorem setNow_ok {w : YWorld} (h : WOk w) {u : Int} (hu : w.now ≤ u) (hm : u ≤ 100000) (hn : nextV w < 0 ∨ u < nextV w) : WOk { w with now := u } := by
  have he : ∀ o ∈ w.orders, ∀ e, eventV w.network o = some e → u < e := fun o ho e he => by
    rcases next_spec h with ⟨_, k⟩ | ⟨k1, _, _, k4⟩
    · rw [k o ho] at he; cases he
    · have := k4 o ho e he
      have := h.parts.1
      omega
  have hst : ∀ o ∈ w.orders, stepV w.network u o = o := fun o ho => by
    have hev := he o ho
    have e1 : arriveV w.network u o = o := by
      unfold arriveV
      cases ht : o.way[o.gone.toNat]? with
      | none => rfl
      | some t =>
        simp only
        rw [if_neg]
        rintro ⟨c1, c2⟩
        have := hev u (by unfold eventV; rw [ht]; simp [c1, c2])
        omega
    unfold stepV
    rw [e1]
    unfold loadV
    cases ht : o.way[o.gone.toNat]? with
    | none => rfl
    | some t =>
      simp only
      rw [if_neg]
      rintro ⟨c1, c2⟩
      have := hev u (by unfold eventV; rw [ht]; simp [c1, c2])
      omega
  have hmap : w.orders.map (stepV w.network u) = w.orders := by
    conv => rhs; rw [← List.map_id w.orders]
    exact List.map_congr_left fun o ho => hst o ho
  have hok := happen_ok h hu hm (fun o ho e h' => by have := he o ho e h'; omega)
  have hv := h.ok
  have hk := hok.ok
  refine ⟨⟨h.fit.net, h.fit.orders, h.fit.bookings, h.fit.closed, h.fit.scans, h.fit.skip, h.fit.way⟩, ?_⟩
  unfold worldV at hv hk ⊢
  simp only [Bool.and_eq_true, Bool.not_eq_true', decide_eq_true_iff, decide_eq_false_iff_not] at hv hk ⊢
  obtain ⟨⟨⟨⟨⟨⟨⟨⟨⟨⟨h1, h2⟩, h3⟩, h4⟩, h5⟩, h6⟩, h7⟩, h8⟩, h9⟩, h10⟩, h11⟩ := hv
  obtain ⟨⟨⟨⟨⟨⟨⟨⟨⟨⟨k1, k2⟩, k3⟩, k4⟩, k5⟩, k6⟩, k7⟩, k8⟩, k9⟩, k10⟩, k11⟩ := hk
  refine ⟨⟨⟨⟨⟨⟨⟨⟨⟨⟨h1, ⟨by omega, hm⟩⟩, h3⟩, h4⟩, h5⟩, h6⟩, h7⟩, h8⟩, ?_⟩, ?_⟩, h11⟩
  · refine allI_iff.2 fun j s hj => ?_
    have := allI_iff.1 h9 j s hj
    unfold scanC at this ⊢
    simp only [Bool.and_eq_true, Bool.not_eq_true', decide_eq_false_iff_not] at this ⊢
    exact ⟨this.1, by omega⟩
  · refine allI_iff.2 fun j o hj => ?_
    have hj' : (happenV w u).orders[j]? = some o := by simp only [happenV, hmap]; exact hj
    have := allI_iff.1 k10 j o hj'
    have e : ∀ i, orderV (happenV w u) i o = orderV { w with now := u } i o := fun i => rfl
    rw [← e]; exact this
def advV (w : YWorld) (u : Int) : YWorld := { runV (todoW w) w u with now := u }
theorem adv_ok {w : YWorld} (h : WOk w) {u : Int} (hu : w.now ≤ u) (hm : u ≤ 100000) : WOk (advV w u) ∧ SameW w (advV w u) ∧ (nextV (advV w u) < 0 ∨ u < nextV (advV w u)) := by
  obtain ⟨a, b, c, d⟩ := run_ok _ w u h (Nat.le_refl _) hm
  exact ⟨setNow_ok a (d hu) hm b, ⟨c.network, c.bookings, c.closed, c.skip, c.len, c.ord⟩, b⟩
theorem next_now (w : YWorld) (m : Int) : nextV { w with now := m } = nextV w := rfl
theorem happen_now (w : YWorld) (m a : Int) : happenV { w with now := m } a = happenV w a := rfl
theorem todo_now (w : YWorld) (m : Int) : todoW { w with now := m } = todoW w := rfl
theorem run_now : ∀ (k : Nat) (w : YWorld) (m u v : Int), { runV k { w with now := m } u with now := v } = { runV k w u with now := v }
  | 0, w, m, u, v => rfl
  | k + 1, w, m, u, v => by
    unfold runV
    rw [next_now]
    split
    · rfl
    · rw [happen_now]
theorem run_todo : ∀ (k : Nat) (w : YWorld) (m : Int), WOk w → todoW w ≤ k → todoW (runV k w m) ≤ todoW w
| 0, w, m, h, _ => Nat.le_refl _
| k + 1, w, m, h, h0 => by
  unfold runV
  split
  · exact Nat.le_refl _
  · obtain ⟨a, b, c⟩ := happen_next h (by omega)
    have ht := happen_todo h (by omega)
    have := run_todo k (happenV w (nextV w)) m a (by omega)
    omega
theorem run_split : ∀ (k : Nat) (w : YWorld) (m u : Int), WOk w → todoW w ≤ k → m ≤ u → u ≤ 100000 → runV k (runV k w m) u = runV k w u
  | 0, w, m, u, h, h0, hmu, hu => rfl
  | k + 1, w, m, u, h, h0, hmu, hu => by
    by_cases hc : nextV w < 0 ∨ m < nextV w
    · have e : runV (k + 1) w m = w := by unfold runV; rw [if_pos hc]
      rw [e]
    · obtain ⟨a, b, c⟩ := happen_next h (by omega)
      have ht := happen_todo h (by omega)
      have e1 : runV (k + 1) w m = runV k (happenV w (nextV w)) m := by conv => lhs; unfold runV; rw [if_neg hc]
      have e2 : runV (k + 1) w u = runV k (happenV w (nextV w)) u := by conv => lhs; unfold runV; rw [if_neg (by omega)]
      obtain ⟨r1, r2, r3, r4⟩ := run_ok k (happenV w (nextV w)) m a (by omega) (by omega)
      have hk : todoW (runV k (happenV w (nextV w)) m) ≤ k := Nat.le_trans (run_todo k _ m a (by omega)) (by omega)
      rw [e1, e2, run_any r1 (show _ ≤ k + 1 by omega) hk hu]
      exact run_split k _ m u a (by omega) hmu hu
/-- Time that passes in two parts passes in one. -/
theorem adv_adv {w : YWorld} (h : WOk w) {m u : Int} (h0 : w.now ≤ m) (hmu : m ≤ u) (hu : u ≤ 100000) : advV (advV w m) u = advV w u := by
  obtain ⟨a, b, c, d⟩ := run_ok _ w m h (Nat.le_refl _) (by omega)
  have ht := run_todo (todoW w) w m h (Nat.le_refl _)
  unfold advV
  rw [run_now, todo_now, run_any a (Nat.le_refl _) ht hu, run_split _ w m u h (Nat.le_refl _) hmu hu]
end Go.Proofs.YtmcdjilbkmhfoaaGreat

/- The mirror of impl_hasInt, and that the code does just that (printed by a program of my own). -/
namespace Go.Proofs.YtmcdjilbkmhfoaaGreat
set_option maxRecDepth 10000
open Go.RowKit
set_option linter.unusedVariables false
set_option maxHeartbeats 16000000
def m_impl_hasInt_b0 (l : List Int) (n : Int) (s0 : Int) : Option (Int ⊕ (Unit ⊕ Bool)) :=
 cond (decide (s0 < (l.length : Int)))
 ((getI l s0).bind fun y1 =>
 cond (decide (y1 = n))
 (some (.inr (.inr true)))
 (some (.inl (w64 (s0 + 1)))))
 (some (.inr (.inl ())))
instance (l : List Int) (n : Int) : LoopE (m_impl_hasInt_b0 l n) := ⟨fun s0 => [.un, vi n, .un, .un, .un, .un, .un, .sl (l.map cInt), vi (l.length : Int), vi s0, .un, .un, .un, .un, .un, .un, .un], fun s0 => []⟩
def m_impl_hasInt (l : List Int) (n : Int) : Option Bool :=
 (iterF (m_impl_hasInt_b0 l n) NN 0).bind (selim (fun o0 =>
 some false) (fun r => some r))
theorem ok_impl_hasInt (l : List Int) (n : Int) {r : Bool} (H : m_impl_hasInt l n = some r) : CallM Tryz.prog 204 [.sl (l.map cInt), vi n] [] (vb r) [] := by
  replace H := H0 H
  unfold m_impl_hasInt at H
  refine callM_of Tryz.func204 rfl Tryz.ntmps204 Tryz.results204 fun Q hQ hQn => ?_
  exact wk2
instance (l : List Int) (n : Int) : CT Tryz.prog (m_impl_hasInt l n) := ⟨204, [.sl (l.map cInt), vi n], [], fun r => vb r, fun r => [], ok_impl_hasInt l n⟩
end Go.Proofs.YtmcdjilbkmhfoaaGreat

/- The mirror of p0_impl_makeScan, and that the code does just that (printed by a program of my own). -/
namespace Go.Proofs.YtmcdjilbkmhfoaaGreat
set_option maxRecDepth 10000
open Go.RowKit
set_option linter.unusedVariables false
set_option maxHeartbeats 16000000
def m_p0_impl_makeScan (w : YWorld) (s : YScan) : Option YWorld :=
 (m_impl_hasInt w.skip (if 1000000000 < (w64 (w.made + 1)) then 1000000000 else (w64 (w.made + 1)))).bind fun y1 =>
 cond (!y1)
 (cond (decide ((w.scans.length : Int) < 200))
 ((chk (appOk ((w.scans : List YScan).length + ([s] : List YScan).length) 56)).bind fun _ =>
 some (⟨w.network, w.orders, w.bookings, w.closed, w.now, ((w.scans : List YScan) ++ [s]), w.skip, (if 1000000000 < (w64 (w.made + 1)) then 1000000000 else (w64 (w.made + 1)))⟩ : YWorld))
 (some (⟨w.network, w.orders, w.bookings, w.closed, w.now, w.scans, w.skip, (if 1000000000 < (w64 (w.made + 1)) then 1000000000 else (w64 (w.made + 1)))⟩ : YWorld)))
 (some (⟨w.network, w.orders, w.bookings, w.closed, w.now, w.scans, w.skip, (if 1000000000 < (w64 (w.made + 1)) then 1000000000 else (w64 (w.made + 1)))⟩ : YWorld))
theorem ok_p0_impl_makeScan (w : YWorld) (s : YScan) {r : YWorld} (H : m_p0_impl_makeScan w s = some r) : CallM Tryz.prog 138 [.be 0 0 0, .ag (cScan s)] [some ⟨41, 10, [[.ms 1, .ms 2, vi w.network.change, .ms 3, .ms 4, .ms 5, vi w.now, .ms 6, .ms 7, vi w.made]]⟩, some ⟨67, 6, w.network.legs.map cLeg⟩, some ⟨3, 1, w.network.off.map cInt⟩, some ⟨62, 11, w.orders.map cOrder⟩, some ⟨135, 4, w.bookings.map cBooking⟩, some ⟨55, 2, w.closed.map cTrip⟩, some ⟨130, 6, w.scans.map cScan⟩, some ⟨3, 1, w.skip.map cInt⟩] (.tu []) [some ⟨41, 10, [[.ms 1, .ms 2, vi r.network.change, .ms 3, .ms 4, .ms 5, vi r.now, .ms 8, .ms 7, vi r.made]]⟩, some ⟨67, 6, r.network.legs.map cLeg⟩, some ⟨3, 1, r.network.off.map cInt⟩, some ⟨62, 11, r.orders.map cOrder⟩, some ⟨135, 4, r.bookings.map cBooking⟩, some ⟨55, 2, r.closed.map cTrip⟩, none, some ⟨3, 1, r.skip.map cInt⟩, some ⟨130, 6, r.scans.map cScan⟩] := by
  replace H := H0 H
  unfold m_p0_impl_makeScan at H
  refine callM_of Tryz.func138 rfl Tryz.ntmps138 Tryz.results138 fun Q hQ hQn => ?_
  exact wk2
instance (w : YWorld) (s : YScan) : CT Tryz.prog (m_p0_impl_makeScan w s) := ⟨138, [.be 0 0 0, .ag (cScan s)], [some ⟨41, 10, [[.ms 1, .ms 2, vi w.network.change, .ms 3, .ms 4, .ms 5, vi w.now, .ms 6, .ms 7, vi w.made]]⟩, some ⟨67, 6, w.network.legs.map cLeg⟩, some ⟨3, 1, w.network.off.map cInt⟩, some ⟨62, 11, w.orders.map cOrder⟩, some ⟨135, 4, w.bookings.map cBooking⟩, some ⟨55, 2, w.closed.map cTrip⟩, some ⟨130, 6, w.scans.map cScan⟩, some ⟨3, 1, w.skip.map cInt⟩], fun r => .tu [], fun r => [some ⟨41, 10, [[.ms 1, .ms 2, vi r.network.change, .ms 3, .ms 4, .ms 5, vi r.now, .ms 8, .ms 7, vi r.made]]⟩, some ⟨67, 6, r.network.legs.map cLeg⟩, some ⟨3, 1, r.network.off.map cInt⟩, some ⟨62, 11, r.orders.map cOrder⟩, some ⟨135, 4, r.bookings.map cBooking⟩, some ⟨55, 2, r.closed.map cTrip⟩, none, some ⟨3, 1, r.skip.map cInt⟩, some ⟨130, 6, r.scans.map cScan⟩], ok_p0_impl_makeScan w s⟩
end Go.Proofs.YtmcdjilbkmhfoaaGreat

/- The mirror of p0_impl_happen, and that the code does just that (printed by a program of my own). -/
namespace Go.Proofs.YtmcdjilbkmhfoaaGreat
set_option maxRecDepth 10000
open Go.RowKit
set_option linter.unusedVariables false
set_option maxHeartbeats 16000000
def m_p0_impl_happen_b0 (w : YWorld) (at1_ : Int) (s0 : Int × Int × Int × Int × (List YLeg) × (List Int) × (List YOrder) × (List YBooking) × (List YTrip) × (List Int) × (List YScan)) : Option ((Int × Int × Int × Int × (List YLeg) × (List Int) × (List YOrder) × (List YBooking) × (List YTrip) × (List Int) × (List YScan)) ⊕ (Int × Int × Int × (List YLeg) × (List Int) × (List YOrder) × (List YBooking) × (List YTrip) × (List Int) × (List YScan))) :=
 cond (decide (s0.1 < (w.orders.length : Int)))
 ((getI s0.2.2.2.2.2.2.1 s0.1).bind fun y1 =>
 cond (!decide (y1.state = 2))
 (some (.inl ((w64 (s0.1 + 1)), s0.2.1, s0.2.2.1, s0.2.2.2.1, s0.2.2.2.2.1, s0.2.2.2.2.2.1, s0.2.2.2.2.2.2.1, s0.2.2.2.2.2.2.2.1, s0.2.2.2.2.2.2.2.2.1, s0.2.2.2.2.2.2.2.2.2.1, s0.2.2.2.2.2.2.2.2.2.2)))
 ((getI y1.way y1.gone).bind fun y2 =>
 (m_impl_ends (⟨s0.2.2.2.2.1, s0.2.2.2.2.2.1, w.network.change⟩ : YNetwork) y2).bind fun y3 =>
 cond (!decide (y3 = at1_))
 (some (.inl ((w64 (s0.1 + 1)), s0.2.1, s0.2.2.1, s0.2.2.2.1, s0.2.2.2.2.1, s0.2.2.2.2.2.1, s0.2.2.2.2.2.2.1, s0.2.2.2.2.2.2.2.1, s0.2.2.2.2.2.2.2.2.1, s0.2.2.2.2.2.2.2.2.2.1, s0.2.2.2.2.2.2.2.2.2.2)))
 ((rgI s0.2.2.2.2.2.2.1 s0.1).bind fun y4 =>
 (getI y4.way y4.gone).bind fun y5 =>
 (rgI s0.2.2.2.2.2.2.1 s0.1).bind fun y6 =>
 (getI s0.2.2.2.2.1 y5.leg).bind fun y7 =>
 (rgI s0.2.2.2.2.2.2.1 s0.1).bind fun y8 =>
 (frzL (s0.2.2.2.2.2.2.1.set (Int.toNat s0.1) (⟨y6.from_, y6.to_, y6.service, y6.weight, y6.at_, y6.due, y6.way, (w64 (y6.gone + 1)), 1, y7.to_, y6.ended⟩ : YOrder)) (fun y9 => (.be 0 0 0 :: vi at1_ :: .un :: .un :: .be 9 0 0 :: vi s0.1 :: .be 3 (Int.toNat s0.1) 0 :: .be 10 0 0 :: .un :: .un :: .un :: .un :: .un :: .un :: .un :: .un :: .un :: .un :: vi (w.orders.length : Int) :: vi s0.1 :: .un :: .un :: .un :: .un :: .un :: .un :: .un :: .un :: .un :: .un :: .un :: .un :: .un :: .un :: .un :: .un :: .un :: .un :: .un :: .un :: .un :: .un :: .un :: .un :: .un :: .un :: .un :: .un :: .un :: .un :: .un :: .un :: .un :: .un :: .un :: .un :: .un :: .un :: .un :: .un :: .un :: .un :: .un :: .un :: .un :: .un :: .un :: .un :: .un :: .un :: .un :: .un :: .un :: .un :: .un :: .un :: .un :: .un :: .un :: .un :: .un :: .un :: .un :: .un :: .un :: .un :: .un :: .un :: .un :: .un :: .un :: .un :: .un :: .un :: .un :: .un :: .un :: .un :: .un :: .un :: .un :: .un :: .un :: .un :: .un :: .un :: .un :: .un :: .un :: .un :: .un :: .un :: .un :: .un :: .un :: .un :: .un :: .un :: .un :: .un :: .un :: .un :: .un :: .un :: .un :: .un :: .un :: .un :: .un :: .un :: .un :: .un :: .un :: .un :: .un :: .un :: .un :: .un :: .un :: .un :: .un :: .un :: .un :: .un :: .un :: .un :: .un :: .un :: .un :: .un :: .un :: .un :: .un :: .un :: .un :: .un :: .un :: .un :: .un :: .un :: .un :: .un :: .un :: .un :: .un :: .un :: .un :: .un :: .un :: .un :: .un :: .un :: .un :: .un :: .un :: .un :: .un :: .un :: .un :: .un :: .un :: .un :: .un :: .un :: .un :: .un :: .un :: [])) (fun y9 => [some ⟨41, 10, [[.ms 1, .ms 2, vi s0.2.1, .ms 3, .ms 4, .ms 5, vi s0.2.2.1, .ms 8, .ms 7, vi s0.2.2.2.1]]⟩, some ⟨67, 6, s0.2.2.2.2.1.map cLeg⟩, some ⟨3, 1, s0.2.2.2.2.2.1.map cInt⟩, some ⟨62, 11, y9.map cOrder⟩, some ⟨135, 4, s0.2.2.2.2.2.2.2.1.map cBooking⟩, some ⟨55, 2, s0.2.2.2.2.2.2.2.2.1.map cTrip⟩, none, some ⟨3, 1, s0.2.2.2.2.2.2.2.2.2.1.map cInt⟩, some ⟨130, 6, s0.2.2.2.2.2.2.2.2.2.2.map cScan⟩, some ⟨35, 3, [[.ms 1, .ms 2, vi w.network.change]]⟩, some ⟨55, 2, [[vi y5.leg, vi y5.day]]⟩])).bind fun y9 =>
 (rhoM [0, 1, 2, 3, 4, 5, 8, 7]).bind fun _ =>
 (m_p0_impl_makeScan (⟨(⟨s0.2.2.2.2.1, s0.2.2.2.2.2.1, s0.2.1⟩ : YNetwork), y9, s0.2.2.2.2.2.2.2.1, s0.2.2.2.2.2.2.2.2.1, s0.2.2.1, s0.2.2.2.2.2.2.2.2.2.2, s0.2.2.2.2.2.2.2.2.2.1, s0.2.2.2.1⟩ : YWorld) (⟨(w64 (s0.1 + 1)), at1_, 2, ⟨#[]⟩, y5⟩ : YScan)).bind fun y10 =>
 (rgI y10.orders s0.1).bind fun y11 =>
 cond (decide (y11.place = y11.to_))
 ((frzL (y10.orders.set (Int.toNat s0.1) (⟨y11.from_, y11.to_, y11.service, y11.weight, y11.at_, y11.due, y11.way, y11.gone, 3, y11.place, at1_⟩ : YOrder)) (fun y12 => (.be 0 0 0 :: vi at1_ :: .un :: .un :: .be 9 0 0 :: vi s0.1 :: .be 3 (Int.toNat s0.1) 0 :: .un :: .un :: .un :: .un :: .un :: .un :: .un :: .un :: .un :: .un :: .un :: vi (w.orders.length : Int) :: vi s0.1 :: .un :: .un :: .un :: .un :: .un :: .un :: .un :: .un :: .un :: .un :: .un :: .un :: .un :: .un :: .un :: .un :: .un :: .un :: .un :: .un :: .un :: .un :: .un :: .un :: .un :: .un :: .un :: .un :: .un :: .un :: .un :: .un :: .un :: .un :: .un :: .un :: .un :: .un :: .un :: .un :: .un :: .un :: .un :: .un :: .un :: .un :: .un :: .un :: .un :: .un :: .un :: .un :: .un :: .un :: .un :: .un :: .un :: .un :: .un :: .un :: .un :: .un :: .un :: .un :: .un :: .un :: .un :: .un :: .un :: .un :: .un :: .un :: .un :: .un :: .un :: .un :: .un :: .un :: .un :: .un :: .un :: .un :: .un :: .un :: .un :: .un :: .un :: .un :: .un :: .un :: .un :: .un :: .un :: .un :: .un :: .un :: .un :: .un :: .un :: .un :: .un :: .un :: .un :: .un :: .un :: .un :: .un :: .un :: .un :: .un :: .un :: .un :: .un :: .un :: .un :: .un :: .un :: .un :: .un :: .un :: .un :: .un :: .un :: .un :: .un :: .un :: .un :: .un :: .un :: .un :: .un :: .un :: .un :: .un :: .un :: .un :: .un :: .un :: .un :: .un :: .un :: .un :: .un :: .un :: .un :: .un :: .un :: .un :: .un :: .un :: .un :: .un :: .un :: .un :: .un :: .un :: .un :: .un :: .un :: .un :: .un :: .un :: .un :: .un :: .un :: .un :: .un :: [])) (fun y12 => [some ⟨41, 10, [[.ms 1, .ms 2, vi y10.network.change, .ms 3, .ms 4, .ms 5, vi y10.now, .ms 8, .ms 7, vi y10.made]]⟩, some ⟨67, 6, y10.network.legs.map cLeg⟩, some ⟨3, 1, y10.network.off.map cInt⟩, some ⟨62, 11, y12.map cOrder⟩, some ⟨135, 4, y10.bookings.map cBooking⟩, some ⟨55, 2, y10.closed.map cTrip⟩, none, some ⟨3, 1, y10.skip.map cInt⟩, some ⟨130, 6, y10.scans.map cScan⟩, some ⟨35, 3, [[.ms 1, .ms 2, vi w.network.change]]⟩])).bind fun y12 =>
 (rgI y12 s0.1).bind fun y13 =>
 (rhoM [0, 1, 2, 3, 4, 5, 8, 7]).bind fun _ =>
 (m_p0_impl_makeScan (⟨y10.network, y12, y10.bookings, y10.closed, y10.now, y10.scans, y10.skip, y10.made⟩ : YWorld) (⟨(w64 (s0.1 + 1)), at1_, 4, y13.place, (⟨0, 0⟩ : YTrip)⟩ : YScan)).bind fun y14 =>
 some (.inl ((w64 (s0.1 + 1)), y14.network.change, y14.now, y14.made, y14.network.legs, y14.network.off, y14.orders, y14.bookings, y14.closed, y14.skip, y14.scans)))
 (some (.inl ((w64 (s0.1 + 1)), y10.network.change, y10.now, y10.made, y10.network.legs, y10.network.off, y10.orders, y10.bookings, y10.closed, y10.skip, y10.scans))))))
 (some (.inr (s0.2.1, s0.2.2.1, s0.2.2.2.1, s0.2.2.2.2.1, s0.2.2.2.2.2.1, s0.2.2.2.2.2.2.1, s0.2.2.2.2.2.2.2.1, s0.2.2.2.2.2.2.2.2.1, s0.2.2.2.2.2.2.2.2.2.1, s0.2.2.2.2.2.2.2.2.2.2)))
instance (w : YWorld) (at1_ : Int) : LoopE (m_p0_impl_happen_b0 w at1_) := ⟨fun s0 => (.be 0 0 0 :: vi at1_ :: .un :: .un :: .be 9 0 0 :: .un :: .un :: .un :: .un :: .un :: .un :: .un :: .un :: .un :: .un :: .un :: .un :: .un :: vi (w.orders.length : Int) :: vi s0.1 :: .un :: .un :: .un :: .un :: .un :: .un :: .un :: .un :: .un :: .un :: .un :: .un :: .un :: .un :: .un :: .un :: .un :: .un :: .un :: .un :: .un :: .un :: .un :: .un :: .un :: .un :: .un :: .un :: .un :: .un :: .un :: .un :: .un :: .un :: .un :: .un :: .un :: .un :: .un :: .un :: .un :: .un :: .un :: .un :: .un :: .un :: .un :: .un :: .un :: .un :: .un :: .un :: .un :: .un :: .un :: .un :: .un :: .un :: .un :: .un :: .un :: .un :: .un :: .un :: .un :: .un :: .un :: .un :: .un :: .un :: .un :: .un :: .un :: .un :: .un :: .un :: .un :: .un :: .un :: .un :: .un :: .un :: .un :: .un :: .un :: .un :: .un :: .un :: .un :: .un :: .un :: .un :: .un :: .un :: .un :: .un :: .un :: .un :: .un :: .un :: .un :: .un :: .un :: .un :: .un :: .un :: .un :: .un :: .un :: .un :: .un :: .un :: .un :: .un :: .un :: .un :: .un :: .un :: .un :: .un :: .un :: .un :: .un :: .un :: .un :: .un :: .un :: .un :: .un :: .un :: .un :: .un :: .un :: .un :: .un :: .un :: .un :: .un :: .un :: .un :: .un :: .un :: .un :: .un :: .un :: .un :: .un :: .un :: .un :: .un :: .un :: .un :: .un :: .un :: .un :: .un :: .un :: .un :: .un :: .un :: .un :: .un :: .un :: .un :: .un :: .un :: .un :: []), fun s0 => [some ⟨41, 10, [[.ms 1, .ms 2, vi s0.2.1, .ms 3, .ms 4, .ms 5, vi s0.2.2.1, .ms 8, .ms 7, vi s0.2.2.2.1]]⟩, some ⟨67, 6, s0.2.2.2.2.1.map cLeg⟩, some ⟨3, 1, s0.2.2.2.2.2.1.map cInt⟩, some ⟨62, 11, s0.2.2.2.2.2.2.1.map cOrder⟩, some ⟨135, 4, s0.2.2.2.2.2.2.2.1.map cBooking⟩, some ⟨55, 2, s0.2.2.2.2.2.2.2.2.1.map cTrip⟩, none, some ⟨3, 1, s0.2.2.2.2.2.2.2.2.2.1.map cInt⟩, some ⟨130, 6, s0.2.2.2.2.2.2.2.2.2.2.map cScan⟩, some ⟨35, 3, [[.ms 1, .ms 2, vi w.network.change]]⟩]⟩
def m_p0_impl_happen_b1 (w : YWorld) (at1_ : Int) (o0 : Int × Int × Int × (List YLeg) × (List Int) × (List YOrder) × (List YBooking) × (List YTrip) × (List Int) × (List YScan)) (s1 : Int × Int × Int × Int × (List YLeg) × (List Int) × (List YOrder) × (List YBooking) × (List YTrip) × (List Int) × (List YScan)) : Option ((Int × Int × Int × Int × (List YLeg) × (List Int) × (List YOrder) × (List YBooking) × (List YTrip) × (List Int) × (List YScan)) ⊕ (Int × Int × Int × (List YLeg) × (List Int) × (List YOrder) × (List YBooking) × (List YTrip) × (List Int) × (List YScan))) :=
 cond (decide (s1.1 < (o0.2.2.2.2.2.1.length : Int)))
 ((getI s1.2.2.2.2.2.2.1 s1.1).bind fun y15 =>
 cond (decide (y15.state = 1))
 (cond (decide (y15.gone < (y15.way.length : Int)))
 ((getI y15.way y15.gone).bind fun y16 =>
 (m_impl_starts (⟨s1.2.2.2.2.1, s1.2.2.2.2.2.1, w.network.change⟩ : YNetwork) y16).bind fun y17 =>
 cond (decide (y17 = at1_))
 ((rgI s1.2.2.2.2.2.2.1 s1.1).bind fun y18 =>
 (frzL (s1.2.2.2.2.2.2.1.set (Int.toNat s1.1) (⟨y18.from_, y18.to_, y18.service, y18.weight, y18.at_, y18.due, y18.way, y18.gone, 2, ⟨#[]⟩, y18.ended⟩ : YOrder)) (fun y19 => (.be 0 0 0 :: vi at1_ :: .un :: .un :: .be 9 0 0 :: .un :: .un :: .un :: vi s1.1 :: .be 3 (Int.toNat s1.1) 0 :: .un :: .un :: .un :: .un :: .un :: .un :: .un :: .un :: .un :: .un :: .un :: .un :: .un :: .un :: .un :: .un :: .un :: .un :: .un :: .un :: .un :: .un :: .un :: .un :: .un :: .un :: .un :: .un :: .un :: .un :: .un :: .un :: .un :: .un :: .un :: .un :: .un :: .un :: .un :: .un :: .un :: .un :: .un :: .un :: .un :: .un :: .un :: .un :: .un :: .un :: .un :: .un :: .un :: .un :: .un :: .un :: .un :: .un :: .un :: .un :: .un :: .un :: .un :: .un :: .un :: .un :: .un :: .un :: .un :: .un :: .un :: .un :: .un :: .un :: .un :: .un :: .un :: .un :: .un :: .un :: .un :: .un :: .un :: .un :: .un :: .un :: .un :: .un :: .un :: .un :: .un :: .un :: .un :: .un :: .un :: .un :: .un :: .un :: .un :: .un :: .un :: .un :: .un :: .un :: .un :: .un :: .un :: vi (o0.2.2.2.2.2.1.length : Int) :: vi s1.1 :: .un :: .un :: .un :: .un :: .un :: .un :: .un :: .un :: .un :: .un :: .un :: .un :: .un :: .un :: .un :: .un :: .un :: .un :: .un :: .un :: .un :: .un :: .un :: .un :: .un :: .un :: .un :: .un :: .un :: .un :: .un :: .un :: .un :: .un :: .un :: .un :: .un :: .un :: .un :: .un :: .un :: .un :: .un :: .un :: .un :: .un :: .un :: .un :: .un :: .un :: .un :: .un :: .un :: .un :: .un :: .un :: .un :: .un :: .un :: .un :: .un :: .un :: .un :: .un :: .un :: .un :: .un :: .un :: [])) (fun y19 => [some ⟨41, 10, [[.ms 1, .ms 2, vi s1.2.1, .ms 3, .ms 4, .ms 5, vi s1.2.2.1, .ms 8, .ms 7, vi s1.2.2.2.1]]⟩, some ⟨67, 6, s1.2.2.2.2.1.map cLeg⟩, some ⟨3, 1, s1.2.2.2.2.2.1.map cInt⟩, some ⟨62, 11, y19.map cOrder⟩, some ⟨135, 4, s1.2.2.2.2.2.2.2.1.map cBooking⟩, some ⟨55, 2, s1.2.2.2.2.2.2.2.2.1.map cTrip⟩, none, some ⟨3, 1, s1.2.2.2.2.2.2.2.2.2.1.map cInt⟩, some ⟨130, 6, s1.2.2.2.2.2.2.2.2.2.2.map cScan⟩, some ⟨35, 3, [[.ms 1, .ms 2, vi w.network.change]]⟩])).bind fun y19 =>
 (drwL 8 [15]).bind fun _ =>
 (rgI y19 s1.1).bind fun y20 =>
 (getI y20.way y20.gone).bind fun y21 =>
 (rhoM [0, 1, 2, 3, 4, 5, 8, 7]).bind fun _ =>
 (m_p0_impl_makeScan (⟨(⟨s1.2.2.2.2.1, s1.2.2.2.2.2.1, s1.2.1⟩ : YNetwork), y19, s1.2.2.2.2.2.2.2.1, s1.2.2.2.2.2.2.2.2.1, s1.2.2.1, s1.2.2.2.2.2.2.2.2.2.2, s1.2.2.2.2.2.2.2.2.2.1, s1.2.2.2.1⟩ : YWorld) (⟨(w64 (s1.1 + 1)), at1_, 3, ⟨#[]⟩, y21⟩ : YScan)).bind fun y22 =>
 some (.inl ((w64 (s1.1 + 1)), y22.network.change, y22.now, y22.made, y22.network.legs, y22.network.off, y22.orders, y22.bookings, y22.closed, y22.skip, y22.scans)))
 (some (.inl ((w64 (s1.1 + 1)), s1.2.1, s1.2.2.1, s1.2.2.2.1, s1.2.2.2.2.1, s1.2.2.2.2.2.1, s1.2.2.2.2.2.2.1, s1.2.2.2.2.2.2.2.1, s1.2.2.2.2.2.2.2.2.1, s1.2.2.2.2.2.2.2.2.2.1, s1.2.2.2.2.2.2.2.2.2.2))))
 (some (.inl ((w64 (s1.1 + 1)), s1.2.1, s1.2.2.1, s1.2.2.2.1, s1.2.2.2.2.1, s1.2.2.2.2.2.1, s1.2.2.2.2.2.2.1, s1.2.2.2.2.2.2.2.1, s1.2.2.2.2.2.2.2.2.1, s1.2.2.2.2.2.2.2.2.2.1, s1.2.2.2.2.2.2.2.2.2.2))))
 (some (.inl ((w64 (s1.1 + 1)), s1.2.1, s1.2.2.1, s1.2.2.2.1, s1.2.2.2.2.1, s1.2.2.2.2.2.1, s1.2.2.2.2.2.2.1, s1.2.2.2.2.2.2.2.1, s1.2.2.2.2.2.2.2.2.1, s1.2.2.2.2.2.2.2.2.2.1, s1.2.2.2.2.2.2.2.2.2.2))))
 (some (.inr (s1.2.1, s1.2.2.1, s1.2.2.2.1, s1.2.2.2.2.1, s1.2.2.2.2.2.1, s1.2.2.2.2.2.2.1, s1.2.2.2.2.2.2.2.1, s1.2.2.2.2.2.2.2.2.1, s1.2.2.2.2.2.2.2.2.2.1, s1.2.2.2.2.2.2.2.2.2.2)))
instance (w : YWorld) (at1_ : Int) (o0 : Int × Int × Int × (List YLeg) × (List Int) × (List YOrder) × (List YBooking) × (List YTrip) × (List Int) × (List YScan)) : LoopE (m_p0_impl_happen_b1 w at1_ o0) := ⟨fun s1 => (.be 0 0 0 :: vi at1_ :: .un :: .un :: .be 9 0 0 :: .un :: .un :: .un :: .un :: .un :: .un :: .un :: .un :: .un :: .un :: .un :: .un :: .un :: .un :: .un :: .un :: .un :: .un :: .un :: .un :: .un :: .un :: .un :: .un :: .un :: .un :: .un :: .un :: .un :: .un :: .un :: .un :: .un :: .un :: .un :: .un :: .un :: .un :: .un :: .un :: .un :: .un :: .un :: .un :: .un :: .un :: .un :: .un :: .un :: .un :: .un :: .un :: .un :: .un :: .un :: .un :: .un :: .un :: .un :: .un :: .un :: .un :: .un :: .un :: .un :: .un :: .un :: .un :: .un :: .un :: .un :: .un :: .un :: .un :: .un :: .un :: .un :: .un :: .un :: .un :: .un :: .un :: .un :: .un :: .un :: .un :: .un :: .un :: .un :: .un :: .un :: .un :: .un :: .un :: .un :: .un :: .un :: .un :: .un :: .un :: .un :: .un :: .un :: .un :: .un :: .un :: .un :: .un :: .un :: .un :: .un :: .un :: vi (o0.2.2.2.2.2.1.length : Int) :: vi s1.1 :: .un :: .un :: .un :: .un :: .un :: .un :: .un :: .un :: .un :: .un :: .un :: .un :: .un :: .un :: .un :: .un :: .un :: .un :: .un :: .un :: .un :: .un :: .un :: .un :: .un :: .un :: .un :: .un :: .un :: .un :: .un :: .un :: .un :: .un :: .un :: .un :: .un :: .un :: .un :: .un :: .un :: .un :: .un :: .un :: .un :: .un :: .un :: .un :: .un :: .un :: .un :: .un :: .un :: .un :: .un :: .un :: .un :: .un :: .un :: .un :: .un :: .un :: .un :: .un :: .un :: .un :: .un :: .un :: []), fun s1 => [some ⟨41, 10, [[.ms 1, .ms 2, vi s1.2.1, .ms 3, .ms 4, .ms 5, vi s1.2.2.1, .ms 8, .ms 7, vi s1.2.2.2.1]]⟩, some ⟨67, 6, s1.2.2.2.2.1.map cLeg⟩, some ⟨3, 1, s1.2.2.2.2.2.1.map cInt⟩, some ⟨62, 11, s1.2.2.2.2.2.2.1.map cOrder⟩, some ⟨135, 4, s1.2.2.2.2.2.2.2.1.map cBooking⟩, some ⟨55, 2, s1.2.2.2.2.2.2.2.2.1.map cTrip⟩, none, some ⟨3, 1, s1.2.2.2.2.2.2.2.2.2.1.map cInt⟩, some ⟨130, 6, s1.2.2.2.2.2.2.2.2.2.2.map cScan⟩, some ⟨35, 3, [[.ms 1, .ms 2, vi w.network.change]]⟩]⟩
def m_p0_impl_happen (w : YWorld) (at1_ : Int) : Option YWorld :=
 (iterF (m_p0_impl_happen_b0 w at1_) NN (0, w.network.change, w.now, w.made, w.network.legs, w.network.off, w.orders, w.bookings, w.closed, w.skip, w.scans)).bind (fun o0 =>
 (iterF (m_p0_impl_happen_b1 w at1_ o0) NN (0, o0.1, o0.2.1, o0.2.2.1, o0.2.2.2.1, o0.2.2.2.2.1, o0.2.2.2.2.2.1, o0.2.2.2.2.2.2.1, o0.2.2.2.2.2.2.2.1, o0.2.2.2.2.2.2.2.2.1, o0.2.2.2.2.2.2.2.2.2)).bind (fun o1 =>
 some (⟨(⟨o1.2.2.2.1, o1.2.2.2.2.1, o1.1⟩ : YNetwork), o1.2.2.2.2.2.1, o1.2.2.2.2.2.2.1, o1.2.2.2.2.2.2.2.1, at1_, o1.2.2.2.2.2.2.2.2.2, o1.2.2.2.2.2.2.2.2.1, o1.2.2.1⟩ : YWorld)))
theorem ok_p0_impl_happen (w : YWorld) (at1_ : Int) {r : YWorld} (H : m_p0_impl_happen w at1_ = some r) : CallM Tryz.prog 83 [.be 0 0 0, vi at1_] [some ⟨41, 10, [[.ms 1, .ms 2, vi w.network.change, .ms 3, .ms 4, .ms 5, vi w.now, .ms 6, .ms 7, vi w.made]]⟩, some ⟨67, 6, w.network.legs.map cLeg⟩, some ⟨3, 1, w.network.off.map cInt⟩, some ⟨62, 11, w.orders.map cOrder⟩, some ⟨135, 4, w.bookings.map cBooking⟩, some ⟨55, 2, w.closed.map cTrip⟩, some ⟨130, 6, w.scans.map cScan⟩, some ⟨3, 1, w.skip.map cInt⟩] (.tu []) [some ⟨41, 10, [[.ms 1, .ms 2, vi r.network.change, .ms 3, .ms 4, .ms 5, vi r.now, .ms 8, .ms 7, vi r.made]]⟩, some ⟨67, 6, r.network.legs.map cLeg⟩, some ⟨3, 1, r.network.off.map cInt⟩, some ⟨62, 11, r.orders.map cOrder⟩, some ⟨135, 4, r.bookings.map cBooking⟩, some ⟨55, 2, r.closed.map cTrip⟩, none, some ⟨3, 1, r.skip.map cInt⟩, some ⟨130, 6, r.scans.map cScan⟩] := by
  replace H := H0 H
  unfold m_p0_impl_happen at H
  refine callM_of Tryz.func83 rfl Tryz.ntmps83 Tryz.results83 fun Q hQ hQn => ?_
  exact wk2
instance (w : YWorld) (at1_ : Int) : CT Tryz.prog (m_p0_impl_happen w at1_) := ⟨83, [.be 0 0 0, vi at1_], [some ⟨41, 10, [[.ms 1, .ms 2, vi w.network.change, .ms 3, .ms 4, .ms 5, vi w.now, .ms 6, .ms 7, vi w.made]]⟩, some ⟨67, 6, w.network.legs.map cLeg⟩, some ⟨3, 1, w.network.off.map cInt⟩, some ⟨62, 11, w.orders.map cOrder⟩, some ⟨135, 4, w.bookings.map cBooking⟩, some ⟨55, 2, w.closed.map cTrip⟩, some ⟨130, 6, w.scans.map cScan⟩, some ⟨3, 1, w.skip.map cInt⟩], fun r => .tu [], fun r => [some ⟨41, 10, [[.ms 1, .ms 2, vi r.network.change, .ms 3, .ms 4, .ms 5, vi r.now, .ms 8, .ms 7, vi r.made]]⟩, some ⟨67, 6, r.network.legs.map cLeg⟩, some ⟨3, 1, r.network.off.map cInt⟩, some ⟨62, 11, r.orders.map cOrder⟩, some ⟨135, 4, r.bookings.map cBooking⟩, some ⟨55, 2, r.closed.map cTrip⟩, none, some ⟨3, 1, r.skip.map cInt⟩, some ⟨130, 6, r.scans.map cScan⟩], ok_p0_impl_happen w at1_⟩
end Go.Proofs.YtmcdjilbkmhfoaaGreat

/- The mirror of p0_spec_l10Scan, and that the code does just that (printed by a program of my own). -/
namespace Go.Proofs.YtmcdjilbkmhfoaaGreat
set_option maxRecDepth 10000
open Go.RowKit
set_option linter.unusedVariables false
set_option maxHeartbeats 16000000
def m_p0_spec_l10Scan (w : YWorld) (s : YScan) : Option YWorld :=
 cond (decide (w.made < 1000000000))
 ((m_spec_l1Has w.skip (w64 (w.made + 1))).bind fun y1 =>
 cond (!y1)
 (cond (decide ((w.scans.length : Int) < 200))
 ((chk (appOk ((w.scans : List YScan).length + ([s] : List YScan).length) 56)).bind fun _ =>
 some (⟨w.network, w.orders, w.bookings, w.closed, w.now, ((w.scans : List YScan) ++ [s]), w.skip, (w64 (w.made + 1))⟩ : YWorld))
 (some (⟨w.network, w.orders, w.bookings, w.closed, w.now, w.scans, w.skip, (w64 (w.made + 1))⟩ : YWorld)))
 (some (⟨w.network, w.orders, w.bookings, w.closed, w.now, w.scans, w.skip, (w64 (w.made + 1))⟩ : YWorld)))
 ((m_spec_l1Has w.skip w.made).bind fun y2 =>
 cond (!y2)
 (cond (decide ((w.scans.length : Int) < 200))
 ((chk (appOk ((w.scans : List YScan).length + ([s] : List YScan).length) 56)).bind fun _ =>
 some (⟨w.network, w.orders, w.bookings, w.closed, w.now, ((w.scans : List YScan) ++ [s]), w.skip, w.made⟩ : YWorld))
 (some w))
 (some w))
theorem ok_p0_spec_l10Scan (w : YWorld) (s : YScan) {r : YWorld} (H : m_p0_spec_l10Scan w s = some r) : CallM Tryz.prog 133 [.be 0 0 0, .ag (cScan s)] [some ⟨41, 10, [[.ms 1, .ms 2, vi w.network.change, .ms 3, .ms 4, .ms 5, vi w.now, .ms 6, .ms 7, vi w.made]]⟩, some ⟨67, 6, w.network.legs.map cLeg⟩, some ⟨3, 1, w.network.off.map cInt⟩, some ⟨62, 11, w.orders.map cOrder⟩, some ⟨135, 4, w.bookings.map cBooking⟩, some ⟨55, 2, w.closed.map cTrip⟩, some ⟨130, 6, w.scans.map cScan⟩, some ⟨3, 1, w.skip.map cInt⟩] (.tu []) [some ⟨41, 10, [[.ms 1, .ms 2, vi r.network.change, .ms 3, .ms 4, .ms 5, vi r.now, .ms 8, .ms 7, vi r.made]]⟩, some ⟨67, 6, r.network.legs.map cLeg⟩, some ⟨3, 1, r.network.off.map cInt⟩, some ⟨62, 11, r.orders.map cOrder⟩, some ⟨135, 4, r.bookings.map cBooking⟩, some ⟨55, 2, r.closed.map cTrip⟩, none, some ⟨3, 1, r.skip.map cInt⟩, some ⟨130, 6, r.scans.map cScan⟩] := by
  replace H := H0 H
  unfold m_p0_spec_l10Scan at H
  refine callM_of Tryz.func133 rfl Tryz.ntmps133 Tryz.results133 fun Q hQ hQn => ?_
  exact wk2
instance (w : YWorld) (s : YScan) : CT Tryz.prog (m_p0_spec_l10Scan w s) := ⟨133, [.be 0 0 0, .ag (cScan s)], [some ⟨41, 10, [[.ms 1, .ms 2, vi w.network.change, .ms 3, .ms 4, .ms 5, vi w.now, .ms 6, .ms 7, vi w.made]]⟩, some ⟨67, 6, w.network.legs.map cLeg⟩, some ⟨3, 1, w.network.off.map cInt⟩, some ⟨62, 11, w.orders.map cOrder⟩, some ⟨135, 4, w.bookings.map cBooking⟩, some ⟨55, 2, w.closed.map cTrip⟩, some ⟨130, 6, w.scans.map cScan⟩, some ⟨3, 1, w.skip.map cInt⟩], fun r => .tu [], fun r => [some ⟨41, 10, [[.ms 1, .ms 2, vi r.network.change, .ms 3, .ms 4, .ms 5, vi r.now, .ms 8, .ms 7, vi r.made]]⟩, some ⟨67, 6, r.network.legs.map cLeg⟩, some ⟨3, 1, r.network.off.map cInt⟩, some ⟨62, 11, r.orders.map cOrder⟩, some ⟨135, 4, r.bookings.map cBooking⟩, some ⟨55, 2, r.closed.map cTrip⟩, none, some ⟨3, 1, r.skip.map cInt⟩, some ⟨130, 6, r.scans.map cScan⟩], ok_p0_spec_l10Scan w s⟩
end Go.Proofs.YtmcdjilbkmhfoaaGreat

/- The mirror of p0_spec_l10At, and that the code does just that (printed by a program of my own). -/
namespace Go.Proofs.YtmcdjilbkmhfoaaGreat
set_option maxRecDepth 10000
open Go.RowKit
set_option linter.unusedVariables false
set_option maxHeartbeats 16000000
def m_p0_spec_l10At_b0 (at1_ : Int) (s0 : Int × Int × Int × Int × (List YLeg) × (List Int) × (List YOrder) × (List YBooking) × (List YTrip) × (List Int) × (List YScan)) : Option ((Int × Int × Int × Int × (List YLeg) × (List Int) × (List YOrder) × (List YBooking) × (List YTrip) × (List Int) × (List YScan)) ⊕ (Int × Int × Int × (List YLeg) × (List Int) × (List YOrder) × (List YBooking) × (List YTrip) × (List Int) × (List YScan))) :=
 cond (decide (s0.1 < (s0.2.2.2.2.2.2.1.length : Int)))
 ((getI s0.2.2.2.2.2.2.1 s0.1).bind fun y1 =>
 cond (!decide (y1.state = 2))
 (some (.inl ((w64 (s0.1 + 1)), s0.2.1, s0.2.2.1, s0.2.2.2.1, s0.2.2.2.2.1, s0.2.2.2.2.2.1, s0.2.2.2.2.2.2.1, s0.2.2.2.2.2.2.2.1, s0.2.2.2.2.2.2.2.2.1, s0.2.2.2.2.2.2.2.2.2.1, s0.2.2.2.2.2.2.2.2.2.2)))
 ((getI y1.way y1.gone).bind fun y2 =>
 (m_spec_l3Ends (⟨s0.2.2.2.2.1, s0.2.2.2.2.2.1, s0.2.1⟩ : YNetwork) y2).bind fun y3 =>
 cond (!decide (y3 = at1_))
 (some (.inl ((w64 (s0.1 + 1)), s0.2.1, s0.2.2.1, s0.2.2.2.1, s0.2.2.2.2.1, s0.2.2.2.2.2.1, s0.2.2.2.2.2.2.1, s0.2.2.2.2.2.2.2.1, s0.2.2.2.2.2.2.2.2.1, s0.2.2.2.2.2.2.2.2.2.1, s0.2.2.2.2.2.2.2.2.2.2)))
 ((getI y1.way y1.gone).bind fun y4 =>
 (rhoM [0, 1, 2, 3, 4, 5, 8, 7]).bind fun _ =>
 (m_p0_spec_l10Scan (⟨(⟨s0.2.2.2.2.1, s0.2.2.2.2.2.1, s0.2.1⟩ : YNetwork), s0.2.2.2.2.2.2.1, s0.2.2.2.2.2.2.2.1, s0.2.2.2.2.2.2.2.2.1, s0.2.2.1, s0.2.2.2.2.2.2.2.2.2.2, s0.2.2.2.2.2.2.2.2.2.1, s0.2.2.2.1⟩ : YWorld) (⟨(w64 (s0.1 + 1)), at1_, 2, ⟨#[]⟩, y4⟩ : YScan)).bind fun y5 =>
 (getI y1.way y1.gone).bind fun y6 =>
 (getI y5.network.legs y6.leg).bind fun y7 =>
 (getI y5.orders s0.1).bind fun y8 =>
 (getI y5.orders s0.1).bind fun y9 =>
 (getI y5.orders s0.1).bind fun y10 =>
 (getI y5.orders s0.1).bind fun y11 =>
 cond (decide (y7.to_ = y1.to_))
 ((getI y5.orders s0.1).bind fun y12 =>
 (getI y5.orders s0.1).bind fun y13 =>
 (frzL (y5.orders.set (Int.toNat s0.1) (⟨y8.from_, y8.to_, y8.service, y8.weight, y8.at_, y8.due, y8.way, (w64 (y1.gone + 1)), 3, y7.to_, at1_⟩ : YOrder)) (fun y14 => (.be 0 0 0 :: vi at1_ :: .un :: .un :: vi s0.1 :: .be 9 0 0 :: .un :: .un :: .un :: .un :: .un :: .un :: .un :: .un :: .un :: .un :: .un :: .un :: .un :: .un :: .un :: .un :: .un :: .un :: .un :: .un :: .un :: .un :: .un :: .un :: .un :: .un :: .un :: .un :: .un :: .un :: .un :: .un :: .un :: .un :: .un :: .un :: .un :: .un :: .un :: .un :: .un :: .un :: .un :: .un :: .un :: .un :: .un :: .un :: .un :: .un :: .un :: .un :: .un :: .un :: .un :: .un :: .un :: .un :: .un :: .un :: .un :: .un :: .un :: .un :: .un :: .un :: .un :: .un :: .un :: .un :: .un :: .un :: .un :: .un :: .un :: .un :: .un :: .un :: .un :: .un :: .un :: .un :: .un :: .un :: .un :: .un :: .un :: .un :: .un :: .un :: .un :: .un :: .un :: .un :: .un :: .un :: .un :: .un :: .un :: .un :: .un :: .un :: .un :: .un :: .un :: .un :: .un :: .un :: .un :: .un :: .un :: .un :: .un :: .un :: .un :: .un :: .un :: .un :: .un :: .un :: .un :: .un :: .un :: .un :: .un :: .un :: .un :: .un :: .un :: .un :: .un :: .un :: .un :: .un :: .un :: .un :: .un :: .un :: .un :: .un :: .un :: .un :: .un :: .un :: .un :: .un :: .un :: .un :: .un :: .un :: .un :: .un :: .un :: .un :: .un :: .un :: .un :: .un :: .un :: .un :: .un :: .un :: .un :: .un :: .un :: .un :: .un :: .un :: .un :: .un :: .un :: .un :: .un :: .un :: .un :: .un :: .un :: .un :: .un :: .un :: .un :: .un :: .un :: .un :: .un :: .un :: .un :: .un :: .un :: .un :: .un :: .un :: .un :: [])) (fun y14 => [some ⟨41, 10, [[.ms 1, .ms 2, vi y5.network.change, .ms 3, .ms 4, .ms 5, vi y5.now, .ms 8, .ms 7, vi y5.made]]⟩, some ⟨67, 6, y5.network.legs.map cLeg⟩, some ⟨3, 1, y5.network.off.map cInt⟩, some ⟨62, 11, y14.map cOrder⟩, some ⟨135, 4, y5.bookings.map cBooking⟩, some ⟨55, 2, y5.closed.map cTrip⟩, none, some ⟨3, 1, y5.skip.map cInt⟩, some ⟨130, 6, y5.scans.map cScan⟩, some ⟨62, 11, [[vs y1.from_, vs y1.to_, vi y1.service, vi y1.weight, vi y1.at_, vi y1.due, .sl (y1.way.map cTrip), vi y1.gone, vi y1.state, vs y1.place, vi y1.ended]]⟩])).bind fun y14 =>
 (rhoM [0, 1, 2, 3, 4, 5, 8, 7]).bind fun _ =>
 (m_p0_spec_l10Scan (⟨y5.network, y14, y5.bookings, y5.closed, y5.now, y5.scans, y5.skip, y5.made⟩ : YWorld) (⟨(w64 (s0.1 + 1)), at1_, 4, y1.to_, (⟨0, 0⟩ : YTrip)⟩ : YScan)).bind fun y15 =>
 some (.inl ((w64 (s0.1 + 1)), y15.network.change, y15.now, y15.made, y15.network.legs, y15.network.off, y15.orders, y15.bookings, y15.closed, y15.skip, y15.scans)))
 (some (.inl ((w64 (s0.1 + 1)), y5.network.change, y5.now, y5.made, y5.network.legs, y5.network.off, (y5.orders.set (Int.toNat s0.1) (⟨y8.from_, y8.to_, y8.service, y8.weight, y8.at_, y8.due, y8.way, (w64 (y1.gone + 1)), 1, y7.to_, y8.ended⟩ : YOrder)), y5.bookings, y5.closed, y5.skip, y5.scans))))))
 (some (.inr (s0.2.1, s0.2.2.1, s0.2.2.2.1, s0.2.2.2.2.1, s0.2.2.2.2.2.1, s0.2.2.2.2.2.2.1, s0.2.2.2.2.2.2.2.1, s0.2.2.2.2.2.2.2.2.1, s0.2.2.2.2.2.2.2.2.2.1, s0.2.2.2.2.2.2.2.2.2.2)))
instance (at1_ : Int) : LoopE (m_p0_spec_l10At_b0 at1_) := ⟨fun s0 => (.be 0 0 0 :: vi at1_ :: .un :: .un :: vi s0.1 :: .un :: .un :: .un :: .un :: .un :: .un :: .un :: .un :: .un :: .un :: .un :: .un :: .un :: .un :: .un :: .un :: .un :: .un :: .un :: .un :: .un :: .un :: .un :: .un :: .un :: .un :: .un :: .un :: .un :: .un :: .un :: .un :: .un :: .un :: .un :: .un :: .un :: .un :: .un :: .un :: .un :: .un :: .un :: .un :: .un :: .un :: .un :: .un :: .un :: .un :: .un :: .un :: .un :: .un :: .un :: .un :: .un :: .un :: .un :: .un :: .un :: .un :: .un :: .un :: .un :: .un :: .un :: .un :: .un :: .un :: .un :: .un :: .un :: .un :: .un :: .un :: .un :: .un :: .un :: .un :: .un :: .un :: .un :: .un :: .un :: .un :: .un :: .un :: .un :: .un :: .un :: .un :: .un :: .un :: .un :: .un :: .un :: .un :: .un :: .un :: .un :: .un :: .un :: .un :: .un :: .un :: .un :: .un :: .un :: .un :: .un :: .un :: .un :: .un :: .un :: .un :: .un :: .un :: .un :: .un :: .un :: .un :: .un :: .un :: .un :: .un :: .un :: .un :: .un :: .un :: .un :: .un :: .un :: .un :: .un :: .un :: .un :: .un :: .un :: .un :: .un :: .un :: .un :: .un :: .un :: .un :: .un :: .un :: .un :: .un :: .un :: .un :: .un :: .un :: .un :: .un :: .un :: .un :: .un :: .un :: .un :: .un :: .un :: .un :: .un :: .un :: .un :: .un :: .un :: .un :: .un :: .un :: .un :: .un :: .un :: .un :: .un :: .un :: .un :: .un :: .un :: .un :: .un :: .un :: .un :: .un :: .un :: .un :: .un :: .un :: .un :: .un :: .un :: .un :: []), fun s0 => [some ⟨41, 10, [[.ms 1, .ms 2, vi s0.2.1, .ms 3, .ms 4, .ms 5, vi s0.2.2.1, .ms 8, .ms 7, vi s0.2.2.2.1]]⟩, some ⟨67, 6, s0.2.2.2.2.1.map cLeg⟩, some ⟨3, 1, s0.2.2.2.2.2.1.map cInt⟩, some ⟨62, 11, s0.2.2.2.2.2.2.1.map cOrder⟩, some ⟨135, 4, s0.2.2.2.2.2.2.2.1.map cBooking⟩, some ⟨55, 2, s0.2.2.2.2.2.2.2.2.1.map cTrip⟩, none, some ⟨3, 1, s0.2.2.2.2.2.2.2.2.2.1.map cInt⟩, some ⟨130, 6, s0.2.2.2.2.2.2.2.2.2.2.map cScan⟩]⟩
def m_p0_spec_l10At_b1 (at1_ : Int) (s1 : Int × Int × Int × Int × (List YLeg) × (List Int) × (List YOrder) × (List YBooking) × (List YTrip) × (List Int) × (List YScan)) : Option ((Int × Int × Int × Int × (List YLeg) × (List Int) × (List YOrder) × (List YBooking) × (List YTrip) × (List Int) × (List YScan)) ⊕ (Int × Int × Int × (List YLeg) × (List Int) × (List YOrder) × (List YBooking) × (List YTrip) × (List Int) × (List YScan))) :=
 cond (decide (s1.1 < (s1.2.2.2.2.2.2.1.length : Int)))
 ((getI s1.2.2.2.2.2.2.1 s1.1).bind fun y16 =>
 cond (decide (y16.state = 1))
 (cond (decide (y16.gone < (y16.way.length : Int)))
 ((getI y16.way y16.gone).bind fun y17 =>
 (m_spec_l3Starts (⟨s1.2.2.2.2.1, s1.2.2.2.2.2.1, s1.2.1⟩ : YNetwork) y17).bind fun y18 =>
 cond (decide (y18 = at1_))
 ((getI s1.2.2.2.2.2.2.1 s1.1).bind fun y19 =>
 (getI s1.2.2.2.2.2.2.1 s1.1).bind fun y20 =>
 (frzL (s1.2.2.2.2.2.2.1.set (Int.toNat s1.1) (⟨y19.from_, y19.to_, y19.service, y19.weight, y19.at_, y19.due, y19.way, y19.gone, 2, ⟨#[]⟩, y19.ended⟩ : YOrder)) (fun y21 => (.be 0 0 0 :: vi at1_ :: .un :: .un :: .un :: .un :: vi s1.1 :: .be 9 0 0 :: .un :: .un :: .un :: .un :: .un :: .un :: .un :: .un :: .un :: .un :: .un :: .un :: .un :: .un :: .un :: .un :: .un :: .un :: .un :: .un :: .un :: .un :: .un :: .un :: .un :: .un :: .un :: .un :: .un :: .un :: .un :: .un :: .un :: .un :: .un :: .un :: .un :: .un :: .un :: .un :: .un :: .un :: .un :: .un :: .un :: .un :: .un :: .un :: .un :: .un :: .un :: .un :: .un :: .un :: .un :: .un :: .un :: .un :: .un :: .un :: .un :: .un :: .un :: .un :: .un :: .un :: .un :: .un :: .un :: .un :: .un :: .un :: .un :: .un :: .un :: .un :: .un :: .un :: .un :: .un :: .un :: .un :: .un :: .un :: .un :: .un :: .un :: .un :: .un :: .un :: .un :: .un :: .un :: .un :: .un :: .un :: .un :: .un :: .un :: .un :: .un :: .un :: .un :: .un :: .un :: .un :: .un :: .un :: .un :: .un :: .un :: .un :: .un :: .un :: .un :: .un :: .un :: .un :: .un :: .un :: .un :: .un :: .un :: .un :: .un :: .un :: .un :: .un :: .un :: .un :: .un :: .un :: .un :: .un :: .un :: .un :: .un :: .un :: .un :: .un :: .un :: .un :: .un :: .un :: .un :: .un :: .un :: .un :: .un :: .un :: .un :: .un :: .un :: .un :: .un :: .un :: .un :: .un :: .un :: .un :: .un :: .un :: .un :: .un :: .un :: .un :: .un :: .un :: .un :: .un :: .un :: .un :: .un :: .un :: .un :: .un :: .un :: .un :: .un :: .un :: .un :: .un :: .un :: .un :: .un :: .un :: .un :: .un :: .un :: .un :: .un :: [])) (fun y21 => [some ⟨41, 10, [[.ms 1, .ms 2, vi s1.2.1, .ms 3, .ms 4, .ms 5, vi s1.2.2.1, .ms 8, .ms 7, vi s1.2.2.2.1]]⟩, some ⟨67, 6, s1.2.2.2.2.1.map cLeg⟩, some ⟨3, 1, s1.2.2.2.2.2.1.map cInt⟩, some ⟨62, 11, y21.map cOrder⟩, some ⟨135, 4, s1.2.2.2.2.2.2.2.1.map cBooking⟩, some ⟨55, 2, s1.2.2.2.2.2.2.2.2.1.map cTrip⟩, none, some ⟨3, 1, s1.2.2.2.2.2.2.2.2.2.1.map cInt⟩, some ⟨130, 6, s1.2.2.2.2.2.2.2.2.2.2.map cScan⟩, some ⟨62, 11, [[vs y16.from_, vs y16.to_, vi y16.service, vi y16.weight, vi y16.at_, vi y16.due, .sl (y16.way.map cTrip), vi y16.gone, vi y16.state, vs y16.place, vi y16.ended]]⟩])).bind fun y21 =>
 (getI y16.way y16.gone).bind fun y22 =>
 (rhoM [0, 1, 2, 3, 4, 5, 8, 7]).bind fun _ =>
 (m_p0_spec_l10Scan (⟨(⟨s1.2.2.2.2.1, s1.2.2.2.2.2.1, s1.2.1⟩ : YNetwork), y21, s1.2.2.2.2.2.2.2.1, s1.2.2.2.2.2.2.2.2.1, s1.2.2.1, s1.2.2.2.2.2.2.2.2.2.2, s1.2.2.2.2.2.2.2.2.2.1, s1.2.2.2.1⟩ : YWorld) (⟨(w64 (s1.1 + 1)), at1_, 3, ⟨#[]⟩, y22⟩ : YScan)).bind fun y23 =>
 some (.inl ((w64 (s1.1 + 1)), y23.network.change, y23.now, y23.made, y23.network.legs, y23.network.off, y23.orders, y23.bookings, y23.closed, y23.skip, y23.scans)))
 (some (.inl ((w64 (s1.1 + 1)), s1.2.1, s1.2.2.1, s1.2.2.2.1, s1.2.2.2.2.1, s1.2.2.2.2.2.1, s1.2.2.2.2.2.2.1, s1.2.2.2.2.2.2.2.1, s1.2.2.2.2.2.2.2.2.1, s1.2.2.2.2.2.2.2.2.2.1, s1.2.2.2.2.2.2.2.2.2.2))))
 (some (.inl ((w64 (s1.1 + 1)), s1.2.1, s1.2.2.1, s1.2.2.2.1, s1.2.2.2.2.1, s1.2.2.2.2.2.1, s1.2.2.2.2.2.2.1, s1.2.2.2.2.2.2.2.1, s1.2.2.2.2.2.2.2.2.1, s1.2.2.2.2.2.2.2.2.2.1, s1.2.2.2.2.2.2.2.2.2.2))))
 (some (.inl ((w64 (s1.1 + 1)), s1.2.1, s1.2.2.1, s1.2.2.2.1, s1.2.2.2.2.1, s1.2.2.2.2.2.1, s1.2.2.2.2.2.2.1, s1.2.2.2.2.2.2.2.1, s1.2.2.2.2.2.2.2.2.1, s1.2.2.2.2.2.2.2.2.2.1, s1.2.2.2.2.2.2.2.2.2.2))))
 (some (.inr (s1.2.1, s1.2.2.1, s1.2.2.2.1, s1.2.2.2.2.1, s1.2.2.2.2.2.1, s1.2.2.2.2.2.2.1, s1.2.2.2.2.2.2.2.1, s1.2.2.2.2.2.2.2.2.1, s1.2.2.2.2.2.2.2.2.2.1, s1.2.2.2.2.2.2.2.2.2.2)))
instance (at1_ : Int) : LoopE (m_p0_spec_l10At_b1 at1_) := ⟨fun s1 => (.be 0 0 0 :: vi at1_ :: .un :: .un :: .un :: .un :: vi s1.1 :: .un :: .un :: .un :: .un :: .un :: .un :: .un :: .un :: .un :: .un :: .un :: .un :: .un :: .un :: .un :: .un :: .un :: .un :: .un :: .un :: .un :: .un :: .un :: .un :: .un :: .un :: .un :: .un :: .un :: .un :: .un :: .un :: .un :: .un :: .un :: .un :: .un :: .un :: .un :: .un :: .un :: .un :: .un :: .un :: .un :: .un :: .un :: .un :: .un :: .un :: .un :: .un :: .un :: .un :: .un :: .un :: .un :: .un :: .un :: .un :: .un :: .un :: .un :: .un :: .un :: .un :: .un :: .un :: .un :: .un :: .un :: .un :: .un :: .un :: .un :: .un :: .un :: .un :: .un :: .un :: .un :: .un :: .un :: .un :: .un :: .un :: .un :: .un :: .un :: .un :: .un :: .un :: .un :: .un :: .un :: .un :: .un :: .un :: .un :: .un :: .un :: .un :: .un :: .un :: .un :: .un :: .un :: .un :: .un :: .un :: .un :: .un :: .un :: .un :: .un :: .un :: .un :: .un :: .un :: .un :: .un :: .un :: .un :: .un :: .un :: .un :: .un :: .un :: .un :: .un :: .un :: .un :: .un :: .un :: .un :: .un :: .un :: .un :: .un :: .un :: .un :: .un :: .un :: .un :: .un :: .un :: .un :: .un :: .un :: .un :: .un :: .un :: .un :: .un :: .un :: .un :: .un :: .un :: .un :: .un :: .un :: .un :: .un :: .un :: .un :: .un :: .un :: .un :: .un :: .un :: .un :: .un :: .un :: .un :: .un :: .un :: .un :: .un :: .un :: .un :: .un :: .un :: .un :: .un :: .un :: .un :: .un :: .un :: .un :: .un :: .un :: .un :: []), fun s1 => [some ⟨41, 10, [[.ms 1, .ms 2, vi s1.2.1, .ms 3, .ms 4, .ms 5, vi s1.2.2.1, .ms 8, .ms 7, vi s1.2.2.2.1]]⟩, some ⟨67, 6, s1.2.2.2.2.1.map cLeg⟩, some ⟨3, 1, s1.2.2.2.2.2.1.map cInt⟩, some ⟨62, 11, s1.2.2.2.2.2.2.1.map cOrder⟩, some ⟨135, 4, s1.2.2.2.2.2.2.2.1.map cBooking⟩, some ⟨55, 2, s1.2.2.2.2.2.2.2.2.1.map cTrip⟩, none, some ⟨3, 1, s1.2.2.2.2.2.2.2.2.2.1.map cInt⟩, some ⟨130, 6, s1.2.2.2.2.2.2.2.2.2.2.map cScan⟩]⟩
def m_p0_spec_l10At (w : YWorld) (at1_ : Int) : Option YWorld :=
 (iterF (m_p0_spec_l10At_b0 at1_) NN (0, w.network.change, w.now, w.made, w.network.legs, w.network.off, w.orders, w.bookings, w.closed, w.skip, w.scans)).bind (fun o0 =>
 (iterF (m_p0_spec_l10At_b1 at1_) NN (0, o0.1, o0.2.1, o0.2.2.1, o0.2.2.2.1, o0.2.2.2.2.1, o0.2.2.2.2.2.1, o0.2.2.2.2.2.2.1, o0.2.2.2.2.2.2.2.1, o0.2.2.2.2.2.2.2.2.1, o0.2.2.2.2.2.2.2.2.2)).bind (fun o1 =>
 some (⟨(⟨o1.2.2.2.1, o1.2.2.2.2.1, o1.1⟩ : YNetwork), o1.2.2.2.2.2.1, o1.2.2.2.2.2.2.1, o1.2.2.2.2.2.2.2.1, at1_, o1.2.2.2.2.2.2.2.2.2, o1.2.2.2.2.2.2.2.2.1, o1.2.2.1⟩ : YWorld)))
theorem ok_p0_spec_l10At (w : YWorld) (at1_ : Int) {r : YWorld} (H : m_p0_spec_l10At w at1_ = some r) : CallM Tryz.prog 73 [.be 0 0 0, vi at1_] [some ⟨41, 10, [[.ms 1, .ms 2, vi w.network.change, .ms 3, .ms 4, .ms 5, vi w.now, .ms 6, .ms 7, vi w.made]]⟩, some ⟨67, 6, w.network.legs.map cLeg⟩, some ⟨3, 1, w.network.off.map cInt⟩, some ⟨62, 11, w.orders.map cOrder⟩, some ⟨135, 4, w.bookings.map cBooking⟩, some ⟨55, 2, w.closed.map cTrip⟩, some ⟨130, 6, w.scans.map cScan⟩, some ⟨3, 1, w.skip.map cInt⟩] (.tu []) [some ⟨41, 10, [[.ms 1, .ms 2, vi r.network.change, .ms 3, .ms 4, .ms 5, vi r.now, .ms 8, .ms 7, vi r.made]]⟩, some ⟨67, 6, r.network.legs.map cLeg⟩, some ⟨3, 1, r.network.off.map cInt⟩, some ⟨62, 11, r.orders.map cOrder⟩, some ⟨135, 4, r.bookings.map cBooking⟩, some ⟨55, 2, r.closed.map cTrip⟩, none, some ⟨3, 1, r.skip.map cInt⟩, some ⟨130, 6, r.scans.map cScan⟩] := by
  replace H := H0 H
  unfold m_p0_spec_l10At at H
  refine callM_of Tryz.func73 rfl Tryz.ntmps73 Tryz.results73 fun Q hQ hQn => ?_
  exact wk2
instance (w : YWorld) (at1_ : Int) : CT Tryz.prog (m_p0_spec_l10At w at1_) := ⟨73, [.be 0 0 0, vi at1_], [some ⟨41, 10, [[.ms 1, .ms 2, vi w.network.change, .ms 3, .ms 4, .ms 5, vi w.now, .ms 6, .ms 7, vi w.made]]⟩, some ⟨67, 6, w.network.legs.map cLeg⟩, some ⟨3, 1, w.network.off.map cInt⟩, some ⟨62, 11, w.orders.map cOrder⟩, some ⟨135, 4, w.bookings.map cBooking⟩, some ⟨55, 2, w.closed.map cTrip⟩, some ⟨130, 6, w.scans.map cScan⟩, some ⟨3, 1, w.skip.map cInt⟩], fun r => .tu [], fun r => [some ⟨41, 10, [[.ms 1, .ms 2, vi r.network.change, .ms 3, .ms 4, .ms 5, vi r.now, .ms 8, .ms 7, vi r.made]]⟩, some ⟨67, 6, r.network.legs.map cLeg⟩, some ⟨3, 1, r.network.off.map cInt⟩, some ⟨62, 11, r.orders.map cOrder⟩, some ⟨135, 4, r.bookings.map cBooking⟩, some ⟨55, 2, r.closed.map cTrip⟩, none, some ⟨3, 1, r.skip.map cInt⟩, some ⟨130, 6, r.scans.map cScan⟩], ok_p0_spec_l10At w at1_⟩
end Go.Proofs.YtmcdjilbkmhfoaaGreat

/- What the program and the reference do at a time: both do what happenV says. -/
namespace Go.Proofs.YtmcdjilbkmhfoaaGreat
set_option maxRecDepth 10000
open Go.RowKit
set_option linter.unusedVariables false
set_option linter.unusedSimpArgs false
set_option linter.unusedSectionVars false
theorem hasInt_eq : @m_impl_hasInt = @m_spec_l1Has := rfl
def addScan (w : YWorld) (s : YScan) : YWorld := { w with scans := (mkScan w.skip (w.scans, w.made) s).1, made := (mkScan w.skip (w.scans, w.made) s).2 }
structure ScanInv (w : YWorld) : Prop where
  skip : w.skip.length ≤ 1048576
  len : w.scans.length ≤ 200
  made : 0 ≤ w.made ∧ w.made ≤ 1000000000
theorem app_ok1 {a b c : Nat} (h : a + b ≤ 1048576) (hc : c ≤ 1024) : chk (appOk (a + b) c) = some () := by
  refine chk_t ?_
  unfold appOk
  refine decide_eq_true ⟨by omega, ?_⟩
  have : (a + b) * c ≤ 1048576 * 1024 := Nat.mul_le_mul h hc
  omega
theorem ite_len {α : Type} {c : Prop} [Decidable c] {l : List α} {s : α} (h : c → l.length < 200) (h2 : l.length ≤ 200) : (if c then l ++ [s] else l).length ≤ 200 := by
  by_cases hc : c
  · have := h hc; rw [if_pos hc]; simp; omega
  · rw [if_neg hc]; exact h2
theorem addScan_inv {w : YWorld} (h : ScanInv w) (s : YScan) : ScanInv (addScan w s) := by
  obtain ⟨h1, h2, h3⟩ := h
  unfold addScan mkScan
  refine ⟨h1, ?_, ?_⟩
  · exact ite_len (fun h => h.2) h2
  · simp only
    split <;> omega
theorem scan_i {w : YWorld} (h : ScanInv w) (s : YScan) : m_p0_impl_makeScan w s = some (addScan w s) := by
  obtain ⟨h1, h2, h3⟩ := h
  have hw : w64 (w.made + 1) = w.made + 1 := w64_in (by omega)
  have hm : (if 1000000000 < w.made + 1 then 1000000000 else w.made + 1) = (if w.made < 1000000000 then w.made + 1 else w.made) := by split <;> split <;> omega
  have ha := app_ok1 (a := w.scans.length) (b := 1) (c := 56) (by omega) (by omega)
  unfold m_p0_impl_makeScan addScan mkScan
  rw [hw, hm, hasInt_eq, l1Has_v h1]
  simp only [Option.bind_some, List.length_cons, List.length_nil, Nat.zero_add, ha]
  cases hb : w.skip.any fun y => decide (y = if w.made < 1000000000 then w.made + 1 else w.made) with
  | true => simp
  | false =>
    by_cases hl : w.scans.length < 200
    · rw [decide_eq_true (show (w.scans.length : Int) < 200 by omega)]; simp [hl]
    · rw [decide_eq_false (show ¬ (w.scans.length : Int) < 200 by omega)]; simp [hl]
theorem scan_s {w : YWorld} (h : ScanInv w) (s : YScan) : m_p0_spec_l10Scan w s = some (addScan w s) := by
  obtain ⟨h1, h2, h3⟩ := h
  have hw : w64 (w.made + 1) = w.made + 1 := w64_in (by omega)
  have ha := app_ok1 (a := w.scans.length) (b := 1) (c := 56) (by omega) (by omega)
  unfold m_p0_spec_l10Scan addScan mkScan
  rw [hw]
  simp only [l1Has_v h1, Option.bind_some, List.length_cons, List.length_nil, Nat.zero_add, ha]
  by_cases hm : w.made < 1000000000
  · rw [decide_eq_true hm, cond_true]
    simp only [if_pos hm]
    cases hb : w.skip.any fun y => decide (y = w.made + 1) with
    | true => simp
    | false =>
      by_cases hl : w.scans.length < 200
      · rw [decide_eq_true (show (w.scans.length : Int) < 200 by omega)]; simp [hl]
      · rw [decide_eq_false (show ¬ (w.scans.length : Int) < 200 by omega)]; simp [hl]
  · rw [decide_eq_false hm, cond_false]
    simp only [if_neg hm]
    cases hb : w.skip.any fun y => decide (y = w.made) with
    | true => simp
    | false =>
      by_cases hl : w.scans.length < 200
      · rw [decide_eq_true (show (w.scans.length : Int) < 200 by omega)]; simp [hl]
      · rw [decide_eq_false (show ¬ (w.scans.length : Int) < 200 by omega)]; simp [hl]
/-- How a world lies in the loops. -/
abbrev OwT := Int × Int × Int × (List YLeg) × (List Int) × (List YOrder) × (List YBooking) × (List YTrip) × (List Int) × (List YScan)
def owT (w : YWorld) : OwT := (w.network.change, w.now, w.made, w.network.legs, w.network.off, w.orders, w.bookings, w.closed, w.skip, w.scans)
def twT (i : Int) (w : YWorld) : Int × OwT := (i, owT w)
def addScans (w : YWorld) (l : List YScan) : YWorld := l.foldl addScan w
theorem addScans_eq : ∀ (l : List YScan) (w : YWorld), addScans w l = { w with scans := (l.foldl (mkScan w.skip) (w.scans, w.made)).1, made := (l.foldl (mkScan w.skip) (w.scans, w.made)).2 }
  | [], w => rfl
  | s :: l, w => by
    show addScans (addScan w s) l = _
    rw [addScans_eq l (addScan w s)]
    rfl
def stepW (f : YOrder → YOrder) (g : Nat → YOrder → List YScan) (i : Nat) (o : YOrder) (w : YWorld) : YWorld := addScans { w with orders := w.orders.set i (f o) } (g i o)
def passW (f : YOrder → YOrder) (g : Nat → YOrder → List YScan) : Nat → List YOrder → YWorld → YWorld
  | _, [], w => w
  | i, o :: os, w => passW f g (i + 1) os (stepW f g i o w)
theorem stepW_eq (f : YOrder → YOrder) (g : Nat → YOrder → List YScan) (i : Nat) (o : YOrder) (w : YWorld) : stepW f g i o w = { w with orders := w.orders.set i (f o), scans := ((g i o).foldl (mkScan w.skip) (w.scans, w.made)).1, made := ((g i o).foldl (mkScan w.skip) (w.scans, w.made)).2 } := by
  unfold stepW; rw [addScans_eq]
theorem passW_eq (f : YOrder → YOrder) (g : Nat → YOrder → List YScan) : ∀ (os pre : List YOrder) (w : YWorld), w.orders = pre ++ os →
    passW f g pre.length os w = { w with orders := pre ++ os.map f, scans := ((scansOf g pre.length os).foldl (mkScan w.skip) (w.scans, w.made)).1, made := ((scansOf g pre.length os).foldl (mkScan w.skip) (w.scans, w.made)).2 }
  | [], pre, w, h => by simp only [passW, scansOf, List.map_nil, List.foldl_nil]; rw [← h]
  | o :: os, pre, w, h => by
    have hset : w.orders.set pre.length (f o) = (pre ++ [f o]) ++ os := by rw [h, List.set_append_right _ _ (Nat.le_refl _)]; simp
    have := passW_eq f g os (pre ++ [f o]) (stepW f g pre.length o w) (by rw [stepW_eq]; exact hset)
    simp only [List.length_append, List.length_cons, List.length_nil] at this
    show passW f g (pre.length + 1) os (stepW f g pre.length o w) = _
    rw [this, stepW_eq]
    simp only [scansOf, List.foldl_append, List.map_cons, List.append_assoc, List.cons_append, List.nil_append]
/-- A loop over the orders of a world that steps so. -/
theorem loop_pass {f : YOrder → YOrder} {g : Nat → YOrder → List YScan} {body : Int × OwT → Option ((Int × OwT) ⊕ OwT)} {n : Nat} {Inv : YWorld → Prop} {Good : Nat → YOrder → Prop}
    (h1 : ∀ (i : Nat) (o : YOrder) (w : YWorld), w.orders.length = n → w.orders[i]? = some o → Inv w → Good i o → body (twT i w) = some (.inl (twT ((i + 1 : Nat) : Int) (stepW f g i o w))) ∧ Inv (stepW f g i o w))
    (h2 : ∀ w : YWorld, w.orders.length = n → body (twT n w) = some (.inr (owT w))) :
    ∀ (os : List YOrder) (i : Nat) (N : Nat) (w : YWorld), w.orders.drop i = os → w.orders.length = n → i ≤ n → os.length < N → Inv w → (∀ (j : Nat) (o : YOrder), os[j]? = some o → Good (i + j) o) → iterF body N (twT i w) = some (owT (passW f g i os w))
  | [], i, 0, w, _, _, _, hN, _, _ => by simp at hN
  | [], i, N + 1, w, hd, hl, hi, hN, hI, hG => by
    have : i = n := by have := congrArg List.length hd; simp at this; omega
    subst this
    simp only [iterF, h2 w hl, passW]
    rfl
  | o :: os, i, 0, w, _, _, _, hN, _, _ => by simp at hN
  | o :: os, i, N + 1, w, hd, hl, hi, hN, hI, hG => by
    have ho : w.orders[i]? = some o := by
      have := congrArg (fun l : List YOrder => l[0]?) hd
      simpa using this
    have hlt : i < w.orders.length := (List.getElem?_eq_some_iff.1 ho).1
    obtain ⟨e1, e2⟩ := h1 i o w hl ho hI (by simpa using hG 0 o rfl)
    have hor : (stepW f g i o w).orders = w.orders.set i (f o) := by rw [stepW_eq]
    simp only [iterF, e1, passW]
    refine loop_pass h1 h2 os (i + 1) N (stepW f g i o w) ?_ (by rw [hor, List.length_set]; exact hl) (by omega) (by simp at hN; omega) e2 fun j o' hj => ?_
    · rw [hor, List.drop_set]
      have : (w.orders.drop (i + 1)) = os := by
        have := congrArg (List.drop 1) hd
        simpa [List.drop_drop] using this
      rw [if_pos (by omega), this]
    · have := hG (j + 1) o' (by simpa using hj)
      rwa [show i + (j + 1) = i + 1 + j by omega] at this
/-- What the passes need of a world. -/
structure PassInv (n : YNetwork) (k : Nat) (w : YWorld) : Prop where
  net : w.network = n
  scans : ScanInv w
  orders : w.orders.length ≤ 1048576
theorem addScans_inv : ∀ (l : List YScan) (w : YWorld), ScanInv w → ScanInv (addScans w l)
  | [], w, h => h
  | s :: l, w, h => addScans_inv l _ (addScan_inv h s)
theorem PassInv.step {n : YNetwork} {k : Nat} {w : YWorld} (h : PassInv n k w) (f : YOrder → YOrder) (g : Nat → YOrder → List YScan) (i : Nat) (o : YOrder) : PassInv n k (stepW f g i o w) := by
  have hs : ScanInv { w with orders := w.orders.set i (f o) } := ⟨h.scans.skip, h.scans.len, h.scans.made⟩
  have h1 := addScans_inv (g i o) _ hs
  rw [stepW_eq]
  unfold stepW at *
  rw [addScans_eq] at h1
  exact ⟨h.net, h1, by simp only [List.length_set]; exact h.orders⟩
/-- What an order must be for its passes. -/
structure PassOk (n : YNetwork) (o : YOrder) : Prop where
  gone : 0 ≤ o.gone ∧ o.gone ≤ o.way.length
  len : o.way.length ≤ 1048576
  trip : ∀ t ∈ o.way, tripB n t = true
  rides : o.state = 2 → o.gone < o.way.length
theorem set_same {α : Type} {xs : List α} {i : Nat} {x : α} (h : xs[i]? = some x) : xs.set i x = xs := by
  apply List.ext_getElem?
  intro j
  rw [List.getElem?_set]
  split
  · rename_i e; subst e
    split
    · exact h.symm
    · rename_i hl; exact absurd (List.getElem?_eq_some_iff.1 h).1 hl
  · rfl
theorem world_set {w : YWorld} {i : Nat} {o : YOrder} (h : w.orders[i]? = some o) : { w with orders := w.orders.set i o } = w := by rw [set_same h]
theorem load_none {n : YNetwork} {at_ : Int} {i : Nat} {o : YOrder} (h : ¬ o.state = 1 ∨ o.way[o.gone.toNat]? = none ∨ ∃ t, o.way[o.gone.toNat]? = some t ∧ ¬ startV n t = at_) : loadV n at_ o = o ∧ loadsV n at_ i o = [] := by
  unfold loadV loadsV
  rcases h with h | h | ⟨t, h, h'⟩
  · cases o.way[o.gone.toNat]? with
    | none => exact ⟨rfl, rfl⟩
    | some t => simp [h]
  · rw [h]; exact ⟨rfl, rfl⟩
  · rw [h]; simp [h']
section
variable {n : YNetwork} (hf : NetFit n) (hn : m_spec_IsNetwork n = some true)
include hf hn
theorem pass1_i (w0 : YWorld) (h0 : w0.network = n) (hl0 : w0.orders.length ≤ 1048576) {at_ : Int} (i : Nat) (o : YOrder) (w : YWorld) (hl : w.orders.length = w0.orders.length) (ho : w.orders[i]? = some o) (hI : PassInv n 0 w) (hG : PassOk n o) :
    m_p0_impl_happen_b0 w0 at_ (twT i w) = some (.inl (twT ((i + 1 : Nat) : Int) (stepW (arriveV n at_) (dropsV n at_) i o w))) := by
  have hlt := (List.getElem?_eq_some_iff.1 ho).1
  have hgg := hG.gone
  have hg : getI w.orders (i : Int) = some o := by rw [getI_nat]; exact ho
  have hr : rgI w.orders (i : Int) = some o := hg
  have hi : w64 ((i : Int) + 1) = ((i + 1 : Nat) : Int) := w64_nat hlt (by have := hI.orders; omega)
  have hd : decide ((i : Int) < (w0.orders.length : Int)) = true := decide_eq_true (by omega)
  have hnet : (⟨w.network.legs, w.network.off, w0.network.change⟩ : YNetwork) = n := by rw [hI.net, h0]
  have hnet2 : (⟨w.network.legs, w.network.off, w.network.change⟩ : YNetwork) = n := hI.net
  unfold m_p0_impl_happen_b0 twT owT
  simp only [hd, cond_true, hg, Option.bind_some, hi, hnet, ends_eq]
  by_cases hs : o.state = 2
  · have hgl := hG.rides hs
    have hgt : o.gone.toNat < o.way.length := by omega
    have ht : o.way[o.gone.toNat]? = some o.way[o.gone.toNat] := List.getElem?_eq_getElem hgt
    generalize o.way[o.gone.toNat] = t at ht
    have hgw : getI o.way o.gone = some t := by unfold getI; rw [if_pos hG.gone.1]; exact ht
    have htb := hG.trip t (List.mem_of_getElem? ht)
    obtain ⟨y, hy, _⟩ := tripB_leg hf htb
    obtain ⟨t1, t2, t3, t4, t5⟩ := trip_time hf hn htb
    have hto : legTo n t = y.to_ := by unfold legTo; rw [hy]; rfl
    have hyl : getI w.network.legs t.leg = some y := by rw [hI.net]; exact hy
    have hw1 : w64 (o.gone + 1) = o.gone + 1 := w64_in (by have := hG.len; omega)
    simp only [decide_eq_true hs, Bool.not_true, cond_false, hgw, Option.bind_some, t2]
    by_cases he : endsV n t = at_
    · have inv1 : ∀ os : List YOrder, ScanInv { w with orders := os } := fun os => ⟨hI.scans.skip, hI.scans.len, hI.scans.made⟩
      have ea : arriveV n at_ o = arr1 n at_ o t := by unfold arriveV; rw [ht]; simp only [hs, he, and_self, if_true]
      have ed : dropsV n at_ i o = ⟨((i + 1 : Nat) : Int), at_, 2, ⟨#[]⟩, t⟩ :: (if legTo n t = o.to_ then [⟨((i + 1 : Nat) : Int), at_, 4, legTo n t, ⟨0, 0⟩⟩] else []) := by unfold dropsV; rw [ht]; simp only [hs, he, and_self, if_true]
      unfold stepW
      rw [ea, ed]
      unfold arr1
      simp only [decide_eq_true he, Bool.not_true, cond_false, hr, hgw, hyl, Option.bind_some, frzL, rhoM, hnet2, Int.toNat_natCast, hw1]
      rw [show (⟨n, w.orders.set i ⟨o.from_, o.to_, o.service, o.weight, o.at_, o.due, o.way, o.gone + 1, 1, y.to_, o.ended⟩, w.bookings, w.closed, w.now, w.scans, w.skip, w.made⟩ : YWorld) = { w with orders := w.orders.set i ⟨o.from_, o.to_, o.service, o.weight, o.at_, o.due, o.way, o.gone + 1, 1, y.to_, o.ended⟩ } by rw [← hI.net]]
      rw [scan_i (inv1 _)]
      have hlt' : i < (w.orders.set i (⟨o.from_, o.to_, o.service, o.weight, o.at_, o.due, o.way, o.gone + 1, 1, y.to_, o.ended⟩ : YOrder)).length := by rw [List.length_set]; exact hlt
      have hr2 : rgI (w.orders.set i (⟨o.from_, o.to_, o.service, o.weight, o.at_, o.due, o.way, o.gone + 1, 1, y.to_, o.ended⟩ : YOrder)) (i : Int) = some ⟨o.from_, o.to_, o.service, o.weight, o.at_, o.due, o.way, o.gone + 1, 1, y.to_, o.ended⟩ := by
        unfold rgI; rw [getI_nat, List.getElem?_set_self hlt]
      simp only [Option.bind_some, addScan, hr2, hto]
      by_cases hc : y.to_ = o.to_
      · have hr3 : rgI (w.orders.set i (⟨o.from_, o.to_, o.service, o.weight, o.at_, o.due, o.way, o.gone + 1, 3, y.to_, at_⟩ : YOrder)) (i : Int) = some ⟨o.from_, o.to_, o.service, o.weight, o.at_, o.due, o.way, o.gone + 1, 3, y.to_, at_⟩ := by
          unfold rgI; rw [getI_nat, List.getElem?_set_self hlt]
        simp only [decide_eq_true hc, cond_true, List.set_set, hr3, Option.bind_some]
        have inv2 := addScan_inv (inv1 (w.orders.set i ⟨o.from_, o.to_, o.service, o.weight, o.at_, o.due, o.way, o.gone + 1, 3, y.to_, at_⟩)) (⟨((i + 1 : Nat) : Int), at_, 2, ⟨#[]⟩, t⟩ : YScan)
        have e2 := scan_i inv2 ⟨((i + 1 : Nat) : Int), at_, 4, y.to_, ⟨0, 0⟩⟩
        unfold addScan at e2
        simp only at e2
        simp only [e2, Option.bind_some, if_pos hc, addScans, List.foldl_cons, List.foldl_nil, addScan]
      · simp only [decide_eq_false hc, cond_false, if_neg hc, addScans, List.foldl_cons, List.foldl_nil, addScan]
    · have ea : arriveV n at_ o = o := by unfold arriveV; rw [ht]; simp only [he, and_false, if_false]
      have ed : dropsV n at_ i o = [] := by unfold dropsV; rw [ht]; simp only [he, and_false, if_false]
      simp only [decide_eq_false he, Bool.not_false, cond_true, stepW, ea, ed, addScans, List.foldl_nil, set_same ho]
  · have ea : arriveV n at_ o = o := by
      unfold arriveV
      cases o.way[o.gone.toNat]? with
      | none => rfl
      | some t => simp [hs]
    have ed : dropsV n at_ i o = [] := by
      unfold dropsV
      cases o.way[o.gone.toNat]? with
      | none => rfl
      | some t => simp [hs]
    simp only [decide_eq_false hs, Bool.not_false, cond_true, stepW, ea, ed, addScans, List.foldl_nil, set_same ho]
theorem pass1_s {at_ : Int} (i : Nat) (o : YOrder) (w : YWorld) (ho : w.orders[i]? = some o) (hI : PassInv n 0 w) (hG : PassOk n o) :
    m_p0_spec_l10At_b0 at_ (twT i w) = some (.inl (twT ((i + 1 : Nat) : Int) (stepW (arriveV n at_) (dropsV n at_) i o w))) := by
  have hlt := (List.getElem?_eq_some_iff.1 ho).1
  have hgg := hG.gone
  have hg : getI w.orders (i : Int) = some o := by rw [getI_nat]; exact ho
  have hi : w64 ((i : Int) + 1) = ((i + 1 : Nat) : Int) := w64_nat hlt (by have := hI.orders; omega)
  have hd : decide ((i : Int) < (w.orders.length : Int)) = true := decide_eq_true (by omega)
  have hnet2 : (⟨w.network.legs, w.network.off, w.network.change⟩ : YNetwork) = n := hI.net
  unfold m_p0_spec_l10At_b0 twT owT
  simp only [hd, cond_true, hg, Option.bind_some, hi, hnet2]
  by_cases hs : o.state = 2
  · have hgl := hG.rides hs
    have hgt : o.gone.toNat < o.way.length := by omega
    have ht : o.way[o.gone.toNat]? = some o.way[o.gone.toNat] := List.getElem?_eq_getElem hgt
    generalize o.way[o.gone.toNat] = t at ht
    have hgw : getI o.way o.gone = some t := by unfold getI; rw [if_pos hG.gone.1]; exact ht
    have htb := hG.trip t (List.mem_of_getElem? ht)
    obtain ⟨y, hy, _⟩ := tripB_leg hf htb
    obtain ⟨t1, t2, t3, t4, t5⟩ := trip_time hf hn htb
    have hto : legTo n t = y.to_ := by unfold legTo; rw [hy]; rfl
    have hw1 : w64 (o.gone + 1) = o.gone + 1 := w64_in (by have := hG.len; omega)
    simp only [decide_eq_true hs, Bool.not_true, cond_false, hgw, Option.bind_some, t2]
    by_cases he : endsV n t = at_
    · have ea : arriveV n at_ o = arr1 n at_ o t := by unfold arriveV; rw [ht]; simp only [hs, he, and_self, if_true]
      have ed : dropsV n at_ i o = ⟨((i + 1 : Nat) : Int), at_, 2, ⟨#[]⟩, t⟩ :: (if legTo n t = o.to_ then [⟨((i + 1 : Nat) : Int), at_, 4, legTo n t, ⟨0, 0⟩⟩] else []) := by unfold dropsV; rw [ht]; simp only [hs, he, and_self, if_true]
      unfold stepW
      rw [ea, ed]
      unfold arr1
      simp only [decide_eq_true he, Bool.not_true, cond_false, Option.bind_some, frzL, rhoM, Int.toNat_natCast, hw1]
      have e1 := scan_s hI.scans ⟨((i + 1 : Nat) : Int), at_, 2, ⟨#[]⟩, t⟩
      have hw : w = ⟨n, w.orders, w.bookings, w.closed, w.now, w.scans, w.skip, w.made⟩ := by rw [← hI.net]
      rw [← hI.net] at hy
      rw [show (⟨n, w.orders, w.bookings, w.closed, w.now, w.scans, w.skip, w.made⟩ : YWorld) = w from hw.symm, e1]
      simp only [Option.bind_some, addScan, hg, hy, hto]
      by_cases hc : y.to_ = o.to_
      · have inv2 : ScanInv { addScan w ⟨((i + 1 : Nat) : Int), at_, 2, ⟨#[]⟩, t⟩ with orders := w.orders.set i ⟨o.from_, o.to_, o.service, o.weight, o.at_, o.due, o.way, o.gone + 1, 3, y.to_, at_⟩ } := by
          obtain ⟨a, b, c⟩ := addScan_inv hI.scans ⟨((i + 1 : Nat) : Int), at_, 2, ⟨#[]⟩, t⟩
          exact ⟨a, b, c⟩
        have e2 := scan_s inv2 ⟨((i + 1 : Nat) : Int), at_, 4, o.to_, ⟨0, 0⟩⟩
        unfold addScan at e2
        simp only at e2
        have hcd : decide (y.to_ = o.to_) = true := decide_eq_true hc
        simp only [hcd, cond_true, Option.bind_some, e2, if_pos hc, addScans, List.foldl_cons, List.foldl_nil, addScan]
        simp only [hc]
      · simp only [decide_eq_false hc, cond_false, if_neg hc, addScans, List.foldl_cons, List.foldl_nil, addScan]
    · have ea : arriveV n at_ o = o := by unfold arriveV; rw [ht]; simp only [he, and_false, if_false]
      have ed : dropsV n at_ i o = [] := by unfold dropsV; rw [ht]; simp only [he, and_false, if_false]
      simp only [decide_eq_false he, Bool.not_false, cond_true, stepW, ea, ed, addScans, List.foldl_nil, set_same ho]
  · have ea : arriveV n at_ o = o := by
      unfold arriveV
      cases o.way[o.gone.toNat]? with
      | none => rfl
      | some t => simp [hs]
    have ed : dropsV n at_ i o = [] := by
      unfold dropsV
      cases o.way[o.gone.toNat]? with
      | none => rfl
      | some t => simp [hs]
    simp only [decide_eq_false hs, Bool.not_false, cond_true, stepW, ea, ed, addScans, List.foldl_nil, set_same ho]
theorem pass2_i (w0 : YWorld) (h0 : w0.network = n) (o0 : OwT) {at_ : Int} (i : Nat) (o : YOrder) (w : YWorld) (hl : w.orders.length = o0.2.2.2.2.2.1.length) (ho : w.orders[i]? = some o) (hI : PassInv n 0 w) (hG : PassOk n o) :
    m_p0_impl_happen_b1 w0 at_ o0 (twT i w) = some (.inl (twT ((i + 1 : Nat) : Int) (stepW (loadV n at_) (loadsV n at_) i o w))) := by
  have hlt := (List.getElem?_eq_some_iff.1 ho).1
  have hgg := hG.gone
  have hg : getI w.orders (i : Int) = some o := by rw [getI_nat]; exact ho
  have hr : rgI w.orders (i : Int) = some o := hg
  have hi : w64 ((i : Int) + 1) = ((i + 1 : Nat) : Int) := w64_nat hlt (by have := hI.orders; omega)
  have hd : decide ((i : Int) < (o0.2.2.2.2.2.1.length : Int)) = true := decide_eq_true (by omega)
  have hnet : (⟨w.network.legs, w.network.off, w0.network.change⟩ : YNetwork) = n := by rw [hI.net, h0]
  have hnet2 : (⟨w.network.legs, w.network.off, w.network.change⟩ : YNetwork) = n := hI.net
  unfold m_p0_impl_happen_b1 twT owT
  simp only [hd, cond_true, hg, Option.bind_some, hi, hnet, starts_eq]
  by_cases hs : o.state = 1
  · by_cases hgl : o.gone < o.way.length
    · have hgt : o.gone.toNat < o.way.length := by omega
      have ht : o.way[o.gone.toNat]? = some o.way[o.gone.toNat] := List.getElem?_eq_getElem hgt
      generalize o.way[o.gone.toNat] = t at ht
      have hgw : getI o.way o.gone = some t := by unfold getI; rw [if_pos hG.gone.1]; exact ht
      have htb := hG.trip t (List.mem_of_getElem? ht)
      obtain ⟨t1, t2, t3, t4, t5⟩ := trip_time hf hn htb
      simp only [decide_eq_true hs, decide_eq_true hgl, cond_true, hgw, Option.bind_some, t1]
      by_cases he : startV n t = at_
      · have ea : loadV n at_ o = ⟨o.from_, o.to_, o.service, o.weight, o.at_, o.due, o.way, o.gone, 2, ⟨#[]⟩, o.ended⟩ := by unfold loadV; rw [ht]; simp only [hs, he, and_self, if_true]
        have ed : loadsV n at_ i o = [⟨((i + 1 : Nat) : Int), at_, 3, ⟨#[]⟩, t⟩] := by unfold loadsV; rw [ht]; simp only [hs, he, and_self, if_true]
        have hr2 : rgI (w.orders.set i (⟨o.from_, o.to_, o.service, o.weight, o.at_, o.due, o.way, o.gone, 2, ⟨#[]⟩, o.ended⟩ : YOrder)) (i : Int) = some ⟨o.from_, o.to_, o.service, o.weight, o.at_, o.due, o.way, o.gone, 2, ⟨#[]⟩, o.ended⟩ := by
          unfold rgI; rw [getI_nat, List.getElem?_set_self hlt]
        have inv1 : ScanInv { w with orders := w.orders.set i ⟨o.from_, o.to_, o.service, o.weight, o.at_, o.due, o.way, o.gone, 2, ⟨#[]⟩, o.ended⟩ } := ⟨hI.scans.skip, hI.scans.len, hI.scans.made⟩
        have e1 := scan_i inv1 ⟨((i + 1 : Nat) : Int), at_, 3, ⟨#[]⟩, t⟩
        have hnw : w.network = n := hI.net
        simp only [hnw] at e1
        unfold stepW
        rw [ea, ed]
        simp only [decide_eq_true he, cond_true, hr, Option.bind_some, frzL, rhoM, drwL, hnet2, Int.toNat_natCast, hr2, hgw, e1, addScans, List.foldl_cons, List.foldl_nil, addScan, hnw]
      · obtain ⟨ea, ed⟩ := load_none (n := n) (at_ := at_) (i := i) (.inr (.inr ⟨t, ht, he⟩))
        simp only [decide_eq_false he, cond_false, stepW, ea, ed, addScans, List.foldl_nil, set_same ho]
    · obtain ⟨ea, ed⟩ := load_none (n := n) (at_ := at_) (i := i) (o := o) (.inr (.inl (List.getElem?_eq_none (by omega))))
      simp only [decide_eq_true hs, decide_eq_false hgl, cond_true, cond_false, stepW, ea, ed, addScans, List.foldl_nil, set_same ho]
  · obtain ⟨ea, ed⟩ := load_none (n := n) (at_ := at_) (i := i) (o := o) (.inl hs)
    simp only [decide_eq_false hs, cond_false, stepW, ea, ed, addScans, List.foldl_nil, set_same ho]
theorem pass2_s {at_ : Int} (i : Nat) (o : YOrder) (w : YWorld) (ho : w.orders[i]? = some o) (hI : PassInv n 0 w) (hG : PassOk n o) :
    m_p0_spec_l10At_b1 at_ (twT i w) = some (.inl (twT ((i + 1 : Nat) : Int) (stepW (loadV n at_) (loadsV n at_) i o w))) := by
  have hlt := (List.getElem?_eq_some_iff.1 ho).1
  have hgg := hG.gone
  have hg : getI w.orders (i : Int) = some o := by rw [getI_nat]; exact ho
  have hi : w64 ((i : Int) + 1) = ((i + 1 : Nat) : Int) := w64_nat hlt (by have := hI.orders; omega)
  have hd : decide ((i : Int) < (w.orders.length : Int)) = true := decide_eq_true (by omega)
  have hnet2 : (⟨w.network.legs, w.network.off, w.network.change⟩ : YNetwork) = n := hI.net
  unfold m_p0_spec_l10At_b1 twT owT
  simp only [hd, cond_true, hg, Option.bind_some, hi, hnet2]
  by_cases hs : o.state = 1
  · by_cases hgl : o.gone < o.way.length
    · have hgt : o.gone.toNat < o.way.length := by omega
      have ht : o.way[o.gone.toNat]? = some o.way[o.gone.toNat] := List.getElem?_eq_getElem hgt
      generalize o.way[o.gone.toNat] = t at ht
      have hgw : getI o.way o.gone = some t := by unfold getI; rw [if_pos hG.gone.1]; exact ht
      have htb := hG.trip t (List.mem_of_getElem? ht)
      obtain ⟨t1, t2, t3, t4, t5⟩ := trip_time hf hn htb
      simp only [decide_eq_true hs, decide_eq_true hgl, cond_true, hgw, Option.bind_some, t1]
      by_cases he : startV n t = at_
      · have ea : loadV n at_ o = ⟨o.from_, o.to_, o.service, o.weight, o.at_, o.due, o.way, o.gone, 2, ⟨#[]⟩, o.ended⟩ := by unfold loadV; rw [ht]; simp only [hs, he, and_self, if_true]
        have ed : loadsV n at_ i o = [⟨((i + 1 : Nat) : Int), at_, 3, ⟨#[]⟩, t⟩] := by unfold loadsV; rw [ht]; simp only [hs, he, and_self, if_true]
        have inv1 : ScanInv { w with orders := w.orders.set i ⟨o.from_, o.to_, o.service, o.weight, o.at_, o.due, o.way, o.gone, 2, ⟨#[]⟩, o.ended⟩ } := ⟨hI.scans.skip, hI.scans.len, hI.scans.made⟩
        have e1 := scan_s inv1 ⟨((i + 1 : Nat) : Int), at_, 3, ⟨#[]⟩, t⟩
        have hnw : w.network = n := hI.net
        simp only [hnw] at e1
        unfold stepW
        rw [ea, ed]
        simp only [decide_eq_true he, cond_true, Option.bind_some, frzL, rhoM, drwL, hnet2, Int.toNat_natCast, hgw, e1, addScans, List.foldl_cons, List.foldl_nil, addScan, hnw]
      · obtain ⟨ea, ed⟩ := load_none (n := n) (at_ := at_) (i := i) (.inr (.inr ⟨t, ht, he⟩))
        simp only [decide_eq_false he, cond_false, stepW, ea, ed, addScans, List.foldl_nil, set_same ho]
    · obtain ⟨ea, ed⟩ := load_none (n := n) (at_ := at_) (i := i) (o := o) (.inr (.inl (List.getElem?_eq_none (by omega))))
      simp only [decide_eq_true hs, decide_eq_false hgl, cond_true, cond_false, stepW, ea, ed, addScans, List.foldl_nil, set_same ho]
  · obtain ⟨ea, ed⟩ := load_none (n := n) (at_ := at_) (i := i) (o := o) (.inl hs)
    simp only [decide_eq_false hs, cond_false, stepW, ea, ed, addScans, List.foldl_nil, set_same ho]
end
/-- What a time does to a world whose orders may be looked at. -/
structure WorldPass (w : YWorld) : Prop where
  net : NetFit w.network
  isNet : m_spec_IsNetwork w.network = some true
  inv : PassInv w.network 0 w
  ord : ∀ o ∈ w.orders, PassOk w.network o
theorem passOk_same {n : YNetwork} {at_ : Int} {o : YOrder} (h : PassOk n o) : PassOk n (arriveV n at_ o) := by
  have hs := arrive_same n at_ o
  refine ⟨?_, by rw [hs.way]; exact h.len, by rw [hs.way]; exact h.trip, ?_⟩
  · rw [hs.way]
    have := h.gone
    unfold arriveV
    split
    · rename_i t ht
      have hlt := (List.getElem?_eq_some_iff.1 ht).1
      split
      · unfold arr1; split <;> (simp only; omega)
      · exact this
    · exact this
  · unfold arriveV
    split
    · split
      · unfold arr1; split <;> (intro h'; simp at h')
      · exact h.rides
    · exact h.rides
theorem happen_both {w : YWorld} (h : WorldPass w) (at_ : Int) : m_p0_impl_happen w at_ = some (happenV w at_) ∧ m_p0_spec_l10At w at_ = some (happenV w at_) := by
  have hlen := h.inv.orders
  have p1 : passW (arriveV w.network at_) (dropsV w.network at_) 0 w.orders w = { w with orders := w.orders.map (arriveV w.network at_), scans := ((scansOf (dropsV w.network at_) 0 w.orders).foldl (mkScan w.skip) (w.scans, w.made)).1, made := ((scansOf (dropsV w.network at_) 0 w.orders).foldl (mkScan w.skip) (w.scans, w.made)).2 } := by
    have := passW_eq (arriveV w.network at_) (dropsV w.network at_) w.orders [] w rfl
    simpa using this
  have i1 : PassInv w.network 0 (passW (arriveV w.network at_) (dropsV w.network at_) 0 w.orders w) := by
    have : ∀ (os : List YOrder) (i : Nat) (v : YWorld), PassInv w.network 0 v → PassInv w.network 0 (passW (arriveV w.network at_) (dropsV w.network at_) i os v) := by
      intro os
      induction os with
      | nil => intro i v hv; exact hv
      | cons o os ih => intro i v hv; exact ih (i + 1) _ (hv.step _ _ i o)
    exact this _ _ _ h.inv
  have o1 : (passW (arriveV w.network at_) (dropsV w.network at_) 0 w.orders w).orders = w.orders.map (arriveV w.network at_) := by rw [p1]
  have p2 := passW_eq (loadV w.network at_) (loadsV w.network at_) (w.orders.map (arriveV w.network at_)) [] (passW (arriveV w.network at_) (dropsV w.network at_) 0 w.orders w) (by rw [o1]; rfl)
  simp only [List.length_nil, List.nil_append] at p2
  have hgood : ∀ (j : Nat) (o : YOrder), w.orders[j]? = some o → PassOk w.network o := fun j o ho => h.ord o (List.mem_of_getElem? ho)
  have hgood2 : ∀ (j : Nat) (o : YOrder), (w.orders.map (arriveV w.network at_))[j]? = some o → PassOk w.network o := fun j o ho => by
    rw [List.getElem?_map] at ho
    obtain ⟨o0, h0, rfl⟩ := Option.map_eq_some_iff.1 ho
    exact passOk_same (hgood j o0 h0)
  have fin : ∀ v : YWorld, v = passW (loadV w.network at_) (loadsV w.network at_) 0 (w.orders.map (arriveV w.network at_)) (passW (arriveV w.network at_) (dropsV w.network at_) 0 w.orders w) → { v with now := at_ } = happenV w at_ := by
    rintro v rfl
    rw [p2, p1]
    unfold happenV scans1 stepV
    simp only [List.map_map, List.foldl_append]
    rfl
  constructor
  · unfold m_p0_impl_happen
    have l1 := loop_pass (f := arriveV w.network at_) (g := dropsV w.network at_) (body := m_p0_impl_happen_b0 w at_) (n := w.orders.length) (Inv := PassInv w.network 0) (Good := fun _ o => PassOk w.network o)
      (fun i o v hv ho hI hG => ⟨pass1_i h.net h.isNet w rfl hlen i o v hv ho hI hG, hI.step _ _ i o⟩)
      (fun v hv => by unfold m_p0_impl_happen_b0 twT owT; simp only [decide_eq_false (show ¬ (w.orders.length : Int) < (w.orders.length : Int) by omega), cond_false]) w.orders 0 NN w rfl rfl (Nat.zero_le _) (by unfold NN; omega) h.inv hgood
    have e1 : ((0 : Int), w.network.change, w.now, w.made, w.network.legs, w.network.off, w.orders, w.bookings, w.closed, w.skip, w.scans) = twT ((0 : Nat) : Int) w := rfl
    rw [e1, l1, Option.bind_some]
    generalize hv1 : passW (arriveV w.network at_) (dropsV w.network at_) 0 w.orders w = v1 at *
    have hl2 : v1.orders.length = w.orders.length := by rw [o1, List.length_map]
    have l2 := loop_pass (f := loadV w.network at_) (g := loadsV w.network at_) (body := m_p0_impl_happen_b1 w at_ (owT v1)) (n := v1.orders.length) (Inv := PassInv w.network 0) (Good := fun _ o => PassOk w.network o)
      (fun i o v hv ho hI hG => ⟨pass2_i h.net h.isNet w rfl (owT v1) i o v hv ho hI hG, hI.step _ _ i o⟩)
      (fun v hv => by unfold m_p0_impl_happen_b1 twT owT; simp only [decide_eq_false (show ¬ (v1.orders.length : Int) < (v1.orders.length : Int) by omega), cond_false]) (w.orders.map (arriveV w.network at_)) 0 NN v1 (by rw [o1]; rfl) rfl (Nat.zero_le _) (by rw [List.length_map]; unfold NN; omega) i1 hgood2
    have e2 : ((0 : Int), (owT v1).1, (owT v1).2.1, (owT v1).2.2.1, (owT v1).2.2.2.1, (owT v1).2.2.2.2.1, (owT v1).2.2.2.2.2.1, (owT v1).2.2.2.2.2.2.1, (owT v1).2.2.2.2.2.2.2.1, (owT v1).2.2.2.2.2.2.2.2.1, (owT v1).2.2.2.2.2.2.2.2.2) = twT ((0 : Nat) : Int) v1 := rfl
    rw [e2, l2, Option.bind_some]
    exact congrArg some (fin _ rfl)
  · unfold m_p0_spec_l10At
    have l1 := loop_pass (f := arriveV w.network at_) (g := dropsV w.network at_) (body := m_p0_spec_l10At_b0 at_) (n := w.orders.length) (Inv := PassInv w.network 0) (Good := fun _ o => PassOk w.network o)
      (fun i o v hv ho hI hG => ⟨pass1_s h.net h.isNet i o v ho hI hG, hI.step _ _ i o⟩)
      (fun v hv => by unfold m_p0_spec_l10At_b0 twT owT; simp only [decide_eq_false (show ¬ (w.orders.length : Int) < (v.orders.length : Int) by omega), cond_false]) w.orders 0 NN w rfl rfl (Nat.zero_le _) (by unfold NN; omega) h.inv hgood
    have e1 : ((0 : Int), w.network.change, w.now, w.made, w.network.legs, w.network.off, w.orders, w.bookings, w.closed, w.skip, w.scans) = twT ((0 : Nat) : Int) w := rfl
    rw [e1, l1, Option.bind_some]
    generalize hv1 : passW (arriveV w.network at_) (dropsV w.network at_) 0 w.orders w = v1 at *
    have l2 := loop_pass (f := loadV w.network at_) (g := loadsV w.network at_) (body := m_p0_spec_l10At_b1 at_) (n := v1.orders.length) (Inv := PassInv w.network 0) (Good := fun _ o => PassOk w.network o)
      (fun i o v hv ho hI hG => ⟨pass2_s h.net h.isNet i o v ho hI hG, hI.step _ _ i o⟩)
      (fun v hv => by unfold m_p0_spec_l10At_b1 twT owT; simp only [decide_eq_false (show ¬ (v1.orders.length : Int) < (v.orders.length : Int) by omega), cond_false]) (w.orders.map (arriveV w.network at_)) 0 NN v1 (by rw [o1]; rfl) rfl (Nat.zero_le _) (by rw [List.length_map]; unfold NN; omega) i1 hgood2
    have e2 : ((0 : Int), (owT v1).1, (owT v1).2.1, (owT v1).2.2.1, (owT v1).2.2.2.1, (owT v1).2.2.2.2.1, (owT v1).2.2.2.2.2.1, (owT v1).2.2.2.2.2.2.1, (owT v1).2.2.2.2.2.2.2.1, (owT v1).2.2.2.2.2.2.2.2.1, (owT v1).2.2.2.2.2.2.2.2.2) = twT ((0 : Nat) : Int) v1 := rfl
    rw [e2, l2, Option.bind_some]
    exact congrArg some (fin _ rfl)
end Go.Proofs.YtmcdjilbkmhfoaaGreat

/- The mirror of o_impl_copyNetwork, and that the code does just that (printed by a program of my own). -/
namespace Go.Proofs.YtmcdjilbkmhfoaaGreat
set_option maxRecDepth 10000
open Go.RowKit
set_option linter.unusedVariables false
set_option maxHeartbeats 16000000
def m_o_impl_copyNetwork (n : YNetwork) : Option YNetwork :=
 (chk (appOk ((([] : List YLeg) : List YLeg).length + (n.legs : List YLeg).length) 64)).bind fun _ =>
 (chk (appOk ((([] : List Int) : List Int).length + (n.off : List Int).length) 8)).bind fun _ =>
 some (⟨((([] : List YLeg) : List YLeg) ++ n.legs), ((([] : List Int) : List Int) ++ n.off), n.change⟩ : YNetwork)
theorem ok_o_impl_copyNetwork (n : YNetwork) {r : YNetwork} (H : m_o_impl_copyNetwork n = some r) : CallM Tryz.prog 149 [.ag (cNetwork n)] [] (.ag [.ms 0, .ms 1, vi r.change]) [some ⟨67, 6, r.legs.map cLeg⟩, some ⟨3, 1, r.off.map cInt⟩] := by
  replace H := H0 H
  unfold m_o_impl_copyNetwork at H
  refine callM_of Tryz.func149 rfl Tryz.ntmps149 Tryz.results149 fun Q hQ hQn => ?_
  exact wk2
instance (n : YNetwork) : CT Tryz.prog (m_o_impl_copyNetwork n) := ⟨149, [.ag (cNetwork n)], [], fun r => .ag [.ms 0, .ms 1, vi r.change], fun r => [some ⟨67, 6, r.legs.map cLeg⟩, some ⟨3, 1, r.off.map cInt⟩], ok_o_impl_copyNetwork n⟩
end Go.Proofs.YtmcdjilbkmhfoaaGreat

/- The mirror of impl_copyBookings, and that the code does just that (printed by a program of my own). -/
namespace Go.Proofs.YtmcdjilbkmhfoaaGreat
set_option maxRecDepth 10000
open Go.RowKit
set_option linter.unusedVariables false
set_option maxHeartbeats 16000000
def m_impl_copyBookings (l : List YBooking) : Option (List YBooking) :=
 (chk (appOk ((([] : List YBooking) : List YBooking).length + (l : List YBooking).length) 32)).bind fun _ =>
 some ((([] : List YBooking) : List YBooking) ++ l)
theorem ok_impl_copyBookings (l : List YBooking) {r : (List YBooking)} (H : m_impl_copyBookings l = some r) : CallM Tryz.prog 169 [.sl (l.map cBooking)] [] (.ms 0) [some ⟨135, 4, r.map cBooking⟩] := by
  replace H := H0 H
  unfold m_impl_copyBookings at H
  refine callM_of Tryz.func169 rfl Tryz.ntmps169 Tryz.results169 fun Q hQ hQn => ?_
  exact wk2
instance (l : List YBooking) : CT Tryz.prog (m_impl_copyBookings l) := ⟨169, [.sl (l.map cBooking)], [], fun r => .ms 0, fun r => [some ⟨135, 4, r.map cBooking⟩], ok_impl_copyBookings l⟩
end Go.Proofs.YtmcdjilbkmhfoaaGreat

/- The mirror of impl_copyTrips, and that the code does just that (printed by a program of my own). -/
namespace Go.Proofs.YtmcdjilbkmhfoaaGreat
set_option maxRecDepth 10000
open Go.RowKit
set_option linter.unusedVariables false
set_option maxHeartbeats 16000000
def m_impl_copyTrips (l : List YTrip) : Option (List YTrip) :=
 (chk (appOk ((([] : List YTrip) : List YTrip).length + (l : List YTrip).length) 16)).bind fun _ =>
 some ((([] : List YTrip) : List YTrip) ++ l)
theorem ok_impl_copyTrips (l : List YTrip) {r : (List YTrip)} (H : m_impl_copyTrips l = some r) : CallM Tryz.prog 137 [.sl (l.map cTrip)] [] (.ms 0) [some ⟨55, 2, r.map cTrip⟩] := by
  replace H := H0 H
  unfold m_impl_copyTrips at H
  refine callM_of Tryz.func137 rfl Tryz.ntmps137 Tryz.results137 fun Q hQ hQn => ?_
  exact wk2
instance (l : List YTrip) : CT Tryz.prog (m_impl_copyTrips l) := ⟨137, [.sl (l.map cTrip)], [], fun r => .ms 0, fun r => [some ⟨55, 2, r.map cTrip⟩], ok_impl_copyTrips l⟩
end Go.Proofs.YtmcdjilbkmhfoaaGreat

/- The mirror of o_impl_copyWorld, and that the code does just that (printed by a program of my own). -/
namespace Go.Proofs.YtmcdjilbkmhfoaaGreat
set_option maxRecDepth 10000
open Go.RowKit
set_option linter.unusedVariables false
set_option maxHeartbeats 16000000
def m_o_impl_copyWorld_b0 (w : YWorld) (y1 : YNetwork) (y2 : (List YBooking)) (y3 : (List YTrip)) (s0 : Int × (List YOrder)) : Option ((Int × (List YOrder)) ⊕ (List YOrder)) :=
 cond (decide (s0.1 < (w.orders.length : Int)))
 ((getI w.orders s0.1).bind fun y4 =>
 (m_impl_copyTrips y4.way).bind fun y5 =>
 (frz [.un, .un, .be 0 0 0, .be 1 0 0, .un, .be 9 0 0, .un, .un, .un, .un, .un, .un, .un, .un, .un, .un, .un, .un, .un, .un, .un, .un, .un, .un, .un, .un, .un, .un, .un, .sl (w.orders.map cOrder), vi (w.orders.length : Int), vi s0.1, .un, .un, .un, .un, .un, .un, .un, .un, .un, .un, .un, .un, .un, .un, .un] [some ⟨41, 10, [[.v (.slice none 0 0), .v (.slice none 0 0), vi 0, .v (.slice none 0 0), .v (.slice none 0 0), .v (.slice none 0 0), vi 0, .v (.slice none 0 0), .v (.slice none 0 0), vi 0]]⟩, some ⟨41, 10, [[.ms 2, .ms 3, vi y1.change, .ms 4, .ms 5, .ms 6, vi w.now, .ms 7, .ms 8, vi w.made]]⟩, some ⟨67, 6, y1.legs.map cLeg⟩, some ⟨3, 1, y1.off.map cInt⟩, some ⟨62, 11, s0.2.map cOrder⟩, some ⟨135, 4, y2.map cBooking⟩, some ⟨55, 2, y3.map cTrip⟩, some ⟨130, 6, ((([] : List YScan) : List YScan) ++ w.scans).map cScan⟩, some ⟨3, 1, ((([] : List Int) : List Int) ++ w.skip).map cInt⟩, some ⟨62, 11, [[vs y4.from_, vs y4.to_, vi y4.service, vi y4.weight, vi y4.at_, vi y4.due, .sl (y5.map cTrip), vi y4.gone, vi y4.state, vs y4.place, vi y4.ended]]⟩]).bind fun _ =>
 (chk (appOk ((s0.2 : List YOrder).length + ([(⟨y4.from_, y4.to_, y4.service, y4.weight, y4.at_, y4.due, y5, y4.gone, y4.state, y4.place, y4.ended⟩ : YOrder)] : List YOrder).length) 128)).bind fun _ =>
 some (.inl ((w64 (s0.1 + 1)), ((s0.2 : List YOrder) ++ [(⟨y4.from_, y4.to_, y4.service, y4.weight, y4.at_, y4.due, y5, y4.gone, y4.state, y4.place, y4.ended⟩ : YOrder)]))))
 (some (.inr s0.2))
instance (w : YWorld) (y1 : YNetwork) (y2 : (List YBooking)) (y3 : (List YTrip)) : LoopE (m_o_impl_copyWorld_b0 w y1 y2 y3) := ⟨fun s0 => [.un, .un, .be 0 0 0, .be 1 0 0, .un, .un, .un, .un, .un, .un, .un, .un, .un, .un, .un, .un, .un, .un, .un, .un, .un, .un, .un, .un, .un, .un, .un, .un, .un, .sl (w.orders.map cOrder), vi (w.orders.length : Int), vi s0.1, .un, .un, .un, .un, .un, .un, .un, .un, .un, .un, .un, .un, .un, .un, .un], fun s0 => [some ⟨41, 10, [[.v (.slice none 0 0), .v (.slice none 0 0), vi 0, .v (.slice none 0 0), .v (.slice none 0 0), .v (.slice none 0 0), vi 0, .v (.slice none 0 0), .v (.slice none 0 0), vi 0]]⟩, some ⟨41, 10, [[.ms 2, .ms 3, vi y1.change, .ms 4, .ms 5, .ms 6, vi w.now, .ms 7, .ms 8, vi w.made]]⟩, some ⟨67, 6, y1.legs.map cLeg⟩, some ⟨3, 1, y1.off.map cInt⟩, some ⟨62, 11, s0.2.map cOrder⟩, some ⟨135, 4, y2.map cBooking⟩, some ⟨55, 2, y3.map cTrip⟩, some ⟨130, 6, ((([] : List YScan) : List YScan) ++ w.scans).map cScan⟩, some ⟨3, 1, ((([] : List Int) : List Int) ++ w.skip).map cInt⟩]⟩
def m_o_impl_copyWorld (w : YWorld) : Option YWorld :=
 (m_o_impl_copyNetwork w.network).bind fun y1 =>
 (m_impl_copyBookings w.bookings).bind fun y2 =>
 (m_impl_copyTrips w.closed).bind fun y3 =>
 (chk (appOk ((([] : List YScan) : List YScan).length + (w.scans : List YScan).length) 56)).bind fun _ =>
 (chk (appOk ((([] : List Int) : List Int).length + (w.skip : List Int).length) 8)).bind fun _ =>
 (iterF (m_o_impl_copyWorld_b0 w y1 y2 y3) NN (0, [])).bind (fun o0 =>
 some (⟨y1, o0, y2, y3, w.now, ((([] : List YScan) : List YScan) ++ w.scans), ((([] : List Int) : List Int) ++ w.skip), w.made⟩ : YWorld))
theorem ok_o_impl_copyWorld (w : YWorld) {r : YWorld} (H : m_o_impl_copyWorld w = some r) : CallM Tryz.prog 80 [.ag (cWorld w)] [] (.ag [.ms 0, .ms 1, vi r.network.change, .ms 2, .ms 3, .ms 4, vi r.now, .ms 5, .ms 6, vi r.made]) [some ⟨67, 6, r.network.legs.map cLeg⟩, some ⟨3, 1, r.network.off.map cInt⟩, some ⟨62, 11, r.orders.map cOrder⟩, some ⟨135, 4, r.bookings.map cBooking⟩, some ⟨55, 2, r.closed.map cTrip⟩, some ⟨130, 6, r.scans.map cScan⟩, some ⟨3, 1, r.skip.map cInt⟩] := by
  replace H := H0 H
  unfold m_o_impl_copyWorld at H
  refine callM_of Tryz.func80 rfl Tryz.ntmps80 Tryz.results80 fun Q hQ hQn => ?_
  exact wk2
instance (w : YWorld) : CT Tryz.prog (m_o_impl_copyWorld w) := ⟨80, [.ag (cWorld w)], [], fun r => .ag [.ms 0, .ms 1, vi r.network.change, .ms 2, .ms 3, .ms 4, vi r.now, .ms 5, .ms 6, vi r.made], fun r => [some ⟨67, 6, r.network.legs.map cLeg⟩, some ⟨3, 1, r.network.off.map cInt⟩, some ⟨62, 11, r.orders.map cOrder⟩, some ⟨135, 4, r.bookings.map cBooking⟩, some ⟨55, 2, r.closed.map cTrip⟩, some ⟨130, 6, r.scans.map cScan⟩, some ⟨3, 1, r.skip.map cInt⟩], ok_o_impl_copyWorld w⟩
end Go.Proofs.YtmcdjilbkmhfoaaGreat

/- The mirror of impl_AdvanceTo, and that the code does just that (printed by a program of my own). -/
namespace Go.Proofs.YtmcdjilbkmhfoaaGreat
set_option maxRecDepth 10000
open Go.RowKit
set_option linter.unusedVariables false
set_option maxHeartbeats 16000000
def m_impl_AdvanceTo_b0 (until_ : Int) (s0 : Int × Int × Int × Int × (List YLeg) × (List Int) × (List YOrder) × (List YBooking) × (List YTrip) × (List YScan) × (List Int)) : Option ((Int × Int × Int × Int × (List YLeg) × (List Int) × (List YOrder) × (List YBooking) × (List YTrip) × (List YScan) × (List Int)) ⊕ (Int × Int × Int × (List YLeg) × (List Int) × (List YOrder) × (List YBooking) × (List YTrip) × (List YScan) × (List Int))) :=
 cond (decide (0 ≤ s0.1))
 (cond (decide (s0.1 ≤ until_))
 ((rhoM [1, 2, 3, 4, 5, 6, 7, 8]).bind fun _ =>
 (m_p0_impl_happen (⟨(⟨s0.2.2.2.2.1, s0.2.2.2.2.2.1, s0.2.1⟩ : YNetwork), s0.2.2.2.2.2.2.1, s0.2.2.2.2.2.2.2.1, s0.2.2.2.2.2.2.2.2.1, s0.2.2.1, s0.2.2.2.2.2.2.2.2.2.1, s0.2.2.2.2.2.2.2.2.2.2, s0.2.2.2.1⟩ : YWorld) s0.1).bind fun y5 =>
 (m_impl_nextEvent y5).bind fun y6 =>
 some (.inl (y6, y5.network.change, y5.now, y5.made, y5.network.legs, y5.network.off, y5.orders, y5.bookings, y5.closed, y5.scans, y5.skip)))
 (some (.inr (s0.2.1, s0.2.2.1, s0.2.2.2.1, s0.2.2.2.2.1, s0.2.2.2.2.2.1, s0.2.2.2.2.2.2.1, s0.2.2.2.2.2.2.2.1, s0.2.2.2.2.2.2.2.2.1, s0.2.2.2.2.2.2.2.2.2.1, s0.2.2.2.2.2.2.2.2.2.2))))
 (some (.inr (s0.2.1, s0.2.2.1, s0.2.2.2.1, s0.2.2.2.2.1, s0.2.2.2.2.2.1, s0.2.2.2.2.2.2.1, s0.2.2.2.2.2.2.2.1, s0.2.2.2.2.2.2.2.2.1, s0.2.2.2.2.2.2.2.2.2.1, s0.2.2.2.2.2.2.2.2.2.2)))
instance (until_ : Int) : LoopE (m_impl_AdvanceTo_b0 until_) := ⟨fun s0 => [.un, vi until_, .un, .un, .be 0 0 0, .be 1 0 0, vi s0.1, .un, .un, .un, .un, .un, .un, .un, .un, .un, .un, .un, .un, .un, .un, .un, .un, .un, .un, .un, .un, .un, .un, .un, .un, .un, .un, .un, .un, .un], fun s0 => [some ⟨41, 10, [[.v (.slice none 0 0), .v (.slice none 0 0), vi 0, .v (.slice none 0 0), .v (.slice none 0 0), .v (.slice none 0 0), vi 0, .v (.slice none 0 0), .v (.slice none 0 0), vi 0]]⟩, some ⟨41, 10, [[.ms 2, .ms 3, vi s0.2.1, .ms 4, .ms 5, .ms 6, vi s0.2.2.1, .ms 7, .ms 8, vi s0.2.2.2.1]]⟩, some ⟨67, 6, s0.2.2.2.2.1.map cLeg⟩, some ⟨3, 1, s0.2.2.2.2.2.1.map cInt⟩, some ⟨62, 11, s0.2.2.2.2.2.2.1.map cOrder⟩, some ⟨135, 4, s0.2.2.2.2.2.2.2.1.map cBooking⟩, some ⟨55, 2, s0.2.2.2.2.2.2.2.2.1.map cTrip⟩, some ⟨130, 6, s0.2.2.2.2.2.2.2.2.2.1.map cScan⟩, some ⟨3, 1, s0.2.2.2.2.2.2.2.2.2.2.map cInt⟩]⟩
def m_impl_AdvanceTo (w : YWorld) (until_ : Int) : Option YWorld :=
 (m_o_impl_copyWorld w).bind fun y1 =>
 (m_impl_IsWorld w).bind fun y2 =>
 cond (!y2)
 (some y1)
 ((m_impl_within until_ w.now 100000).bind fun y3 =>
 cond (!y3)
 (some y1)
 ((m_impl_nextEvent y1).bind fun y4 =>
 (iterF (m_impl_AdvanceTo_b0 until_) NN (y4, y1.network.change, y1.now, y1.made, y1.network.legs, y1.network.off, y1.orders, y1.bookings, y1.closed, y1.scans, y1.skip)).bind (fun o0 =>
 some (⟨(⟨o0.2.2.2.1, o0.2.2.2.2.1, o0.1⟩ : YNetwork), o0.2.2.2.2.2.1, o0.2.2.2.2.2.2.1, o0.2.2.2.2.2.2.2.1, until_, o0.2.2.2.2.2.2.2.2.1, o0.2.2.2.2.2.2.2.2.2, o0.2.2.1⟩ : YWorld))))
theorem ok_impl_AdvanceTo (w : YWorld) (until_ : Int) {r : YWorld} (H : m_impl_AdvanceTo w until_ = some r) : CallM Tryz.prog 18 [.ag (cWorld w), vi until_] [] (.ag [.sl (r.network.legs.map cLeg), .sl (r.network.off.map cInt), vi r.network.change, .sl (r.orders.map cOrder), .sl (r.bookings.map cBooking), .sl (r.closed.map cTrip), vi r.now, .sl (r.scans.map cScan), .sl (r.skip.map cInt), vi r.made]) [] := by
  replace H := H0 H
  unfold m_impl_AdvanceTo at H
  refine callM_of Tryz.func18 rfl Tryz.ntmps18 Tryz.results18 fun Q hQ hQn => ?_
  exact wk2
instance (w : YWorld) (until_ : Int) : CT Tryz.prog (m_impl_AdvanceTo w until_) := ⟨18, [.ag (cWorld w), vi until_], [], fun r => .ag [.sl (r.network.legs.map cLeg), .sl (r.network.off.map cInt), vi r.network.change, .sl (r.orders.map cOrder), .sl (r.bookings.map cBooking), .sl (r.closed.map cTrip), vi r.now, .sl (r.scans.map cScan), .sl (r.skip.map cInt), vi r.made], fun r => [], ok_impl_AdvanceTo w until_⟩
end Go.Proofs.YtmcdjilbkmhfoaaGreat

/- The mirror of spec_l1Ints, and that the code does just that (printed by a program of my own). -/
namespace Go.Proofs.YtmcdjilbkmhfoaaGreat
set_option maxRecDepth 10000
open Go.RowKit
set_option linter.unusedVariables false
set_option maxHeartbeats 16000000
def m_spec_l1Ints (l : List Int) : Option (List Int) :=
 (chk (appOk ((([] : List Int) : List Int).length + (l : List Int).length) 8)).bind fun _ =>
 some ((([] : List Int) : List Int) ++ l)
theorem ok_spec_l1Ints (l : List Int) {r : (List Int)} (H : m_spec_l1Ints l = some r) : CallM Tryz.prog 162 [.sl (l.map cInt)] [] (.ms 0) [some ⟨3, 1, r.map cInt⟩] := by
  replace H := H0 H
  unfold m_spec_l1Ints at H
  refine callM_of Tryz.func162 rfl Tryz.ntmps162 Tryz.results162 fun Q hQ hQn => ?_
  exact wk
instance (l : List Int) : CT Tryz.prog (m_spec_l1Ints l) := ⟨162, [.sl (l.map cInt)], [], fun r => .ms 0, fun r => [some ⟨3, 1, r.map cInt⟩], ok_spec_l1Ints l⟩
end Go.Proofs.YtmcdjilbkmhfoaaGreat

/- The mirror of spec_l6Copy, and that the code does just that (printed by a program of my own). -/
namespace Go.Proofs.YtmcdjilbkmhfoaaGreat
set_option maxRecDepth 10000
open Go.RowKit
set_option linter.unusedVariables false
set_option maxHeartbeats 16000000
def m_spec_l6Copy (l : List YBooking) : Option (List YBooking) :=
 (chk (appOk ((([] : List YBooking) : List YBooking).length + (l : List YBooking).length) 32)).bind fun _ =>
 some ((([] : List YBooking) : List YBooking) ++ l)
theorem ok_spec_l6Copy (l : List YBooking) {r : (List YBooking)} (H : m_spec_l6Copy l = some r) : CallM Tryz.prog 163 [.sl (l.map cBooking)] [] (.ms 0) [some ⟨135, 4, r.map cBooking⟩] := by
  replace H := H0 H
  unfold m_spec_l6Copy at H
  refine callM_of Tryz.func163 rfl Tryz.ntmps163 Tryz.results163 fun Q hQ hQn => ?_
  exact wk
instance (l : List YBooking) : CT Tryz.prog (m_spec_l6Copy l) := ⟨163, [.sl (l.map cBooking)], [], fun r => .ms 0, fun r => [some ⟨135, 4, r.map cBooking⟩], ok_spec_l6Copy l⟩
end Go.Proofs.YtmcdjilbkmhfoaaGreat
