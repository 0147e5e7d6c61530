/- A part of the proof of the statement in the last file of this claim: texts on the language of the program and on its functions. No condition. -/
import Derived.Test.YtmcdjilbkmhfoaaGreatCFnKept10
import Derived.Test.YtmcdjilbkmhfoaaGreatCFnKept9
import Derived.Test.YtmcdjilbkmhfoaaGreatCFnKept5
import Derived.Test.YtmcdjilbkmhfoaaGreatCFnKept6
import Derived.Test.YtmcdjilbkmhfoaaGreatCFnKept7
import Derived.Test.YtmcdjilbkmhfoaaGreatCFnKept8
namespace Go.Proofs.YtmcdjilbkmhfoaaGreat
set_option maxRecDepth 10000
open Go.RowKit
set_option linter.unusedVariables false
set_option linter.unusedSimpArgs false
set_option linter.unusedSectionVars false
section
variable {n : YNetwork} (hf : NetFit n)
include hf
omit hf in
theorem idx_inj {l : List ByteArray} {p q : ByteArray} (hp : 0 ≤ idxV l p) : decide (idxV l p = idxV l q) = decide (p = q) := by
  by_cases h : p = q
  · subst h; simp
  · rw [decide_eq_false h]
    refine decide_eq_false fun he => h ?_
    have h1 := idx_get hp
    have h2 := idx_get (l := l) (p := q) (by omega)
    rw [← he, h1] at h2
    exact Option.some.inj h2
def GoodT (n : YNetwork) (l : List YBooking) (closed : List YTrip) (weight f : Int) (r : List Int) (x v : Int) (t : YTrip) : Prop :=
  ∃ (i : Nat) (y : YLeg) (d u z : Int), t = ⟨(i : Int), d⟩ ∧ n.legs[i]? = some y ∧ idxV (placesV n) y.to_ = x ∧ getI r (idxV (placesV n) y.from_) = some u ∧ ¬ u < 0 ∧ m_spec_l4Ready n u (decide (idxV (placesV n) y.from_ = f)) = some z ∧ m_spec_l6Next n l closed (i : Int) z weight = some d ∧ ¬ d < 0 ∧ m_spec_l3Ends n ⟨(i : Int), d⟩ = some v
theorem last_step {l : List YBooking} (hl : l.length ≤ 1048576) {closed : List YTrip} (hc : closed.length ≤ 1048576) (weight : Int) {from_ : ByteArray} {before : List Int} (hb : before.length = (placesV n).length) {q0 : ByteArray} {x : Int} (hxq : x = idxV (placesV n) q0) (hx : 0 ≤ x ∧ x < (placesV n).length) (e : Int) {i : Nat} (hi : i < n.legs.length) :
    (m_spec_l6Step_b0 n l closed weight (placesV n) before (idxV (placesV n) from_) x e (i : Int) = some (.inl ((i + 1 : Nat) : Int)) ∧ m_pf0_impl_lastLeg_b0 n n closed l weight (placesV n) before from_ x e (i : Int) = some (.inl ((i + 1 : Nat) : Int)) ∧ ¬ CandI n l closed weight (idxV (placesV n) from_) before i x e) ∨
    ∃ t, m_spec_l6Step_b0 n l closed weight (placesV n) before (idxV (placesV n) from_) x e (i : Int) = some (.inr (.inr t)) ∧ m_pf0_impl_lastLeg_b0 n n closed l weight (placesV n) before from_ x e (i : Int) = some (.inr (.inr (t, true))) ∧ GoodT n l closed weight (idxV (placesV n) from_) before x e t := by
  have hll := hf.legs
  have hw : w64 ((i : Int) + 1) = ((i + 1 : Nat) : Int) := by rw [w64_in (by omega)]; omega
  obtain ⟨y, hy, hm⟩ := len_in (xs := n.legs) (i := (i : Int)) ⟨by omega, by omega⟩
  have hyi : n.legs[i]? = some y := by rw [getI_nat] at hy; exact hy
  obtain ⟨m1, m2⟩ := legs_in hm
  have a0 := idx_mem m1
  have a1 := (idx_lt (placesV n) y.from_).2
  obtain ⟨v6, g6, _⟩ := len_in (xs := before) (i := idxV (placesV n) y.from_) ⟨a0, by omega⟩
  obtain ⟨p, gp, _⟩ := len_in (xs := placesV n) (i := x) hx
  obtain ⟨z, ez, _⟩ := ready_tot (n := n) v6 (decide (idxV (placesV n) y.from_ = idxV (placesV n) from_))
  obtain ⟨d, ed, ef⟩ := free_eq hf hl hc hy z weight
  obtain ⟨v, hv⟩ := ends_some (n := n) (t := ⟨(i : Int), d⟩) hy
  have hpa : ∀ p, m_impl_placeAt (placesV n) p = some (idxV (placesV n) p) := fun p => by rw [placeAt_eq]; exact idx_v hf p
  have ez' : m_impl_readyAt n v6 (decide (y.from_ = from_)) = some z := by rw [ready_eq, ← idx_inj (l := placesV n) a0]; exact ez
  have hno : ∀ {P : Prop}, (∀ y' d' u z', n.legs[i]? = some y' → idxV (placesV n) y'.to_ = x → getI before (idxV (placesV n) y'.from_) = some u → ¬ u < 0 → m_spec_l4Ready n u (decide (idxV (placesV n) y'.from_ = idxV (placesV n) from_)) = some z' → m_spec_l6Next n l closed (i : Int) z' weight = some d' → ¬ d' < 0 → m_spec_l3Ends n ⟨(i : Int), d'⟩ = some e → y' = y → u = v6 → z' = z → d' = d → False) → ¬ CandI n l closed weight (idxV (placesV n) from_) before i x e := by
    rintro _ H ⟨y', d', u, z', c1, c2, c3, c4, c5, c6, c7, c8⟩
    have q1 : y' = y := by rw [hyi] at c1; exact (Option.some.inj c1).symm
    have q2 : u = v6 := by rw [q1, g6] at c3; exact (Option.some.inj c3).symm
    have q3 : z' = z := by rw [q1, q2, ez] at c5; exact (Option.some.inj c5).symm
    have q4 : d' = d := by rw [q3, ed] at c6; exact (Option.some.inj c6).symm
    exact H y' d' u z' c1 c2 c3 c4 c5 c6 c7 c8 q1 q2 q3 q4
  have S : m_spec_l6Step_b0 n l closed weight (placesV n) before (idxV (placesV n) from_) x e (i : Int) = cond (!decide (y.to_ = p)) (some (.inl ((i + 1 : Nat) : Int))) (cond (decide (v6 < 0)) (some (.inl ((i + 1 : Nat) : Int))) (cond (decide (0 ≤ d)) (cond (decide (v = e)) (some (.inr (.inr ⟨(i : Int), d⟩))) (some (.inl ((i + 1 : Nat) : Int)))) (some (.inl ((i + 1 : Nat) : Int))))) := by
    unfold m_spec_l6Step_b0
    simp only [decide_eq_true (show (i : Int) < n.legs.length by omega), cond_true, hy, Option.bind_some, idx_v hf, gp, g6, ez, ed, hv, hw]
  have T : m_pf0_impl_lastLeg_b0 n n closed l weight (placesV n) before from_ x e (i : Int) = cond (!decide (y.to_ = p)) (some (.inl ((i + 1 : Nat) : Int))) (cond (decide (v6 < 0)) (some (.inl ((i + 1 : Nat) : Int))) (cond (decide (0 ≤ d)) (cond (decide (v = e)) (some (.inr (.inr (⟨(i : Int), d⟩, true)))) (some (.inl ((i + 1 : Nat) : Int)))) (some (.inl ((i + 1 : Nat) : Int))))) := by
    unfold m_pf0_impl_lastLeg_b0
    simp only [decide_eq_true (show (i : Int) < n.legs.length by omega), cond_true, hy, Option.bind_some, hpa, gp, g6, ez', ef, hw, ends_eq]
    by_cases hd : d < 0
    · simp only [if_pos hd, decide_eq_false (show ¬ 0 ≤ d by omega), cond_false]
    · simp only [if_neg hd, decide_eq_true (show 0 ≤ d by omega), cond_true, hv, Option.bind_some]
  rw [S, T]
  by_cases h1 : y.to_ = p
  · by_cases h2 : v6 < 0
    · refine .inl ⟨by simp [h1, h2], by simp [h1, h2], hno (P := True) fun y' d' u z' c1 c2 c3 c4 c5 c6 c7 c8 q1 q2 q3 q4 => c4 (by rw [q2]; exact h2)⟩
    · by_cases h3 : 0 ≤ d
      · by_cases h4 : v = e
        · refine .inr ⟨⟨(i : Int), d⟩, by simp [h1, h2, h3, h4], by simp [h1, h2, h3, h4], i, y, d, v6, z, rfl, hyi, ?_, g6, h2, ez, ed, by omega, by rw [hv, h4]⟩
          have g := idx_get (l := placesV n) (p := q0) (by omega)
          rw [← hxq, gp] at g
          rw [h1, Option.some.inj g, hxq]
        · refine .inl ⟨by simp [h1, h2, h3, h4], by simp [h1, h2, h3, h4], hno (P := True) fun y' d' u z' c1 c2 c3 c4 c5 c6 c7 c8 q1 q2 q3 q4 => h4 (by rw [q4, hv] at c8; exact Option.some.inj c8)⟩
      · refine .inl ⟨by simp [h1, h2, h3], by simp [h1, h2, h3], hno (P := True) fun y' d' u z' c1 c2 c3 c4 c5 c6 c7 c8 q1 q2 q3 q4 => c7 (by rw [q4]; omega)⟩
  · refine .inl ⟨by simp [h1], by simp [h1], hno (P := True) fun y' d' u z' c1 c2 c3 c4 c5 c6 c7 c8 q1 q2 q3 q4 => h1 ?_⟩
    rw [q1] at c2
    have g := idx_get (idx_mem m2)
    rw [c2, gp] at g
    exact (Option.some.inj g).symm
theorem last_both {l : List YBooking} (hl : l.length ≤ 1048576) {closed : List YTrip} (hc : closed.length ≤ 1048576) (weight : Int) {from_ : ByteArray} {before : List Int} (hb : before.length = (placesV n).length) {q0 : ByteArray} {x : Int} (hxq : x = idxV (placesV n) q0) (hx : 0 ≤ x ∧ x < (placesV n).length) (e : Int) (hcd : Cand n l closed weight (idxV (placesV n) from_) before x e) :
    ∃ t, m_spec_l6Step n l closed weight (placesV n) before (idxV (placesV n) from_) x e = some t ∧ m_pf0_impl_lastLeg n n closed l weight (placesV n) before from_ x e = some (t, true) ∧ GoodT n l closed weight (idxV (placesV n) from_) before x e t := by
  have hll := hf.legs
  obtain ⟨i0, hci⟩ := hcd
  have hi0 : i0 < n.legs.length := by obtain ⟨y, _, _, _, c1, _⟩ := hci; exact (List.getElem?_eq_some_iff.1 c1).1
  have key : ∀ (d i : Nat), i + d = i0 → ∀ N, d < N → ∃ t, iterF (m_spec_l6Step_b0 n l closed weight (placesV n) before (idxV (placesV n) from_) x e) N (i : Int) = some (.inr t) ∧ iterF (m_pf0_impl_lastLeg_b0 n n closed l weight (placesV n) before from_ x e) N (i : Int) = some (.inr (t, true)) ∧ GoodT n l closed weight (idxV (placesV n) from_) before x e t := by
    intro d
    induction d with
    | zero =>
      intro i hi N hN
      obtain ⟨N, rfl⟩ : ∃ M, N = M + 1 := ⟨N - 1, by omega⟩
      rcases last_step hf hl hc weight hb hxq hx e (from_ := from_) (i := i) (by omega) with ⟨_, _, h⟩ | ⟨t, h1, h2, h3⟩
      · exact absurd ((show i = i0 by omega) ▸ hci) h
      · exact ⟨t, by unfold iterF; rw [h1]; rfl, by unfold iterF; rw [h2]; rfl, h3⟩
    | succ d ih =>
      intro i hi N hN
      obtain ⟨N, rfl⟩ : ∃ M, N = M + 1 := ⟨N - 1, by omega⟩
      rcases last_step hf hl hc weight hb hxq hx e (from_ := from_) (i := i) (by omega) with ⟨h1, h2, _⟩ | ⟨t, h1, h2, h3⟩
      · obtain ⟨t, q1, q2, q3⟩ := ih (i + 1) (by omega) N (by omega)
        exact ⟨t, by unfold iterF; rw [h1]; exact q1, by unfold iterF; rw [h2]; exact q2, q3⟩
      · exact ⟨t, by unfold iterF; rw [h1]; rfl, by unfold iterF; rw [h2]; rfl, h3⟩
  obtain ⟨t, h1, h2, h3⟩ := key i0 0 (by omega) NN (by unfold NN; omega)
  have e0 : ((0 : Nat) : Int) = 0 := rfl
  rw [e0] at h1 h2
  exact ⟨t, by unfold m_spec_l6Step; rw [h1]; rfl, by unfold m_pf0_impl_lastLeg; rw [h2]; rfl, h3⟩
omit hf in
theorem rev_loop {o : List YTrip} (h : o.length ≤ 1048576) : iterF (m_pf0_impl_wayTo_b3 o) NN ((w64 ((o.length : Int) - 1)), ([] : List YTrip)) = some o.reverse := by
  have key : ∀ (m : Nat), m ≤ o.length → ∀ N, m < N → iterF (m_pf0_impl_wayTo_b3 o) N ((m : Int) - 1, (o.drop m).reverse) = some o.reverse := by
    intro m
    induction m with
    | zero =>
      intro hm N hN
      obtain ⟨N, rfl⟩ : ∃ M, N = M + 1 := ⟨N - 1, by omega⟩
      unfold iterF m_pf0_impl_wayTo_b3
      simp
    | succ m ih =>
      intro hm N hN
      obtain ⟨N, rfl⟩ : ∃ M, N = M + 1 := ⟨N - 1, by omega⟩
      have hg : getI o (((m + 1 : Nat) : Int) - 1) = some o[m] := by
        rw [show ((m + 1 : Nat) : Int) - 1 = (m : Int) by omega, getI_nat]; exact List.getElem?_eq_getElem (by omega)
      have hw : w64 (((m + 1 : Nat) : Int) - 1 - 1) = (m : Int) - 1 := by rw [w64_in (by omega)]; omega
      have ha : chk (appOk ((o.drop (m + 1)).reverse.length + ([o[m]] : List YTrip).length) 16) = some () := app_ok1 (by simp only [List.length_reverse, List.length_drop, List.length_cons, List.length_nil]; omega) (by omega)
      have hd : o.drop m = o[m] :: o.drop (m + 1) := List.drop_eq_getElem_cons (by omega)
      have q := ih (by omega) N (by omega)
      rw [hd, List.reverse_cons] at q
      unfold iterF
      unfold m_pf0_impl_wayTo_b3
      simp only [decide_eq_true (show (0 : Int) ≤ ((m + 1 : Nat) : Int) - 1 by omega), cond_true, hg, Option.bind_some, ha, hw]
      exact q
  have := key o.length (Nat.le_refl _) NN (by unfold NN; omega)
  rw [List.drop_length] at this
  rw [w64_in (by omega)]
  exact this
def allV (n : YNetwork) (l : List YBooking) (closed : List YTrip) (weight f at_ : Int) : List (List Int) := (List.range ((placesV n).length + 1)).map (bestV n l closed weight f at_)
omit hf in
theorem all_get {l : List YBooking} {closed : List YTrip} {weight f at_ : Int} {k : Nat} (hk : k ≤ (placesV n).length) : getI (allV n l closed weight f at_) (k : Int) = some (bestV n l closed weight f at_ k) := by
  rw [getI_nat]; unfold allV
  rw [List.getElem?_map, List.getElem?_range (by omega)]; rfl
theorem back_both (hn : m_spec_IsNetwork n = some true) {l : List YBooking} (hl : l.length ≤ 1048576) {closed : List YTrip} (hc : closed.length ≤ 1048576) (weight : Int) {from_ : ByteArray} (at_ : Int)
    (hC : booksV n l = true ∧ 0 ≤ idxV (placesV n) from_ ∧ at_ ≤ 100000 ∧ 1 ≤ weight) :
    ∀ (k : Nat) (q0 : ByteArray) (x e : Int) (back : List YTrip), x = idxV (placesV n) q0 → 0 ≤ x → getI (bestV n l closed weight (idxV (placesV n) from_) at_ k) x = some e → 0 ≤ e → (k = 0 ∨ ¬ getI (bestV n l closed weight (idxV (placesV n) from_) at_ (k - 1)) x = some e) → back.length + k ≤ (placesV n).length → ∀ N, k < N →
      ∃ back', iterF (m_spec_FindRoom_b1 n l closed from_ at_ weight (placesV n) (idxV (placesV n) from_)) N (x, e, (k : Int), back.reverse) = some back'.reverse ∧ iterF (m_pf0_impl_wayTo_b2 n n closed l weight from_ (placesV n) (allV n l closed weight (idxV (placesV n) from_) at_)) N (x, e, (k : Int), back) = some (.inl back') ∧ back'.length ≤ (placesV n).length := by
  have hlg := net_legs hn
  have hp : (placesV n).length ≤ 40 := by have := placesV_len n; omega
  intro k
  induction k with
  | zero =>
    intro q0 x e back hxq hx hg he hnot hlen N hN
    obtain ⟨N, rfl⟩ : ∃ M, N = M + 1 := ⟨N - 1, by omega⟩
    refine ⟨back, ?_, ?_, by omega⟩
    · unfold iterF m_spec_FindRoom_b1; simp
    · unfold iterF m_pf0_impl_wayTo_b2; simp
  | succ k ih =>
    intro q0 x e back hxq hx hg he hnot hlen N hN
    obtain ⟨N, rfl⟩ : ∃ M, N = M + 1 := ⟨N - 1, by omega⟩
    have hbl := best_len hf hl hc weight (idxV (placesV n) from_) at_
    have hnx : ¬ getI (bestV n l closed weight (idxV (placesV n) from_) at_ k) x = some e := by
      rcases hnot with h | h
      · omega
      · exact h
    have hcd : Cand n l closed weight (idxV (placesV n) from_) (bestV n l closed weight (idxV (placesV n) from_) at_ k) x e := by
      rcases (best_next hf hl hc weight (idxV (placesV n) from_) at_ k).2 x e hg with h | h
      · exact absurd h hnx
      · exact h
    have hxl : x < (placesV n).length := by rw [hxq]; exact (idx_lt (placesV n) q0).2
    obtain ⟨t, hs, hi, i, y, d, u, z, rfl, c1, c2, c3, c4, c5, c6, c7, c8⟩ := last_both hf hl hc weight (hbl k) hxq ⟨hx, hxl⟩ e hcd
    have hfb := free_best hf hl hc weight at_ hC (k := k) (by omega)
    have hw : w64 (((k + 1 : Nat) : Int) - 1) = (k : Int) := by rw [w64_in (by omega)]; omega
    have hy : getI n.legs (i : Int) = some y := by rw [getI_nat]; exact c1
    have ha1 : chk (appOk (([⟨(i : Int), d⟩] : List YTrip).length + back.reverse.length) 16) = some () := app_ok1 (by simp only [List.length_reverse, List.length_cons, List.length_nil]; omega) (by omega)
    have ha2 : chk (appOk (back.length + ([⟨(i : Int), d⟩] : List YTrip).length) 16) = some () := app_ok1 (by simp only [List.length_cons, List.length_nil]; omega) (by omega)
    have hag := all_get (n := n) (l := l) (closed := closed) (weight := weight) (f := idxV (placesV n) from_) (at_ := at_) (k := k) (by omega)
    have hpa : m_impl_placeAt (placesV n) y.from_ = some (idxV (placesV n) y.from_) := by rw [placeAt_eq]; exact idx_v hf _
    have a0 := idx_mem (legs_in (List.mem_of_getElem? c1)).1
    obtain ⟨back', q1, q2, q3⟩ := ih y.from_ (idxV (placesV n) y.from_) u (back ++ [⟨(i : Int), d⟩]) rfl a0 c3 (by omega) (by
      by_cases hk0 : k = 0
      · exact .inl hk0
      · refine .inr fun hu => hnx ?_
        obtain ⟨k', rfl⟩ : ∃ k', k = k' + 1 := ⟨k - 1, by omega⟩
        have hb1 := (best_le hf hn hl hc weight (idxV (placesV n) from_) at_ k').2 x e ⟨i, y, d, u, z, c1, c2, hu, c4, c5, c6, c7, c8⟩
        obtain ⟨w, w1, w2, w3⟩ := hb1
        obtain ⟨w', v1, v2, v3⟩ := (best_le hf hn hl hc weight (idxV (placesV n) from_) at_ (k' + 1)).1 x w w1 w2
        rw [hg] at v1
        obtain rfl := Option.some.inj v1
        rw [w1, show w = e by omega]) (by simp only [List.length_append, List.length_cons, List.length_nil]; omega) N (by omega)
    refine ⟨back', ?_, ?_, q3⟩
    · have hb : m_spec_FindRoom_b1 n l closed from_ at_ weight (placesV n) (idxV (placesV n) from_) (x, e, ((k + 1 : Nat) : Int), back.reverse) = some (.inl (idxV (placesV n) y.from_, u, (k : Int), [⟨(i : Int), d⟩] ++ back.reverse)) := by
        unfold m_spec_FindRoom_b1
        simp only [decide_eq_true (show (0 : Int) < ((k + 1 : Nat) : Int) by omega), cond_true, hw, hfb, Option.bind_some, hs, ha1, hy, idx_v hf, c3]
      rw [List.reverse_append, List.reverse_singleton] at q1
      unfold iterF
      rw [hb]
      exact q1
    · have hb : m_pf0_impl_wayTo_b2 n n closed l weight from_ (placesV n) (allV n l closed weight (idxV (placesV n) from_) at_) (x, e, ((k + 1 : Nat) : Int), back) = some (.inl (idxV (placesV n) y.from_, u, (k : Int), back ++ [⟨(i : Int), d⟩])) := by
        unfold m_pf0_impl_wayTo_b2
        simp only [decide_eq_true (show (0 : Int) < ((k + 1 : Nat) : Int) by omega), cond_true, hw, hag, Option.bind_some, hi, Bool.not_true, cond_false, ha2, hy, hpa, c3]
      unfold iterF
      rw [hb]
      exact q2
theorem first_both {l : List YBooking} (hl : l.length ≤ 1048576) {closed : List YTrip} (hc : closed.length ≤ 1048576) (weight : Int) {from_ : ByteArray} (at_ : Int) (hp : (placesV n).length ≤ 40)
    (hC : booksV n l = true ∧ 0 ≤ idxV (placesV n) from_ ∧ at_ ≤ 100000 ∧ 1 ≤ weight) {x e : Int} (hx : 0 ≤ x ∧ x < (placesV n).length) (hg : getI (bestV n l closed weight (idxV (placesV n) from_) at_ (placesV n).length) x = some e) :
    ∃ k : Nat, k ≤ (placesV n).length ∧ getI (bestV n l closed weight (idxV (placesV n) from_) at_ k) x = some e ∧ (k = 0 ∨ ¬ getI (bestV n l closed weight (idxV (placesV n) from_) at_ (k - 1)) x = some e) ∧
      iterF (m_spec_FindRoom_b0 n l closed from_ at_ weight (placesV n) (idxV (placesV n) from_) x e) NN 0 = some (k : Int) ∧ iterF (m_pf0_impl_wayTo_b1 n n closed l weight from_ (placesV n) x (allV n l closed weight (idxV (placesV n) from_) at_) e) NN 0 = some (k : Int) := by
  have hbl := best_len hf hl hc weight (idxV (placesV n) from_) at_
  have key : ∀ (dd i : Nat), i + dd = (placesV n).length → (i = 0 ∨ ¬ getI (bestV n l closed weight (idxV (placesV n) from_) at_ (i - 1)) x = some e) → ∀ N, dd < N →
      ∃ k : Nat, k ≤ (placesV n).length ∧ getI (bestV n l closed weight (idxV (placesV n) from_) at_ k) x = some e ∧ (k = 0 ∨ ¬ getI (bestV n l closed weight (idxV (placesV n) from_) at_ (k - 1)) x = some e) ∧
      iterF (m_spec_FindRoom_b0 n l closed from_ at_ weight (placesV n) (idxV (placesV n) from_) x e) N (i : Int) = some (k : Int) ∧ iterF (m_pf0_impl_wayTo_b1 n n closed l weight from_ (placesV n) x (allV n l closed weight (idxV (placesV n) from_) at_) e) N (i : Int) = some (k : Int) := by
    intro dd
    induction dd with
    | zero =>
      intro i hi h0 N hN
      obtain ⟨N, rfl⟩ : ∃ M, N = M + 1 := ⟨N - 1, by omega⟩
      obtain rfl : i = (placesV n).length := by omega
      refine ⟨(placesV n).length, Nat.le_refl _, hg, h0, ?_, ?_⟩
      · unfold iterF m_spec_FindRoom_b0
        simp only [free_best hf hl hc weight at_ hC (Nat.le_refl _), Option.bind_some, hg, decide_true, Bool.not_true, cond_false]
      · unfold iterF m_pf0_impl_wayTo_b1
        simp only [all_get (Nat.le_refl _), Option.bind_some, hg, decide_true, Bool.not_true, cond_false]
    | succ dd ih =>
      intro i hi h0 N hN
      obtain ⟨N, rfl⟩ : ∃ M, N = M + 1 := ⟨N - 1, by omega⟩
      have hw : w64 ((i : Int) + 1) = ((i + 1 : Nat) : Int) := by rw [w64_in (by omega)]; omega
      obtain ⟨v, hv, _⟩ := len_in (xs := bestV n l closed weight (idxV (placesV n) from_) at_ i) (i := x) ⟨hx.1, by rw [hbl]; exact hx.2⟩
      by_cases hve : v = e
      · subst hve
        refine ⟨i, by omega, hv, h0, ?_, ?_⟩
        · unfold iterF m_spec_FindRoom_b0
          simp only [free_best hf hl hc weight at_ hC (show i ≤ (placesV n).length by omega), Option.bind_some, hv, decide_true, Bool.not_true, cond_false]
        · unfold iterF m_pf0_impl_wayTo_b1
          simp only [all_get (show i ≤ (placesV n).length by omega), Option.bind_some, hv, decide_true, Bool.not_true, cond_false]
      · obtain ⟨k, q1, q2, q3, q4, q5⟩ := ih (i + 1) (by omega) (.inr (by rw [Nat.add_sub_cancel, hv]; simpa using hve)) N (by omega)
        refine ⟨k, q1, q2, q3, ?_, ?_⟩
        · have hb : m_spec_FindRoom_b0 n l closed from_ at_ weight (placesV n) (idxV (placesV n) from_) x e (i : Int) = some (.inl ((i + 1 : Nat) : Int)) := by
            unfold m_spec_FindRoom_b0
            simp only [free_best hf hl hc weight at_ hC (show i ≤ (placesV n).length by omega), Option.bind_some, hv, decide_eq_false hve, Bool.not_false, cond_true, hw]
          unfold iterF
          rw [hb]
          exact q4
        · have hb : m_pf0_impl_wayTo_b1 n n closed l weight from_ (placesV n) x (allV n l closed weight (idxV (placesV n) from_) at_) e (i : Int) = some (.inl ((i + 1 : Nat) : Int)) := by
            unfold m_pf0_impl_wayTo_b1
            simp only [all_get (show i ≤ (placesV n).length by omega), Option.bind_some, hv, decide_eq_false hve, Bool.not_false, cond_true, hw]
          unfold iterF
          rw [hb]
          exact q5
  obtain ⟨k, q1, q2, q3, q4, q5⟩ := key (placesV n).length 0 (by omega) (.inl rfl) NN (by unfold NN; omega)
  exact ⟨k, q1, q2, q3, q4, q5⟩
theorem arrivals_no {l : List YBooking} {closed : List YTrip} (weight : Int) {from_ : ByteArray} {at_ : Int} (h : idxV (placesV n) from_ < 0 ∨ 100000 < at_) (legs : Int) : m_pf0_impl_arrivals n n closed l weight from_ at_ legs = some [] := by
  unfold m_pf0_impl_arrivals
  rw [placeAt_eq, (places_eq hf).1, (places_eq hf).2]
  simp only [Option.bind_some, idx_v hf]
  by_cases h1 : idxV (placesV n) from_ < 0
  · simp only [decide_eq_true h1, cond_true]
  · simp only [decide_eq_false h1, cond_false, decide_eq_true (show 100000 < at_ by omega), cond_true]
theorem findRoom_both {l : List YBooking} (hl : l.length ≤ 1048576) {closed : List YTrip} (hc : closed.length ≤ 1048576) (from_ to_ : ByteArray) (at_ weight : Int) :
    ∃ r, m_impl_FindRoom n l closed from_ to_ at_ weight = some r ∧ m_spec_FindRoom n l closed from_ to_ at_ weight = some r := by
  have hplen := plen hf
  have hpa : ∀ p, m_impl_placeAt (placesV n) p = some (idxV (placesV n) p) := fun p => by rw [placeAt_eq]; exact idx_v hf p
  unfold m_impl_FindRoom m_spec_FindRoom m_impl_freeOf m_pf0_impl_wayTo
  rw [implBooks_v hf hl, (places_eq hf).1, (places_eq hf).2]
  simp only [Option.bind_some, idx_v hf, hpa]
  by_cases hB : booksV n l = true
  case neg =>
    have hB : booksV n l = false := by simpa using hB
    have e : m_spec_BestFree n l closed from_ at_ weight ((placesV n).length : Int) = some [] := by
      unfold m_spec_BestFree
      rw [(places_eq hf).2]
      simp only [Option.bind_some, idx_v hf, specBooks_v hf hl, hB, Bool.not_false, cond_true]
    refine ⟨([], false), by simp only [hB, Bool.not_false, cond_true], ?_⟩
    simp only [e, Option.bind_some]
    by_cases h : idxV (placesV n) to_ < 0
    · simp only [decide_eq_true h, cond_true]
    · simp only [decide_eq_false h, cond_false, List.length_nil]; rfl
  have hn := (books_net hB).1
  have hlg := net_legs hn
  have hp : (placesV n).length ≤ 40 := by have := placesV_len n; omega
  simp only [hB, Bool.not_true, cond_false]
  by_cases hw1 : weight < 1
  · have e : m_spec_BestFree n l closed from_ at_ weight ((placesV n).length : Int) = some [] := by
      unfold m_spec_BestFree
      rw [(places_eq hf).2]
      simp only [Option.bind_some, idx_v hf, specBooks_v hf hl, hB, Bool.not_true, cond_false, decide_eq_true hw1, cond_true]
      by_cases h1 : idxV (placesV n) from_ < 0
      · simp only [decide_eq_true h1, cond_true]
      · by_cases h2 : 100000 < at_
        · simp only [decide_eq_false h1, decide_eq_true h2, cond_true, cond_false]
        · simp only [decide_eq_false h1, decide_eq_false h2, cond_false]
    refine ⟨([], false), by simp only [decide_eq_true hw1, cond_true], ?_⟩
    simp only [e, Option.bind_some]
    by_cases h : idxV (placesV n) to_ < 0
    · simp only [decide_eq_true h, cond_true]
    · simp only [decide_eq_false h, cond_false, List.length_nil]; rfl
  simp only [decide_eq_false hw1, cond_false]
  by_cases hA : idxV (placesV n) from_ < 0 ∨ 100000 < at_
  · have e : m_spec_BestFree n l closed from_ at_ weight ((placesV n).length : Int) = some [] := by
      unfold m_spec_BestFree
      rw [(places_eq hf).2]
      simp only [Option.bind_some, idx_v hf, specBooks_v hf hl, hB, Bool.not_true, cond_false]
      by_cases h1 : idxV (placesV n) from_ < 0
      · simp only [decide_eq_true h1, cond_true]
      · simp only [decide_eq_false h1, cond_false, decide_eq_true (show 100000 < at_ by omega), cond_true]
    have e0 : iterF (m_pf0_impl_wayTo_b0 n n closed l weight from_ at_ (placesV n) (idxV (placesV n) to_)) NN (0, ([] : List (List Int))) = some (.inr ([], false)) := by
      obtain ⟨N, hN⟩ : ∃ N, NN = N + 1 := ⟨NN - 1, by unfold NN; omega⟩
      rw [hN]
      unfold iterF m_pf0_impl_wayTo_b0
      simp only [decide_eq_true (show (0 : Int) ≤ ((placesV n).length : Int) by omega), cond_true, arrivals_no hf weight hA, Option.bind_some, List.length_nil]
      rfl
    refine ⟨([], false), by rw [e0]; rfl, ?_⟩
    simp only [e, Option.bind_some]
    by_cases h : idxV (placesV n) to_ < 0
    · simp only [decide_eq_true h, cond_true]
    · simp only [decide_eq_false h, cond_false, List.length_nil]; rfl
  have hC : booksV n l = true ∧ 0 ≤ idxV (placesV n) from_ ∧ at_ ≤ 100000 ∧ 1 ≤ weight := ⟨hB, by omega, by omega, by omega⟩
  have hbl := best_len hf hl hc weight (idxV (placesV n) from_) at_
  have hfl := (idx_lt (placesV n) from_).2
  have hav := fun (k : Nat) (hk : k ≤ (placesV n).length) => arrivals_v hf hl hc weight hC.2.1 hC.2.2.1 (by omega) k (by omega)
  by_cases ht : idxV (placesV n) to_ < 0
  · have e0 : iterF (m_pf0_impl_wayTo_b0 n n closed l weight from_ at_ (placesV n) (idxV (placesV n) to_)) NN (0, ([] : List (List Int))) = some (.inr ([], false)) := by
      obtain ⟨N, hN⟩ : ∃ N, NN = N + 1 := ⟨NN - 1, by unfold NN; omega⟩
      rw [hN]
      have h0 := hav 0 (by omega)
      rw [show ((0 : Nat) : Int) = 0 from rfl] at h0
      unfold iterF m_pf0_impl_wayTo_b0
      simp only [decide_eq_true (show (0 : Int) ≤ ((placesV n).length : Int) by omega), cond_true, h0, Option.bind_some, decide_eq_true ht]
      cases decide (((bestV n l closed weight (idxV (placesV n) from_) at_ 0).length : Int) = 0) <;> rfl
    have hfb := free_best hf hl hc weight at_ hC (k := (placesV n).length) (Nat.le_refl _)
    refine ⟨([], false), by rw [e0]; rfl, ?_⟩
    simp only [hfb, Option.bind_some, decide_eq_true ht, cond_true]
  have e0 : iterF (m_pf0_impl_wayTo_b0 n n closed l weight from_ at_ (placesV n) (idxV (placesV n) to_)) NN (0, ([] : List (List Int))) = some (.inl (allV n l closed weight (idxV (placesV n) from_) at_)) := by
    refine iter_st0 (body := m_pf0_impl_wayTo_b0 n n closed l weight from_ at_ (placesV n) (idxV (placesV n) to_)) (fun i : Nat => ((i : Int), (List.range i).map (bestV n l closed weight (idxV (placesV n) from_) at_))) (n := (placesV n).length + 1) (o := .inl (allV n l closed weight (idxV (placesV n) from_) at_)) (fun i hi => ?_) ?_ NN (by unfold NN; omega)
    · have hw : w64 ((i : Int) + 1) = ((i + 1 : Nat) : Int) := by rw [w64_in (by omega)]; omega
      have ha : chk (appOk (((List.range i).map (bestV n l closed weight (idxV (placesV n) from_) at_)).length + ([bestV n l closed weight (idxV (placesV n) from_) at_ i] : List (List Int)).length) 24) = some () := app_ok1 (by simp only [List.length_map, List.length_range, List.length_cons, List.length_nil]; omega) (by omega)
      unfold m_pf0_impl_wayTo_b0
      simp only [decide_eq_true (show (i : Int) ≤ ((placesV n).length : Int) by omega), cond_true, hav i (by omega), Option.bind_some, decide_eq_false (show ¬ (((bestV n l closed weight (idxV (placesV n) from_) at_ i).length : Int) = 0) by rw [hbl]; omega), cond_false, decide_eq_false ht, frz, ha, hw, List.range_succ, List.map_append, List.map_cons, List.map_nil]
    · unfold m_pf0_impl_wayTo_b0
      simp only [decide_eq_false (show ¬ (((placesV n).length + 1 : Nat) : Int) ≤ ((placesV n).length : Int) by omega), cond_false]
      rfl
  have htl := (idx_lt (placesV n) to_).2
  obtain ⟨due, hdue, _⟩ := len_in (xs := bestV n l closed weight (idxV (placesV n) from_) at_ (placesV n).length) (i := idxV (placesV n) to_) ⟨by omega, by rw [hbl]; exact htl⟩
  rw [e0]
  simp only [Option.bind_some, selim, all_get (Nat.le_refl _), hdue, free_best hf hl hc weight at_ hC (Nat.le_refl _), decide_eq_false ht, cond_false, decide_eq_false (show ¬ (((bestV n l closed weight (idxV (placesV n) from_) at_ (placesV n).length).length : Int) = 0) by rw [hbl]; omega)]
  by_cases hd : due < 0
  · exact ⟨([], false), by simp only [decide_eq_true hd, cond_true]; rfl, by simp only [decide_eq_true hd, cond_true]⟩
  simp only [decide_eq_false hd, cond_false]
  obtain ⟨k, q1, q2, q3, q4, q5⟩ := first_both hf hl hc weight at_ hp hC ⟨by omega, htl⟩ hdue
  obtain ⟨back, b1, b2, b3⟩ := back_both hf hn hl hc weight at_ hC k to_ (idxV (placesV n) to_) due [] rfl (by omega) q2 (by omega) q3 (by simp only [List.length_nil]; omega) NN (by unfold NN; omega)
  rw [List.reverse_nil] at b1
  refine ⟨(back.reverse, true), ?_, ?_⟩
  · simp only [q5, Option.bind_some, b2, selim, rev_loop (show back.length ≤ 1048576 by omega)]
  · simp only [q4, Option.bind_some, b1]
end
end Go.Proofs.YtmcdjilbkmhfoaaGreat
namespace Go.Proofs.YtmcdjilbkmhfoaaGreat
set_option maxRecDepth 10000
open Go.RowKit
set_option linter.unusedVariables false
set_option linter.unusedSimpArgs false
set_option linter.unusedSectionVars false
inductive PathTo (n : YNetwork) (l : List YBooking) (closed : List YTrip) (weight : Int) (from_ : ByteArray) (at_ : Int) : Nat → ByteArray → Int → List YTrip → Prop
  | nil {q : ByteArray} {e : Int} (h0 : 0 ≤ idxV (placesV n) q) (hg : getI (bestV n l closed weight (idxV (placesV n) from_) at_ 0) (idxV (placesV n) q) = some e) (he : 0 ≤ e) : PathTo n l closed weight from_ at_ 0 q e []
  | snoc {k : Nat} {y : YLeg} {u z d e : Int} {i : Nat} {way : List YTrip} (hp : PathTo n l closed weight from_ at_ k y.from_ u way) (c1 : n.legs[i]? = some y)
      (hg : getI (bestV n l closed weight (idxV (placesV n) from_) at_ (k + 1)) (idxV (placesV n) y.to_) = some e)
      (c5 : m_spec_l4Ready n u (decide (idxV (placesV n) y.from_ = idxV (placesV n) from_)) = some z) (c6 : m_spec_l6Next n l closed (i : Int) z weight = some d) (c7 : ¬ d < 0) (c8 : m_spec_l3Ends n ⟨(i : Int), d⟩ = some e) : PathTo n l closed weight from_ at_ (k + 1) y.to_ e (way ++ [⟨(i : Int), d⟩])
section
variable {n : YNetwork} (hf : NetFit n)
include hf
theorem path_ex (hn : m_spec_IsNetwork n = some true) {l : List YBooking} (hl : l.length ≤ 1048576) {closed : List YTrip} (hc : closed.length ≤ 1048576) (weight : Int) {from_ : ByteArray} (at_ : Int)
    (hC : booksV n l = true ∧ 0 ≤ idxV (placesV n) from_ ∧ at_ ≤ 100000 ∧ 1 ≤ weight) :
    ∀ (k : Nat) (q0 : ByteArray) (e : Int) (tail : List YTrip), 0 ≤ idxV (placesV n) q0 → getI (bestV n l closed weight (idxV (placesV n) from_) at_ k) (idxV (placesV n) q0) = some e → 0 ≤ e → (k = 0 ∨ ¬ getI (bestV n l closed weight (idxV (placesV n) from_) at_ (k - 1)) (idxV (placesV n) q0) = some e) → tail.length + k ≤ (placesV n).length → ∀ N, k < N →
      ∃ way, iterF (m_spec_FindRoom_b1 n l closed from_ at_ weight (placesV n) (idxV (placesV n) from_)) N (idxV (placesV n) q0, e, (k : Int), tail) = some (way ++ tail) ∧ PathTo n l closed weight from_ at_ k q0 e way := by
  have hlg := net_legs hn
  have hp : (placesV n).length ≤ 40 := by have := placesV_len n; omega
  intro k
  induction k with
  | zero =>
    intro q0 e tail hx hg he hnot hlen N hN
    obtain ⟨N, rfl⟩ : ∃ M, N = M + 1 := ⟨N - 1, by omega⟩
    exact ⟨[], by unfold iterF m_spec_FindRoom_b1; simp, .nil hx hg he⟩
  | succ k ih =>
    intro q0 e tail hx hg he hnot hlen N hN
    obtain ⟨N, rfl⟩ : ∃ M, N = M + 1 := ⟨N - 1, by omega⟩
    have hbl := best_len hf hl hc weight (idxV (placesV n) from_) at_
    have hnx : ¬ getI (bestV n l closed weight (idxV (placesV n) from_) at_ k) (idxV (placesV n) q0) = some e := by
      rcases hnot with h | h
      · omega
      · exact h
    have hcd : Cand n l closed weight (idxV (placesV n) from_) (bestV n l closed weight (idxV (placesV n) from_) at_ k) (idxV (placesV n) q0) e := by
      rcases (best_next hf hl hc weight (idxV (placesV n) from_) at_ k).2 _ e hg with h | h
      · exact absurd h hnx
      · exact h
    have hxl := (idx_lt (placesV n) q0).2
    obtain ⟨t, hs, hi, i, y, d, u, z, rfl, c1, c2, c3, c4, c5, c6, c7, c8⟩ := last_both hf hl hc weight (hbl k) (q0 := q0) rfl ⟨hx, hxl⟩ e hcd
    have hfb := free_best hf hl hc weight at_ hC (k := k) (by omega)
    have hw : w64 (((k + 1 : Nat) : Int) - 1) = (k : Int) := by rw [w64_in (by omega)]; omega
    have hy : getI n.legs (i : Int) = some y := by rw [getI_nat]; exact c1
    have ha1 : chk (appOk (([⟨(i : Int), d⟩] : List YTrip).length + tail.length) 16) = some () := app_ok1 (by simp only [List.length_cons, List.length_nil]; omega) (by omega)
    obtain ⟨m1, m2⟩ := legs_in (List.mem_of_getElem? c1)
    have a0 := idx_mem m1
    obtain ⟨way, q1, q2⟩ := ih y.from_ u ([⟨(i : Int), d⟩] ++ tail) a0 c3 (by omega) (by
      by_cases hk0 : k = 0
      · exact .inl hk0
      · refine .inr fun hu => hnx ?_
        obtain ⟨k', rfl⟩ : ∃ k', k = k' + 1 := ⟨k - 1, by omega⟩
        have hb1 := (best_le hf hn hl hc weight (idxV (placesV n) from_) at_ k').2 _ e ⟨i, y, d, u, z, c1, c2, hu, c4, c5, c6, c7, c8⟩
        obtain ⟨w, w1, w2, w3⟩ := hb1
        obtain ⟨w', v1, v2, v3⟩ := (best_le hf hn hl hc weight (idxV (placesV n) from_) at_ (k' + 1)).1 _ w w1 w2
        rw [hg] at v1
        obtain rfl := Option.some.inj v1
        rw [w1, show w = e by omega]) (by simp only [List.length_append, List.length_cons, List.length_nil]; omega) N (by omega)
    have hq : y.to_ = q0 := by
      have g1 := idx_get (idx_mem m2)
      have g2 := idx_get hx
      rw [c2, g2] at g1
      exact (Option.some.inj g1).symm
    refine ⟨way ++ [⟨(i : Int), d⟩], ?_, ?_⟩
    · have hb : m_spec_FindRoom_b1 n l closed from_ at_ weight (placesV n) (idxV (placesV n) from_) (idxV (placesV n) q0, e, ((k + 1 : Nat) : Int), tail) = some (.inl (idxV (placesV n) y.from_, u, (k : Int), [⟨(i : Int), d⟩] ++ tail)) := by
        unfold m_spec_FindRoom_b1
        simp only [decide_eq_true (show (0 : Int) < ((k + 1 : Nat) : Int) by omega), cond_true, hw, hfb, Option.bind_some, hs, ha1, hy, idx_v hf, c3]
      unfold iterF
      rw [hb, List.append_assoc]
      exact q1
    · subst hq
      exact .snoc q2 c1 hg c5 c6 c7 c8
omit hf in
theorem chain_snoc {t : YTrip} (ht : tripB n t = true) : ∀ (way : List YTrip) (p : ByteArray) (a : Int), chainV n p a way → (way = [] → legFrom n t = p ∧ a ≤ startV n t) → (∀ t', way.getLast? = some t' → legFrom n t = legTo n t' ∧ endsV n t' + n.change ≤ startV n t) → chainV n p a (way ++ [t])
  | [], p, a, _, h1, _ => ⟨ht, (h1 rfl).1, (h1 rfl).2, trivial⟩
  | x :: way, p, a, hc, h1, h2 => by
    obtain ⟨c1, c2, c3, c4⟩ := hc
    refine ⟨c1, c2, c3, chain_snoc ht way _ _ c4 (fun hw => ?_) fun t' h => ?_⟩
    · subst hw
      exact h2 x rfl
    · cases way with
      | nil => simp at h
      | cons y ys => exact h2 t' (by rw [List.getLast?_cons_cons]; exact h)
omit hf in
theorem nodup_len : ∀ (m : Nat) (l : List Nat), l.Nodup → (∀ x ∈ l, x < m) → l.length ≤ m
  | 0, l, _, h => by
    cases l with
    | nil => simp
    | cons x xs => have := h x (by simp); omega
  | m + 1, l, hn, h => by
    have h1 := nodup_len m (l.erase m) (hn.erase m) fun x hx => by
      have h2 := (List.Nodup.mem_erase_iff hn).1 hx
      have := h x h2.2
      have h3 := h2.1
      omega
    have h4 : l.length ≤ (l.erase m).length + 1 := by rw [List.length_erase]; split <;> omega
    omega
section
variable (hn : m_spec_IsNetwork n = some true) {l : List YBooking} (hl : l.length ≤ 1048576) {closed : List YTrip} (hc : closed.length ≤ 1048576) (weight : Int) {from_ : ByteArray} (at_ : Int) (hfr : 0 ≤ idxV (placesV n) from_) (hat : at_ ≤ 100000)
include hn hl hc hfr hat
omit hfr hat in
theorem best_mono (f : Int) {x u : Int} {j : Nat} (hg : getI (bestV n l closed weight f at_ j) x = some u) (h0 : 0 ≤ u) : ∀ d, LeAt (bestV n l closed weight f at_ (j + d)) x u
  | 0 => ⟨u, hg, h0, Int.le_refl _⟩
  | d + 1 => by
    obtain ⟨w, w1, w2, w3⟩ := best_mono f hg h0 d
    obtain ⟨w', v1, v2, v3⟩ := (best_le hf hn hl hc weight f at_ (j + d)).1 x w w1 w2
    exact ⟨w', v1, v2, by omega⟩
structure PathOk (n : YNetwork) (l : List YBooking) (closed : List YTrip) (weight : Int) (from_ : ByteArray) (at_ : Int) (k : Nat) (q : ByteArray) (e : Int) (way : List YTrip) : Prop where
  time : 0 ≤ e ∧ e ≤ 100000
  seen : ∀ p ∈ from_ :: way.map (legTo n), ∃ (j : Nat) (u : Int), j ≤ k ∧ getI (bestV n l closed weight (idxV (placesV n) from_) at_ j) (idxV (placesV n) p) = some u ∧ 0 ≤ u ∧ u ≤ e
  nodup : (from_ :: way.map (legTo n)).Nodup
  last : (from_ :: way.map (legTo n)).getLast? = some q
  chain : chainV n from_ (if 0 > at_ then 0 else at_) way
  ends : way = [] ∧ e = (if 0 > at_ then 0 else at_) ∨ ∃ t, way.getLast? = some t ∧ endsV n t = e
  found : ∀ t ∈ way, m_spec_l6Closed closed t = some false ∧ ∃ y q, getI n.legs t.leg = some y ∧ m_spec_LoadOf l t = some q ∧ weight ≤ w64 (y.room - q)
  idx : 0 ≤ idxV (placesV n) q
theorem path_ok {k : Nat} {q : ByteArray} {e : Int} {way : List YTrip} (h : PathTo n l closed weight from_ at_ k q e way) : PathOk n l closed weight from_ at_ k q e way := by
  have hlg := net_legs hn
  have hp : (placesV n).length ≤ 40 := by have := placesV_len n; omega
  have hlt := (idx_lt (placesV n) from_).2
  induction h with
  | nil h0 hg he =>
    rename_i q e
    have hb : bestV n l closed weight (idxV (placesV n) from_) at_ 0 = (List.replicate (placesV n).length (-1 : Int)).set (idxV (placesV n) from_).toNat (if 0 > at_ then 0 else at_) := by
      unfold bestV; rw [first_v hf (by omega) _ ⟨hfr, hlt⟩]; rfl
    rw [hb] at hg
    have hq : idxV (placesV n) q = idxV (placesV n) from_ ∧ e = (if 0 > at_ then 0 else at_) := by
      rcases getI_set hfr hg with ⟨a, b⟩ | h
      · exact ⟨a, b⟩
      · exfalso
        obtain ⟨_, h2⟩ := getI_some h
        have := List.mem_of_getElem? h2
        have := List.eq_of_mem_replicate this
        omega
    have hqf : from_ = q := by
      have g1 := idx_get h0
      have g2 := idx_get hfr
      rw [hq.1, g2] at g1
      exact Option.some.inj g1
    subst hqf
    have he2 := hq.2
    refine ⟨⟨he, by rw [he2]; split <;> omega⟩, fun p hp => ?_, by simp, rfl, trivial, .inl ⟨rfl, he2⟩, fun t ht => by simp at ht, hfr⟩
    have : p = from_ := by simpa using hp
    subst this
    exact ⟨0, e, Nat.le_refl _, by rw [hb]; exact hg, he, Int.le_refl _⟩
  | snoc hpt c1 hg c5 c6 c7 c8 ih =>
    rename_i k y u z d e i way
    have hleg : getI n.legs (i : Int) = some y := by rw [getI_nat]; exact c1
    have hfo : Found n l closed z weight ⟨(i : Int), d⟩ := by
      rcases next_all hf c6 with h | h
      · omega
      · exact h
    obtain ⟨_, t2, t3, t4, t5⟩ := trip_time hf hn hfo.trip
    have hee : endsV n ⟨(i : Int), d⟩ = e := by rw [c8] at t2; exact (Option.some.inj t2).symm
    have hto : legTo n ⟨(i : Int), d⟩ = y.to_ := by unfold legTo; rw [hleg]; rfl
    have hfrom : legFrom n ⟨(i : Int), d⟩ = y.from_ := by unfold legFrom; rw [hleg]; rfl
    obtain ⟨n0, n1⟩ := net_change hn
    have hz : z = if idxV (placesV n) y.from_ = idxV (placesV n) from_ then u else u + n.change := by
      unfold m_spec_l4Ready at c5
      by_cases h : idxV (placesV n) y.from_ = idxV (placesV n) from_
      · rw [decide_eq_true h, cond_true] at c5; rw [if_pos h]; exact (Option.some.inj c5).symm
      · rw [decide_eq_false h, cond_false, w64_in (by have := ih.time; omega)] at c5; rw [if_neg h]; exact (Option.some.inj c5).symm
    have hzu : u ≤ z := by rw [hz]; split <;> omega
    have hst := hfo.start
    have hue : u < e := by omega
    obtain ⟨m1, m2⟩ := legs_in (List.mem_of_getElem? c1)
    have hnew : ∀ p ∈ from_ :: way.map (legTo n), p ≠ y.to_ := fun p hp heq => by
      obtain ⟨j, u', hj, hg', h0, hu⟩ := ih.seen p hp
      rw [heq] at hg'
      obtain ⟨w, w1, w2, w3⟩ := best_mono hf hn hl hc weight at_ _ hg' h0 (k + 1 - j)
      rw [show j + (k + 1 - j) = k + 1 by omega, hg] at w1
      have := Option.some.inj w1
      omega
    have happ : from_ :: (way ++ [(⟨(i : Int), d⟩ : YTrip)]).map (legTo n) = (from_ :: way.map (legTo n)) ++ [y.to_] := by
      rw [List.map_append, List.map_cons, List.map_nil, hto]; rfl
    refine ⟨⟨by omega, by omega⟩, fun p hp => ?_, ?_, ?_, ?_, .inr ⟨_, List.getLast?_concat, hee⟩, fun t ht => ?_, idx_mem m2⟩
    · rw [happ] at hp
      rcases List.mem_append.1 hp with hp | hp
      · obtain ⟨j, u', hj, hg', h0, hu⟩ := ih.seen p hp
        exact ⟨j, u', by omega, hg', h0, by omega⟩
      · obtain rfl := List.mem_singleton.1 hp
        exact ⟨k + 1, e, Nat.le_refl _, hg, by omega, Int.le_refl _⟩
    · rw [happ, List.nodup_append]
      exact ⟨ih.nodup, by simp, fun a ha b hb => by rw [List.mem_singleton] at hb; rw [hb]; exact hnew a ha⟩
    · rw [happ]; exact List.getLast?_concat
    · refine chain_snoc hfo.trip way _ _ ih.chain (fun hw => ?_) fun t' ht' => ?_
      · subst hw
        have hq : from_ = y.from_ := by have := ih.last; simpa using this
        rcases ih.ends with ⟨_, he⟩ | ⟨t, ht, _⟩
        · exact ⟨by rw [hfrom, hq], by omega⟩
        · simp at ht
      · have hmem : t' ∈ way := List.mem_of_getLast? ht'
        have hlast : legTo n t' = y.from_ := by
          have h1 := ih.last
          cases way with
          | nil => simp at ht'
          | cons x xs =>
            rw [List.map_cons, List.getLast?_cons_cons, ← List.map_cons, List.getLast?_map, ht'] at h1
            exact Option.some.inj h1
        have hne : ¬ idxV (placesV n) y.from_ = idxV (placesV n) from_ := fun he => by
          have g1 := idx_get (idx_mem m1)
          have g2 := idx_get hfr
          rw [he, g2] at g1
          have hff : from_ = y.from_ := Option.some.inj g1
          have hnd := ih.nodup
          rw [List.nodup_cons] at hnd
          exact hnd.1 (by rw [hff, ← hlast]; exact List.mem_map_of_mem hmem)
        rw [if_neg hne] at hz
        rcases ih.ends with ⟨hw, _⟩ | ⟨t'', ht'', he''⟩
        · rw [hw] at ht'; simp at ht'
        · rw [ht'] at ht''
          obtain rfl := Option.some.inj ht''
          exact ⟨by rw [hfrom, hlast], by rw [he'']; omega⟩
    · rcases List.mem_append.1 ht with ht | ht
      · exact ih.found t ht
      · obtain rfl := List.mem_singleton.1 ht
        exact ⟨hfo.open_, hfo.room⟩
end
end
end Go.Proofs.YtmcdjilbkmhfoaaGreat
namespace Go.Proofs.YtmcdjilbkmhfoaaGreat
set_option maxRecDepth 10000
open Go.RowKit
set_option linter.unusedVariables false
set_option linter.unusedSimpArgs false
set_option linter.unusedSectionVars false
structure WayR (n : YNetwork) (l : List YBooking) (closed : List YTrip) (weight : Int) (from_ to_ : ByteArray) (at_ : Int) (way : List YTrip) : Prop where
  hC : booksV n l = true ∧ 0 ≤ idxV (placesV n) from_ ∧ at_ ≤ 100000 ∧ 1 ≤ weight
  hto : 0 ≤ idxV (placesV n) to_
  len : way.length ≤ 20
  best : ∃ e, getI (bestV n l closed weight (idxV (placesV n) from_) at_ (placesV n).length) (idxV (placesV n) to_) = some e ∧ 0 ≤ e ∧ e ≤ 100000 ∧ (way = [] ∧ e = (if 0 > at_ then 0 else at_) ∨ ∃ t, way.getLast? = some t ∧ endsV n t = e)
  nodup : (from_ :: way.map (legTo n)).Nodup
  last : (from_ :: way.map (legTo n)).getLast? = some to_
  chain : chainV n from_ (if 0 > at_ then 0 else at_) way
  found : ∀ t ∈ way, m_spec_l6Closed closed t = some false ∧ ∃ y q, getI n.legs t.leg = some y ∧ m_spec_LoadOf l t = some q ∧ weight ≤ w64 (y.room - q)
theorem chain_trip {n : YNetwork} : ∀ {ts : List YTrip} {p : ByteArray} {a : Int}, chainV n p a ts → ∀ t ∈ ts, tripB n t = true
  | x :: ts, p, a, h, t, ht => by
    rcases List.mem_cons.1 ht with rfl | ht
    · exact h.1
    · exact chain_trip h.2.2.2 t ht
section
variable {n : YNetwork} (hf : NetFit n)
include hf
theorem free_no {l : List YBooking} (hl : l.length ≤ 1048576) {closed : List YTrip} {from_ : ByteArray} {at_ weight : Int} (hC : ¬ (booksV n l = true ∧ 0 ≤ idxV (placesV n) from_ ∧ at_ ≤ 100000 ∧ 1 ≤ weight)) (k : Int) : m_spec_BestFree n l closed from_ at_ weight k = some [] := by
  unfold m_spec_BestFree
  rw [(places_eq hf).2]
  simp only [Option.bind_some, idx_v hf, specBooks_v hf hl]
  by_cases hB : booksV n l = true
  case neg => rw [show booksV n l = false by simpa using hB]; rfl
  rw [hB]
  by_cases h1 : idxV (placesV n) from_ < 0
  · rw [decide_eq_true h1]; rfl
  by_cases h2 : 100000 < at_
  · rw [decide_eq_true h2, decide_eq_false h1]; rfl
  by_cases h3 : weight < 1
  · rw [decide_eq_true h3, decide_eq_false h1, decide_eq_false h2]; rfl
  exact absurd ⟨hB, by omega, by omega, by omega⟩ hC
theorem way_len {from_ : ByteArray} {at_ : Int} {way : List YTrip} (hn : m_spec_IsNetwork n = some true) (hnd : (from_ :: way.map (legTo n)).Nodup) (hc : chainV n from_ at_ way) : way.length ≤ 20 := by
  have hlg := net_legs hn
  have hb : ∀ t ∈ way, 0 ≤ t.leg ∧ t.leg.toNat < n.legs.length := fun t ht => by
    obtain ⟨y, hy, _⟩ := tripB_leg hf (chain_trip hc t ht)
    obtain ⟨a, b⟩ := getI_some hy
    exact ⟨a, (List.getElem?_eq_some_iff.1 b).1⟩
  have h1 := (List.nodup_cons.1 hnd).2
  unfold List.Nodup at h1
  rw [List.pairwise_map] at h1
  have h2 : (way.map fun t => t.leg.toNat).Nodup := by
    unfold List.Nodup
    rw [List.pairwise_map]
    refine h1.imp_of_mem fun {a b} ha hb' h e => h ?_
    have e1 : a.leg = b.leg := by have := hb a ha; have := hb b hb'; omega
    unfold legTo
    rw [e1]
  have := nodup_len n.legs.length _ h2 fun x hx => by
    obtain ⟨t, ht, rfl⟩ := List.mem_map.1 hx
    exact (hb t ht).2
  rw [List.length_map] at this
  omega
theorem room_spec {l : List YBooking} (hl : l.length ≤ 1048576) {closed : List YTrip} (hc : closed.length ≤ 1048576) {from_ to_ : ByteArray} {at_ weight : Int} {way : List YTrip} (h : m_spec_FindRoom n l closed from_ to_ at_ weight = some (way, true)) : WayR n l closed weight from_ to_ at_ way := by
  unfold m_spec_FindRoom at h
  rw [(places_eq hf).2] at h
  simp only [Option.bind_some, idx_v hf] at h
  by_cases hC : booksV n l = true ∧ 0 ≤ idxV (placesV n) from_ ∧ at_ ≤ 100000 ∧ 1 ≤ weight
  case neg =>
    rw [free_no hf hl hC] at h
    simp only [Option.bind_some, List.length_nil] at h
    by_cases ht : idxV (placesV n) to_ < 0
    · rw [decide_eq_true ht] at h; cases h
    · rw [decide_eq_false ht] at h; cases h
  have hn := (books_net hC.1).1
  have hlg := net_legs hn
  have hp : (placesV n).length ≤ 40 := by have := placesV_len n; omega
  have hbl := best_len hf hl hc weight (idxV (placesV n) from_) at_
  have hfl := (idx_lt (placesV n) from_).2
  have htl := (idx_lt (placesV n) to_).2
  rw [free_best hf hl hc weight at_ hC (Nat.le_refl _)] at h
  simp only [Option.bind_some] at h
  by_cases ht : idxV (placesV n) to_ < 0
  · rw [decide_eq_true ht] at h; cases h
  obtain ⟨e, he, _⟩ := len_in (xs := bestV n l closed weight (idxV (placesV n) from_) at_ (placesV n).length) (i := idxV (placesV n) to_) ⟨by omega, by rw [hbl]; exact htl⟩
  simp only [decide_eq_false ht, cond_false, decide_eq_false (show ¬ (((bestV n l closed weight (idxV (placesV n) from_) at_ (placesV n).length).length : Int) = 0) by rw [hbl]; omega), he, Option.bind_some] at h
  by_cases hd : e < 0
  · rw [decide_eq_true hd] at h; cases h
  obtain ⟨k, q1, q2, q3, q4, q5⟩ := first_both hf hl hc weight at_ hp hC ⟨by omega, htl⟩ he
  obtain ⟨w, p1, p2⟩ := path_ex hf hn hl hc weight at_ hC k to_ e [] (by omega) q2 (by omega) q3 (by simp only [List.length_nil]; omega) NN (by unfold NN; omega)
  rw [List.append_nil] at p1
  simp only [decide_eq_false hd, cond_false, q4, Option.bind_some, p1, Option.some.injEq, Prod.mk.injEq] at h
  obtain ⟨rfl, _⟩ := h
  have po := path_ok hf hn hl hc weight at_ hC.2.1 hC.2.2.1 p2
  exact ⟨hC, by omega, way_len hf hn po.nodup po.chain, ⟨e, he, po.time.1, po.time.2, po.ends⟩, po.nodup, po.last, po.chain, po.found⟩
theorem chain_isWay (hn : m_spec_IsNetwork n = some true) {way : List YTrip} (hl : way.length ≤ 1048576) {a b : ByteArray} {t : Int} (ha : 0 ≤ idxV (placesV n) a) (hb : 0 ≤ idxV (placesV n) b) (hc : chainV n a t way) (he : way.foldl (fun _ t => legTo n t) a = b) : m_spec_IsWay n way a b t = some true := by
  obtain ⟨ch0, ch1⟩ := net_change hn
  have key : ∀ (d i : Nat) (p : ByteArray) (u : Int), i + d = way.length → chainV n p u (way.drop i) → ∀ N, d < N → iterF (m_spec_IsWay_b0 n way b) N (p, u, (i : Int)) = some (.inl ((way.drop i).foldl (fun _ t => legTo n t) p)) := by
    intro d
    induction d with
    | zero =>
      intro i p u hi h N hN
      obtain ⟨N, rfl⟩ : ∃ M, N = M + 1 := ⟨N - 1, by omega⟩
      rw [List.drop_of_length_le (by omega)]
      unfold iterF m_spec_IsWay_b0
      simp only [decide_eq_false (show ¬ (i : Int) < (way.length : Int) by omega), cond_false, List.foldl_nil]
      rfl
    | succ d ih =>
      intro i p u hi h N hN
      obtain ⟨N, rfl⟩ : ∃ M, N = M + 1 := ⟨N - 1, by omega⟩
      have hlt : i < way.length := by omega
      have hg : getI way (i : Int) = some way[i] := by rw [getI_nat]; exact List.getElem?_eq_getElem hlt
      have hw : w64 ((i : Int) + 1) = ((i + 1 : Nat) : Int) := w64_nat hlt (by omega)
      rw [List.drop_eq_getElem_cons hlt] at h ⊢
      obtain ⟨c1, c2, c3, c4⟩ := h
      obtain ⟨y, hy, _⟩ := tripB_leg hf c1
      obtain ⟨t1, t2, t3, t4, t5⟩ := trip_time hf hn c1
      have f1 : legFrom n way[i] = y.from_ := by unfold legFrom; rw [hy]; rfl
      have f2 : legTo n way[i] = y.to_ := by unfold legTo; rw [hy]; rfl
      have hwe : w64 (endsV n way[i] + n.change) = endsV n way[i] + n.change := w64_in (by omega)
      have hstep : m_spec_IsWay_b0 n way b (p, u, (i : Int)) = some (.inl (legTo n way[i], endsV n way[i] + n.change, ((i + 1 : Nat) : Int))) := by
        unfold m_spec_IsWay_b0
        simp only [decide_eq_true (show (i : Int) < way.length by omega), cond_true, hg, Option.bind_some, isTrip_s hf hn, c1, Bool.not_true, cond_false, hy, t1, t2, decide_eq_true (show y.from_ = p by rw [← f1]; exact c2), decide_eq_false (show ¬ startV n way[i] < u by omega), hwe, hw, f2]
      unfold iterF
      rw [hstep, List.foldl_cons]
      exact ih (i + 1) _ _ (by omega) c4 N (by omega)
  have hk := key way.length 0 a t (by omega) (by simpa using hc) NN (by unfold NN; omega)
  rw [List.drop_zero, he] at hk
  have hpl := placesV_len n
  have hll := hf.legs
  unfold m_spec_IsWay
  rw [(places_eq hf).2, hn]
  simp only [Option.bind_some, l4Index_v (show (placesV n).length ≤ 4194304 by omega), decide_eq_false (show ¬ idxV (placesV n) a < 0 by omega), decide_eq_false (show ¬ idxV (placesV n) b < 0 by omega), Bool.not_true, cond_false]
  rw [show (0 : Int) = ((0 : Nat) : Int) from rfl, hk]
  simp [selim]
end
theorem foldl_last {α β : Type} (f : α → β) : ∀ (l : List α) (a b : β), (a :: l.map f).getLast? = some b → l.foldl (fun _ x => f x) a = b
  | [], a, b, h => by simpa using h
  | x :: l, a, b, h => by
    rw [List.map_cons, List.getLast?_cons_cons] at h
    exact foldl_last f l (f x) b h
theorem srt_ex : ∀ (l : List YBooking), l.length ≤ 1048575 → ∃ d : List YBooking, d.Perm l ∧ d.Pairwise leB
  | [], _ => ⟨[], .nil, .nil⟩
  | x :: l, h => by
    rw [List.length_cons] at h
    obtain ⟨d, h1, h2⟩ := srt_ex l (by omega)
    have := h1.length_eq
    obtain ⟨r, _, _, h3, h4⟩ := add_srt (l := d) (by omega) x h2
    exact ⟨r, h3.trans ((h1.append_right [x]).trans (List.perm_append_comm (l₁ := l) (l₂ := [x]))), h4⟩
def newO (w : YWorld) (from_ to_ : ByteArray) (service weight due : Int) (way : List YTrip) : YOrder := ⟨from_, to_, service, weight, w.now, due, way, 0, 1, from_, 0⟩
def accV (w : YWorld) (o : YOrder) (ys : List YBooking) : YWorld := addScan ⟨w.network, w.orders ++ [o], ys, w.closed, w.now, w.scans, w.skip, w.made⟩ ⟨(w.orders.length : Int) + 1, w.now, 1, o.from_, ⟨0, 0⟩⟩
theorem booked_mono {l l' : List YBooking} (h : ∀ b ∈ l, b ∈ l') {th : Int} {t : YTrip} {wt : Int} (hb : bookedB l th t wt = true) : bookedB l' th t wt = true := by
  unfold bookedB at *
  rw [List.any_eq_true] at *
  obtain ⟨x, h1, h2⟩ := hb
  exact ⟨x, h x h1, h2⟩
theorem foldl_len (os : List YOrder) (o : YOrder) : (os ++ [o]).foldl (fun a (o : YOrder) => w64 (a + (o.way.length : Int))) 0 = w64 (os.foldl (fun a (o : YOrder) => w64 (a + (o.way.length : Int))) 0 + (o.way.length : Int)) := by
  rw [List.foldl_append]; rfl
section
variable {w : YWorld} (h : WOk w)
include h
theorem scan1_ok {th : Int} (h1 : 1 ≤ th ∧ th ≤ 9999) {p : ByteArray} (hp : 0 ≤ idxV (placesV w.network) p) : m_spec_IsScan w.network ⟨th, w.now, 1, p, ⟨0, 0⟩⟩ = some true := by
  have hnow := h.parts.1
  have hpl := placesV_len w.network
  have hll := h.fit.net.legs
  unfold m_spec_IsScan
  rw [h.net]
  simp only [Option.bind_some, l1In_v, Bool.not_true, cond_false, decide_eq_true h1.1, decide_eq_true h1.2, decide_eq_true hnow.1, decide_eq_true hnow.2, Bool.and_self, (places_eq h.fit.net).2, l4Index_v (show (placesV w.network).length ≤ 4194304 by omega), decide_true, cond_true, decide_eq_true hp]
theorem acc_ok (ho30 : w.orders.length < 30) {from_ to_ : ByteArray} (hne : ¬ from_ = to_) {service weight due : Int} (hs : 1 ≤ service ∧ service ≤ 3) (hw : 1 ≤ weight ∧ weight ≤ 30000) (hdue : 0 ≤ due ∧ due ≤ 200000) {way : List YTrip} (hR : WayR w.network w.bookings w.closed weight from_ to_ (w.now + 1) way)
    {ys : List YBooking} (hp : ys.Perm (w.bookings ++ newsB ((w.orders.length : Int) + 1) weight way)) (hb : booksV w.network ys = true) : WOk (accV w (newO w from_ to_ service weight due way) ys) := by
  obtain ⟨p1, p2, p3, p4, p5, p6, p7⟩ := h.parts
  have hbn := (books_net hb).2
  have hlen := hR.len
  have hyl := hp.length_eq
  rw [List.length_append] at hyl
  have hnl : (newsB ((w.orders.length : Int) + 1) weight way).length = way.length := by unfold newsB; rw [List.length_map]
  rw [hnl] at hyl
  have hv := h.ok
  have hat : (if 0 > w.now + 1 then 0 else w.now + 1) = w.now + 1 := if_neg (by omega)
  have hch := hR.chain
  rw [hat] at hch
  have htrip := chain_trip hch
  have hmem : ∀ b ∈ w.bookings, b ∈ ys := fun b hb => hp.mem_iff.2 (List.mem_append_left _ hb)
  have hlast := foldl_last (legTo w.network) way from_ to_ hR.last
  have hsc := mkScan_ok (n := w.network) (at_ := w.now) (skip := w.skip) (p := (w.scans, w.made)) (s := ⟨(w.orders.length : Int) + 1, w.now, 1, from_, ⟨0, 0⟩⟩) ⟨fun s hs => world_scan h.fit h.ok hs, p4, p6⟩ ⟨scan1_ok h (by omega) hR.hC.2.1, Int.le_refl _⟩
  have hnew : orderV (accV w (newO w from_ to_ service weight due way) ys) w.orders.length (newO w from_ to_ service weight due way) = true := by
    have hcv : comesV (newO w from_ to_ service weight due way) = 0 := by unfold comesV newO; rw [if_neg (by simp)]
    have hst : m_spec_l10State w.network (newO w from_ to_ service weight due way) w.now = some true := by
      refine (state_iff h.fit.net h.net ⟨Int.le_refl _, by simp only [newO]; omega⟩ (by simp only [newO]; omega) htrip w.now).2 ⟨fun t h0 => by simp [newO] at h0, .inl ⟨rfl, ?_, ?_, rfl, fun t ht => ?_⟩⟩
      · unfold hereV newO; rw [if_neg (by simp)]
      · unfold hereV newO; rw [if_neg (by simp)]; exact hne
      · have ht' : way[0]? = some t := ht
        cases way with
        | nil => simp at ht'
        | cons x xs =>
          obtain rfl : x = t := by simpa using ht'
          have := hch.2.2.1
          omega
    unfold orderV
    simp only [Bool.and_eq_true, Bool.not_eq_true', decide_eq_true_iff, decide_eq_false_iff_not]
    have hid : ¬ idxV (placesV w.network) from_ < 0 := by have := hR.hC.2.1; omega
    have hid2 : ¬ idxV (placesV w.network) to_ < 0 := by have := hR.hto; omega
    have hw1 : w64 (w.now + 1) = w.now + 1 := w64_in (by omega)
    refine ⟨⟨⟨⟨⟨⟨⟨⟨⟨⟨⟨hid, hid2⟩, hne⟩, hs⟩, hw⟩, p1.1, Int.le_refl _⟩, hdue⟩, Int.le_refl _, by simp only [newO]; omega⟩, ?_⟩, ?_⟩, ?_⟩, ?_⟩
    · refine allI_iff.2 fun j t hj => ?_
      have hj' : way[j]? = some t := hj
      have htm := List.mem_of_getElem? hj'
      unfold wayC
      simp only [Bool.and_eq_true, Bool.not_eq_true', Bool.and_eq_false_imp, decide_eq_true_iff, decide_eq_false_iff_not, Nat.zero_add]
      refine ⟨⟨htrip t htm, ?_⟩, fun he hj1 => ?_⟩
      · unfold bookedB
        refine List.any_eq_true.2 ⟨⟨(w.orders.length : Int) + 1, t, weight⟩, hp.mem_iff.2 (List.mem_append_right _ ?_), decide_eq_true ?_⟩
        · unfold newsB; exact List.mem_map_of_mem htm
        · rw [show ((w.orders.length + 1 : Nat) : Int) = (w.orders.length : Int) + 1 by omega]; rfl
      · have hj1' : j + 1 < way.length := hj1
        have he' : legTo w.network t = to_ := he
        have hnd := hR.nodup
        have hl2 := hR.last
        rw [List.getLast?_eq_getElem?, List.length_cons, List.length_map, Nat.add_sub_cancel] at hl2
        have h1 : (from_ :: way.map (legTo w.network))[j + 1]? = some to_ := by rw [List.getElem?_cons_succ, List.getElem?_map, hj', Option.map_some, he']
        have h2 := List.pairwise_iff_getElem.1 hnd (j + 1) way.length (by simp; omega) (by simp) (by omega)
        exact h2 ((List.getElem?_eq_some_iff.1 h1).2.trans (List.getElem?_eq_some_iff.1 hl2).2.symm)
    · have hend : endV w.network (newO w from_ to_ service weight due way) = to_ := hlast
      show (m_spec_IsWay w.network way from_ (endV w.network (newO w from_ to_ service weight due way)) (w64 (w.now + 1))).getD false = true
      rw [hend, hw1, chain_isWay h.fit.net h.net (by omega) hR.hC.2.1 hR.hto hch hlast]; rfl
    · show (m_spec_l10State w.network (newO w from_ to_ service weight due way) w.now).getD false = true
      rw [hst]; rfl
    · rw [hcv]
      refine List.any_eq_false.2 fun t ht => ?_
      have htm : t ∈ way := List.mem_of_mem_drop ht
      have := (hR.found t htm).1
      rw [l6Closed_eq, hasTrip_v h.fit.closed] at this
      have := Option.some.inj this
      show ¬ closedB w.closed t = true
      unfold closedB
      rw [this]; simp
  have hold : ∀ (i : Nat) (o : YOrder), w.orders[i]? = some o → orderV (accV w (newO w from_ to_ service weight due way) ys) i o = true := fun i o hi => by
    have hv := world_order h.ok hi
    unfold orderV at hv ⊢
    simp only [Bool.and_eq_true, Bool.not_eq_true', decide_eq_true_iff, decide_eq_false_iff_not] at hv ⊢
    obtain ⟨⟨⟨⟨⟨⟨⟨⟨⟨⟨⟨h1, h2⟩, h3⟩, h4⟩, h5⟩, h6⟩, h7⟩, h8⟩, h9⟩, h10⟩, h11⟩, h12⟩ := hv
    refine ⟨⟨⟨⟨⟨⟨⟨⟨⟨⟨⟨h1, h2⟩, h3⟩, h4⟩, h5⟩, h6⟩, h7⟩, h8⟩, ?_⟩, h10⟩, h11⟩, h12⟩
    refine allI_iff.2 fun j t hj => ?_
    have := allI_iff.1 h9 j t hj
    unfold wayC at this ⊢
    simp only [Bool.and_eq_true] at this ⊢
    exact ⟨⟨this.1.1, booked_mono hmem this.1.2⟩, this.2⟩
  refine ⟨⟨h.fit.net, ?_, ?_, h.fit.closed, ?_, h.fit.skip, fun o ho => ?_⟩, ?_⟩
  · simp only [accV, addScan, List.length_append, List.length_cons, List.length_nil]; omega
  · simp only [accV, addScan]; omega
  · have := hsc.len; simp only [accV, addScan, newO]; omega
  · have ho' : o ∈ w.orders ++ [newO w from_ to_ service weight due way] := ho
    rcases List.mem_append.1 ho' with ho | ho
    · exact h.fit.way o ho
    · obtain rfl := List.mem_singleton.1 ho; simp only [newO]; omega
  · unfold worldV at hv ⊢
    simp only [Bool.and_eq_true, Bool.not_eq_true', decide_eq_true_iff, decide_eq_false_iff_not] at hv ⊢
    obtain ⟨⟨⟨⟨⟨⟨⟨⟨⟨⟨h1, h2⟩, h3⟩, h4⟩, h5⟩, h6⟩, h7⟩, h8⟩, h9⟩, h10⟩, h11⟩ := hv
    have hl := hsc.len
    have hmd := hsc.made
    refine ⟨⟨⟨⟨⟨⟨⟨⟨⟨⟨hb, h2⟩, ?_⟩, h4⟩, ?_⟩, h6⟩, ?_⟩, h8⟩, ?_⟩, ?_⟩, ?_⟩
    · simp only [accV, addScan, List.length_append, List.length_cons, List.length_nil]; omega
    · simp only [accV, addScan, newO]; omega
    · simp only [accV, addScan, newO]; omega
    · refine allI_iff.2 fun j s hj => ?_
      obtain ⟨a, b⟩ := hsc.good s (List.mem_of_getElem? hj)
      show ((m_spec_IsScan w.network s).getD false && !decide (w.now < s.at_)) = true
      rw [a, decide_eq_false (show ¬ w.now < s.at_ by omega)]; rfl
    · refine allI_iff.2 fun j o hj => ?_
      rw [Nat.zero_add]
      have hj' : (w.orders ++ [newO w from_ to_ service weight due way])[j]? = some o := hj
      by_cases hjl : j < w.orders.length
      · rw [List.getElem?_append_left hjl] at hj'
        exact hold j o hj'
      · rw [List.getElem?_append_right (by omega)] at hj'
        have hj0 : j - w.orders.length = 0 := by
          have := (List.getElem?_eq_some_iff.1 hj').1
          simp only [List.length_cons, List.length_nil] at this; omega
        rw [hj0] at hj'
        obtain rfl : newO w from_ to_ service weight due way = o := by simpa using hj'
        rw [show j = w.orders.length by omega]
        exact hnew
    · have h11' : w.orders.foldl (fun a (o : YOrder) => w64 (a + (o.way.length : Int))) 0 = (w.bookings.length : Int) := h11
      show (w.orders ++ [newO w from_ to_ service weight due way]).foldl (fun a (o : YOrder) => w64 (a + (o.way.length : Int))) 0 = (ys.length : Int)
      rw [foldl_len, h11']
      show w64 ((w.bookings.length : Int) + (way.length : Int)) = _
      rw [w64_in (by omega)]; omega
end
end Go.Proofs.YtmcdjilbkmhfoaaGreat
namespace Go.Proofs.YtmcdjilbkmhfoaaGreat
set_option maxRecDepth 10000
open Go.RowKit
set_option linter.unusedVariables false
set_option maxHeartbeats 16000000
def m_impl_next_b0 (n : YNetwork) (leg : Int) (at2_ : Int) (s0 : Int) : Option (Int ⊕ (Unit ⊕ (YTrip × Bool))) :=
 cond (decide (s0 ≤ 60))
 ((m_impl_runs n leg s0).bind fun y1 =>
 cond y1
 ((m_impl_starts n (⟨leg, s0⟩ : YTrip)).bind fun y2 =>
 cond (decide (at2_ ≤ y2))
 (some (.inr (.inr ((⟨leg, s0⟩ : YTrip), true))))
 (some (.inl (w64 (s0 + 1)))))
 (some (.inl (w64 (s0 + 1)))))
 (some (.inr (.inl ())))
instance (n : YNetwork) (leg : Int) (at2_ : Int) : LoopE (m_impl_next_b0 n leg at2_) := ⟨fun s0 => [.un, vi leg, vi at2_, .be 0 0 0, .un, .un, .be 1 0 0, .un, vi s0, .un, .un, .un, .un, .un, .un, .un, .un, .un, .un, .un, .un, .un, .un, .un, .un, .un, .un, .un, .un, .un], fun s0 => [some ⟨35, 3, [[.sl (n.legs.map cLeg), .sl (n.off.map cInt), vi n.change]]⟩, some ⟨55, 2, [[vi 0, vi 0]]⟩]⟩
def m_impl_next (n : YNetwork) (leg : Int) (at2_ : Int) : Option (YTrip × Bool) :=
 (iterF (m_impl_next_b0 n leg at2_) NN 0).bind (selim (fun o0 =>
 some ((⟨0, 0⟩ : YTrip), false)) (fun r => some r))
theorem ok_impl_next (n : YNetwork) (leg : Int) (at2_ : Int) {r : YTrip × Bool} (H : m_impl_next n leg at2_ = some r) : CallM Tryz.prog 219 [.ag (cNetwork n), vi leg, vi at2_] [] (.tu [.ag [vi r.1.leg, vi r.1.day], vb r.2]) [] := by
  replace H := H0 H
  unfold m_impl_next at H
  refine callM_of Tryz.func219 rfl Tryz.ntmps219 Tryz.results219 fun Q hQ hQn => ?_
  exact wk3
instance (n : YNetwork) (leg : Int) (at2_ : Int) : CT Tryz.prog (m_impl_next n leg at2_) := ⟨219, [.ag (cNetwork n), vi leg, vi at2_], [], fun r => .tu [.ag [vi r.1.leg, vi r.1.day], vb r.2], fun r => [], ok_impl_next n leg at2_⟩
def m_impl_nextOf_1 (leg : Int) (at1_ : Int) (c0_ : YNetwork) : Option (YTrip × Bool) :=
 (m_impl_next c0_ leg at1_).bind fun y1 =>
 some (y1.1, y1.2)
theorem ok_impl_nextOf_1 (leg : Int) (at1_ : Int) (c0_ : YNetwork) {r : YTrip × Bool} (H : m_impl_nextOf_1 leg at1_ c0_ = some r) : CallM Tryz.prog 218 [vi leg, vi at1_, .rp [.sl (c0_.legs.map cLeg), .sl (c0_.off.map cInt), vi c0_.change]] [] (.tu [.ag [vi r.1.leg, vi r.1.day], vb r.2]) [] := by
  replace H := H0 H
  unfold m_impl_nextOf_1 at H
  refine callM_of Tryz.func218 rfl Tryz.ntmps218 Tryz.results218 fun Q hQ hQn => ?_
  exact wk3
instance (leg : Int) (at1_ : Int) (c0_ : YNetwork) : CT Tryz.prog (m_impl_nextOf_1 leg at1_ c0_) := ⟨218, [vi leg, vi at1_, .rp [.sl (c0_.legs.map cLeg), .sl (c0_.off.map cInt), vi c0_.change]], [], fun r => .tu [.ag [vi r.1.leg, vi r.1.day], vb r.2], fun r => [], ok_impl_nextOf_1 leg at1_ c0_⟩
def m_pf1_impl_arrivals_b0 (n : YNetwork) (find0_ : YNetwork) (at3_ : Int) (legs : Int) (y1 : List ByteArray) (y2 : Int) (s0 : Int × (List Int)) : Option ((Int × (List Int)) ⊕ (List Int)) :=
 cond (decide (s0.1 < (y1.length : Int)))
 ((chk (appOk ((s0.2 : List Int).length + ([(-1)] : List Int).length) 8)).bind fun _ =>
 some (.inl ((w64 (s0.1 + 1)), ((s0.2 : List Int) ++ [(-1)]))))
 (some (.inr s0.2))
instance (n : YNetwork) (find0_ : YNetwork) (at3_ : Int) (legs : Int) (y1 : List ByteArray) (y2 : Int) : LoopE (m_pf1_impl_arrivals_b0 n find0_ at3_ legs y1 y2) := ⟨fun s0 => (.un :: .fn 218 [.rp [.sl (find0_.legs.map cLeg), .sl (find0_.off.map cInt), vi find0_.change]] :: .un :: vi at3_ :: vi legs :: .be 0 0 0 :: .un :: .un :: .un :: .un :: .un :: .ms 1 :: vi y2 :: .ms 2 :: .un :: .un :: .un :: .un :: .un :: .un :: .un :: .un :: .un :: .un :: .un :: .un :: .un :: .un :: .un :: .un :: .un :: .un :: .un :: .un :: .un :: .un :: .un :: .un :: .un :: .un :: vi (y1.length : Int) :: vi s0.1 :: .un :: .un :: .un :: .un :: .un :: .un :: .un :: .un :: .un :: .un :: .un :: .un :: .un :: .un :: .un :: .un :: .un :: .un :: .un :: .un :: .un :: .un :: .un :: .un :: .un :: .un :: .un :: .un :: .un :: .un :: .un :: .un :: .un :: .un :: .un :: .un :: .un :: .un :: .un :: .un :: .un :: .un :: .un :: .un :: .un :: .un :: .un :: .un :: .un :: .un :: .un :: .un :: .un :: .un :: .un :: .un :: .un :: .un :: .un :: .un :: .un :: .un :: .un :: .un :: .un :: .un :: .un :: .un :: .un :: .un :: .un :: .un :: .un :: .un :: .un :: .un :: .un :: .un :: .un :: .un :: .un :: .un :: .un :: []), fun s0 => [some ⟨35, 3, [[.sl (n.legs.map cLeg), .sl (n.off.map cInt), vi n.change]]⟩, some ⟨9, 1, y1.map cStr⟩, some ⟨3, 1, s0.2.map cInt⟩]⟩
def m_pf1_impl_arrivals_b2 (n : YNetwork) (find0_ : YNetwork) (legs : Int) (y1 : List ByteArray) (y2 : Int) (s1 : Int × (List Int)) (s2 : Int × Bool × (List Int)) : Option ((Int × Bool × (List Int)) ⊕ (Bool × (List Int))) :=
 cond (decide (s2.1 < (n.legs.length : Int)))
 ((getI n.legs s2.1).bind fun y4 =>
 (m_impl_placeAt y1 y4.from_).bind fun y5 =>
 (m_impl_placeAt y1 y4.to_).bind fun y6 =>
 (getI s1.2 y5).bind fun y7 =>
 cond (decide (y7 < 0))
 (some (.inl ((w64 (s2.1 + 1)), s2.2.1, s2.2.2)))
 ((getI s1.2 y5).bind fun y8 =>
 (m_impl_readyAt n y8 (decide (y5 = y2))).bind fun y9 =>
 (m_impl_nextOf_1 s2.1 y9 find0_).bind fun y10 =>
 cond y10.2
 ((getI s2.2.2 y6).bind fun y11 =>
 cond (decide (y11 < 0))
 ((m_impl_ends n y10.1).bind fun y12 =>
 (getI s2.2.2 y6).bind fun y13 =>
 some (.inl ((w64 (s2.1 + 1)), true, (s2.2.2.set (Int.toNat y6) y12))))
 ((m_impl_ends n y10.1).bind fun y14 =>
 (getI s2.2.2 y6).bind fun y15 =>
 cond (decide (y14 < y15))
 ((m_impl_ends n y10.1).bind fun y16 =>
 (getI s2.2.2 y6).bind fun y17 =>
 some (.inl ((w64 (s2.1 + 1)), true, (s2.2.2.set (Int.toNat y6) y16))))
 (some (.inl ((w64 (s2.1 + 1)), s2.2.1, s2.2.2)))))
 (some (.inl ((w64 (s2.1 + 1)), s2.2.1, s2.2.2)))))
 (some (.inr (s2.2.1, s2.2.2)))
instance (n : YNetwork) (find0_ : YNetwork) (legs : Int) (y1 : List ByteArray) (y2 : Int) (s1 : Int × (List Int)) : LoopE (m_pf1_impl_arrivals_b2 n find0_ legs y1 y2 s1) := ⟨fun s2 => (.un :: .fn 218 [.rp [.sl (find0_.legs.map cLeg), .sl (find0_.off.map cInt), vi find0_.change]] :: .un :: .un :: vi legs :: .be 0 0 0 :: .un :: .un :: .un :: .un :: .un :: .ms 1 :: vi y2 :: .ms 2 :: vi s1.1 :: .ms 3 :: vb s2.2.1 :: .un :: .un :: .un :: .un :: .un :: .un :: .un :: .un :: .un :: .un :: .un :: .un :: .un :: .un :: .un :: .un :: .un :: .un :: .un :: .un :: .un :: .un :: .un :: .un :: .un :: .un :: .un :: .un :: .un :: .un :: .un :: .un :: .un :: .un :: .un :: .un :: .un :: .un :: .un :: .un :: .un :: .un :: .un :: .un :: .sl (n.legs.map cLeg) :: vi (n.legs.length : Int) :: vi s2.1 :: .un :: .un :: .un :: .un :: .un :: .un :: .un :: .un :: .un :: .un :: .un :: .un :: .un :: .un :: .un :: .un :: .un :: .un :: .un :: .un :: .un :: .un :: .un :: .un :: .un :: .un :: .un :: .un :: .un :: .un :: .un :: .un :: .un :: .un :: .un :: .un :: .un :: .un :: .un :: .un :: .un :: .un :: .un :: .un :: .un :: .un :: .un :: .un :: .un :: .un :: .un :: .un :: .un :: .un :: .un :: .un :: .un :: .un :: .un :: .un :: .un :: []), fun s2 => [some ⟨35, 3, [[.sl (n.legs.map cLeg), .sl (n.off.map cInt), vi n.change]]⟩, some ⟨9, 1, y1.map cStr⟩, some ⟨3, 1, s1.2.map cInt⟩, some ⟨3, 1, s2.2.2.map cInt⟩]⟩
def m_pf1_impl_arrivals_b1 (n : YNetwork) (find0_ : YNetwork) (legs : Int) (y1 : List ByteArray) (y2 : Int) (s1 : Int × (List Int)) : Option ((Int × (List Int)) ⊕ (List Int)) :=
 cond (decide (s1.1 < legs))
 ((chk (appOk ((([] : List Int) : List Int).length + (s1.2 : List Int).length) 8)).bind fun _ =>
 (iterF (m_pf1_impl_arrivals_b2 n find0_ legs y1 y2 s1) NN (0, false, ((([] : List Int) : List Int) ++ s1.2))).bind (fun o2 =>
 cond (!o2.1)
 (some (.inr o2.2))
 (some (.inl ((w64 (s1.1 + 1)), o2.2)))))
 (some (.inr s1.2))
instance (n : YNetwork) (find0_ : YNetwork) (legs : Int) (y1 : List ByteArray) (y2 : Int) : LoopE (m_pf1_impl_arrivals_b1 n find0_ legs y1 y2) := ⟨fun s1 => (.un :: .fn 218 [.rp [.sl (find0_.legs.map cLeg), .sl (find0_.off.map cInt), vi find0_.change]] :: .un :: .un :: vi legs :: .be 0 0 0 :: .un :: .un :: .un :: .un :: .un :: .ms 1 :: vi y2 :: .ms 2 :: vi s1.1 :: .un :: .un :: .un :: .un :: .un :: .un :: .un :: .un :: .un :: .un :: .un :: .un :: .un :: .un :: .un :: .un :: .un :: .un :: .un :: .un :: .un :: .un :: .un :: .un :: .un :: .un :: .un :: .un :: .un :: .un :: .un :: .un :: .un :: .un :: .un :: .un :: .un :: .un :: .un :: .un :: .un :: .un :: .un :: .un :: .un :: .un :: .un :: .un :: .un :: .un :: .un :: .un :: .un :: .un :: .un :: .un :: .un :: .un :: .un :: .un :: .un :: .un :: .un :: .un :: .un :: .un :: .un :: .un :: .un :: .un :: .un :: .un :: .un :: .un :: .un :: .un :: .un :: .un :: .un :: .un :: .un :: .un :: .un :: .un :: .un :: .un :: .un :: .un :: .un :: .un :: .un :: .un :: .un :: .un :: .un :: .un :: .un :: .un :: .un :: .un :: .un :: .un :: .un :: .un :: .un :: .un :: .un :: .un :: .un :: .un :: []), fun s1 => [some ⟨35, 3, [[.sl (n.legs.map cLeg), .sl (n.off.map cInt), vi n.change]]⟩, some ⟨9, 1, y1.map cStr⟩, some ⟨3, 1, s1.2.map cInt⟩]⟩
def m_pf1_impl_arrivals (n : YNetwork) (find0_ : YNetwork) (from2_ : ByteArray) (at3_ : Int) (legs : Int) : Option (List Int) :=
 (m_impl_PlacesOf n).bind fun y1 =>
 (m_impl_placeAt y1 from2_).bind fun y2 =>
 cond (decide (y2 < 0))
 (some ([]))
 (cond (decide (100000 < at3_))
 (some ([]))
 (cond (decide (legs < 0))
 (some ([]))
 ((iterF (m_pf1_impl_arrivals_b0 n find0_ at3_ legs y1 y2) NN (0, ([] : List Int))).bind (fun o0 =>
 (getI o0 y2).bind fun y3 =>
 (iterF (m_pf1_impl_arrivals_b1 n find0_ legs y1 y2) NN (0, (o0.set (Int.toNat y2) (if 0 > at3_ then 0 else at3_)))).bind (fun o1 =>
 some o1)))))
theorem ok_pf1_impl_arrivals (n : YNetwork) (find0_ : YNetwork) (from2_ : ByteArray) (at3_ : Int) (legs : Int) {r : (List Int)} (H : m_pf1_impl_arrivals n find0_ from2_ at3_ legs = some r) : CallM Tryz.prog 216 [.ag (cNetwork n), .fn 218 [.rp [.sl (find0_.legs.map cLeg), .sl (find0_.off.map cInt), vi find0_.change]], vs from2_, vi at3_, vi legs] [] (.ms 0) [some ⟨3, 1, r.map cInt⟩] := by
  replace H := H0 H
  unfold m_pf1_impl_arrivals at H
  refine callM_of Tryz.func216 rfl Tryz.ntmps216 Tryz.results216 fun Q hQ hQn => ?_
  exact wk3
instance (n : YNetwork) (find0_ : YNetwork) (from2_ : ByteArray) (at3_ : Int) (legs : Int) : CT Tryz.prog (m_pf1_impl_arrivals n find0_ from2_ at3_ legs) := ⟨216, [.ag (cNetwork n), .fn 218 [.rp [.sl (find0_.legs.map cLeg), .sl (find0_.off.map cInt), vi find0_.change]], vs from2_, vi at3_, vi legs], [], fun r => .ms 0, fun r => [some ⟨3, 1, r.map cInt⟩], ok_pf1_impl_arrivals n find0_ from2_ at3_ legs⟩
def m_impl_nextOf (n : YNetwork) : Option YNetwork :=
 some (n)
theorem ok_impl_nextOf (n : YNetwork) {r : YNetwork} (H : m_impl_nextOf n = some r) : CallM Tryz.prog 152 [.ag (cNetwork n)] [] (.fn 218 [.rp [.sl (r.legs.map cLeg), .sl (r.off.map cInt), vi r.change]]) [] := by
  replace H := H0 H
  unfold m_impl_nextOf at H
  refine callM_of Tryz.func152 rfl Tryz.ntmps152 Tryz.results152 fun Q hQ hQn => ?_
  exact wk3
instance (n : YNetwork) : CT Tryz.prog (m_impl_nextOf n) := ⟨152, [.ag (cNetwork n)], [], fun r => .fn 218 [.rp [.sl (r.legs.map cLeg), .sl (r.off.map cInt), vi r.change]], fun r => [], ok_impl_nextOf n⟩
def m_impl_BestArrivals (n : YNetwork) (from1_ : ByteArray) (at2_ : Int) (legs : Int) : Option (List Int) :=
 (m_impl_IsNetwork n).bind fun y1 =>
 cond (!y1)
 (some ([]))
 ((m_impl_nextOf n).bind fun y2 =>
 (m_pf1_impl_arrivals n y2 from1_ at2_ legs).bind fun y3 =>
 some y3)
theorem ok_impl_BestArrivals (n : YNetwork) (from1_ : ByteArray) (at2_ : Int) (legs : Int) {r : (List Int)} (H : m_impl_BestArrivals n from1_ at2_ legs = some r) : CallM Tryz.prog 245 [.ag (cNetwork n), vs from1_, vi at2_, vi legs] [] (.ms 0) [some ⟨3, 1, r.map cInt⟩] := by
  replace H := H0 H
  unfold m_impl_BestArrivals at H
  refine callM_of Tryz.func245 rfl Tryz.ntmps245 Tryz.results245 fun Q hQ hQn => ?_
  exact wk3
instance (n : YNetwork) (from1_ : ByteArray) (at2_ : Int) (legs : Int) : CT Tryz.prog (m_impl_BestArrivals n from1_ at2_ legs) := ⟨245, [.ag (cNetwork n), vs from1_, vi at2_, vi legs], [], fun r => .ms 0, fun r => [some ⟨3, 1, r.map cInt⟩], ok_impl_BestArrivals n from1_ at2_ legs⟩
def m_impl_EarliestAt (n : YNetwork) (from1_ : ByteArray) (to_ : ByteArray) (at3_ : Int) : Option Int :=
 (m_impl_PlacesOf n).bind fun y1 =>
 (m_impl_BestArrivals n from1_ at3_ (y1.length : Int)).bind fun y2 =>
 (m_impl_placeAt y1 to_).bind fun y3 =>
 cond (decide (y3 < 0))
 (some (-1))
 (cond (decide ((y2.length : Int) = 0))
 (some (-1))
 ((getI y2 y3).bind fun y4 =>
 some y4))
theorem ok_impl_EarliestAt (n : YNetwork) (from1_ : ByteArray) (to_ : ByteArray) (at3_ : Int) {r : Int} (H : m_impl_EarliestAt n from1_ to_ at3_ = some r) : CallM Tryz.prog 203 [.ag (cNetwork n), vs from1_, vs to_, vi at3_] [] (vi r) [] := by
  replace H := H0 H
  unfold m_impl_EarliestAt at H
  refine callM_of Tryz.func203 rfl Tryz.ntmps203 Tryz.results203 fun Q hQ hQn => ?_
  exact wk3
instance (n : YNetwork) (from1_ : ByteArray) (to_ : ByteArray) (at3_ : Int) : CT Tryz.prog (m_impl_EarliestAt n from1_ to_ at3_) := ⟨203, [.ag (cNetwork n), vs from1_, vs to_, vi at3_], [], fun r => vi r, fun r => [], ok_impl_EarliestAt n from1_ to_ at3_⟩
def m_impl_PromiseOf (n : YNetwork) (service : Int) (from2_ : ByteArray) (to_ : ByteArray) (at4_ : Int) : Option Int :=
 (m_impl_EarliestAt n from2_ to_ at4_).bind fun y1 =>
 cond (decide (y1 = (-1)))
 (some (-1))
 ((m_impl_within service 1 3).bind fun y2 =>
 cond (!y2)
 (some (-1))
 (cond (decide (1080 < (Int.tmod y1 1440)))
 ((getI ([0, 1, 4] : List Int) (w64 (service - 1))).bind fun y3 =>
 some (w64 ((w64 ((w64 ((w64 ((IntKind.i64.wrap (Int.tdiv y1 1440)) + 1)) + y3)) * 1440)) + 1080)))
 ((getI ([0, 1, 4] : List Int) (w64 (service - 1))).bind fun y4 =>
 some (w64 ((w64 ((w64 ((IntKind.i64.wrap (Int.tdiv y1 1440)) + y4)) * 1440)) + 1080)))))
theorem ok_impl_PromiseOf (n : YNetwork) (service : Int) (from2_ : ByteArray) (to_ : ByteArray) (at4_ : Int) {r : Int} (H : m_impl_PromiseOf n service from2_ to_ at4_ = some r) : CallM Tryz.prog 136 [.ag (cNetwork n), vi service, vs from2_, vs to_, vi at4_] [] (vi r) [] := by
  replace H := H0 H
  unfold m_impl_PromiseOf at H
  refine callM_of Tryz.func136 rfl Tryz.ntmps136 Tryz.results136 fun Q hQ hQn => ?_
  exact wk3
instance (n : YNetwork) (service : Int) (from2_ : ByteArray) (to_ : ByteArray) (at4_ : Int) : CT Tryz.prog (m_impl_PromiseOf n service from2_ to_ at4_) := ⟨136, [.ag (cNetwork n), vi service, vs from2_, vs to_, vi at4_], [], fun r => vi r, fun r => [], ok_impl_PromiseOf n service from2_ to_ at4_⟩
def m_o_impl_AcceptOrder (w : YWorld) (from1_ : ByteArray) (to_ : ByteArray) (service : Int) (weight : Int) : Option (YWorld × Int × Bool) :=
 (m_o_impl_copyWorld w).bind fun y1 =>
 (m_impl_IsWorld w).bind fun y2 =>
 cond (!y2)
 (some (y1, 0, false))
 (cond (decide (30 ≤ (w.orders.length : Int)))
 (some (y1, 0, false))
 (cond (decide (from1_ = to_))
 (some (y1, 0, false))
 ((m_impl_within service 1 3).bind fun y3 =>
 cond (!y3)
 (some (y1, 0, false))
 ((m_impl_within weight 1 30000).bind fun y4 =>
 cond (!y4)
 (some (y1, 0, false))
 ((m_impl_FindRoom w.network w.bookings w.closed from1_ to_ (w64 (w.now + 1)) weight).bind fun y5 =>
 cond (!y5.2)
 (some (y1, 0, false))
 ((m_impl_BookWay w.network w.bookings (w64 ((w.orders.length : Int) + 1)) weight y5.1).bind fun y6 =>
 cond (!y6.2)
 (some (y1, 0, false))
 ((frz (.un :: vs from1_ :: vs to_ :: vi service :: vi weight :: .be 0 0 0 :: .un :: .un :: .un :: .un :: .be 1 0 0 :: .un :: .un :: .be 2 0 0 :: vi (w64 ((w.orders.length : Int) + 1)) :: .sl (y5.1.map cTrip) :: .un :: .un :: .un :: .un :: .un :: .un :: .un :: .un :: .un :: .un :: .un :: .un :: .un :: .un :: .un :: .un :: .un :: .un :: .un :: .un :: .un :: .un :: .un :: .un :: .un :: .un :: .un :: .un :: .un :: .un :: .un :: .un :: .un :: .un :: .un :: .un :: .un :: .un :: .un :: .un :: .un :: .un :: .un :: .un :: .un :: .un :: .un :: .un :: .un :: .un :: .un :: .un :: .un :: .un :: .un :: .un :: .un :: .un :: .un :: .un :: .un :: .un :: .un :: .un :: .un :: .un :: .un :: .un :: .un :: .un :: .un :: .un :: .un :: .un :: .un :: .un :: .un :: .un :: .un :: .un :: .un :: .un :: .un :: .un :: .un :: .un :: .un :: .un :: .un :: .un :: .un :: .un :: .un :: .un :: .un :: .un :: .un :: .un :: .un :: .un :: .un :: []) [some ⟨41, 10, [[.sl (w.network.legs.map cLeg), .sl (w.network.off.map cInt), vi w.network.change, .sl (w.orders.map cOrder), .sl (w.bookings.map cBooking), .sl (w.closed.map cTrip), vi w.now, .sl (w.scans.map cScan), .sl (w.skip.map cInt), vi w.made]]⟩, some ⟨41, 10, [[.v (.slice none 0 0), .v (.slice none 0 0), vi 0, .v (.slice none 0 0), .v (.slice none 0 0), .v (.slice none 0 0), vi 0, .v (.slice none 0 0), .v (.slice none 0 0), vi 0]]⟩, some ⟨41, 10, [[.ms 3, .ms 4, vi y1.network.change, .ms 5, .ms 6, .ms 7, vi y1.now, .ms 8, .ms 9, vi y1.made]]⟩, some ⟨67, 6, y1.network.legs.map cLeg⟩, some ⟨3, 1, y1.network.off.map cInt⟩, some ⟨62, 11, y1.orders.map cOrder⟩, some ⟨135, 4, y6.1.map cBooking⟩, some ⟨55, 2, y1.closed.map cTrip⟩, some ⟨130, 6, y1.scans.map cScan⟩, some ⟨3, 1, y1.skip.map cInt⟩]).bind fun _ =>
 (m_impl_PromiseOf w.network service from1_ to_ (w64 (w.now + 1))).bind fun y7 =>
 (m_fz_impl_copyTrips y5.1).bind fun y8 =>
 (chk (appOk ((y1.orders : List YOrder).length + ([(⟨from1_, to_, service, weight, w.now, y7, y8, 0, 1, from1_, 0⟩ : YOrder)] : List YOrder).length) 128)).bind fun _ =>
 (rhoM [2, 3, 4, 98, 6, 7, 8, 9]).bind fun _ =>
 (m_p0_impl_makeScan (⟨y1.network, ((y1.orders : List YOrder) ++ [(⟨from1_, to_, service, weight, w.now, y7, y8, 0, 1, from1_, 0⟩ : YOrder)]), y6.1, y1.closed, y1.now, y1.scans, y1.skip, y1.made⟩ : YWorld) (⟨(w64 ((w.orders.length : Int) + 1)), w.now, 1, from1_, (⟨0, 0⟩ : YTrip)⟩ : YScan)).bind fun y9 =>
 some (y9, (w64 ((w.orders.length : Int) + 1)), true))))))))
theorem ok_o_impl_AcceptOrder (w : YWorld) (from1_ : ByteArray) (to_ : ByteArray) (service : Int) (weight : Int) {r : YWorld × Int × Bool} (H : m_o_impl_AcceptOrder w from1_ to_ service weight = some r) : CallM Tryz.prog 47 [.ag (cWorld w), vs from1_, vs to_, vi service, vi weight] [] (.tu [.ag [.ms 0, .ms 1, vi r.1.network.change, .ms 2, .ms 3, .ms 4, vi r.1.now, .ms 5, .ms 6, vi r.1.made], vi r.2.1, vb r.2.2]) [some ⟨67, 6, r.1.network.legs.map cLeg⟩, some ⟨3, 1, r.1.network.off.map cInt⟩, some ⟨62, 11, r.1.orders.map cOrder⟩, some ⟨135, 4, r.1.bookings.map cBooking⟩, some ⟨55, 2, r.1.closed.map cTrip⟩, some ⟨130, 6, r.1.scans.map cScan⟩, some ⟨3, 1, r.1.skip.map cInt⟩] := by
  replace H := H0 H
  unfold m_o_impl_AcceptOrder at H
  refine callM_of Tryz.func47 rfl Tryz.ntmps47 Tryz.results47 fun Q hQ hQn => ?_
  exact wk3
instance (w : YWorld) (from1_ : ByteArray) (to_ : ByteArray) (service : Int) (weight : Int) : CT Tryz.prog (m_o_impl_AcceptOrder w from1_ to_ service weight) := ⟨47, [.ag (cWorld w), vs from1_, vs to_, vi service, vi weight], [], fun r => .tu [.ag [.ms 0, .ms 1, vi r.1.network.change, .ms 2, .ms 3, .ms 4, vi r.1.now, .ms 5, .ms 6, vi r.1.made], vi r.2.1, vb r.2.2], fun r => [some ⟨67, 6, r.1.network.legs.map cLeg⟩, some ⟨3, 1, r.1.network.off.map cInt⟩, some ⟨62, 11, r.1.orders.map cOrder⟩, some ⟨135, 4, r.1.bookings.map cBooking⟩, some ⟨55, 2, r.1.closed.map cTrip⟩, some ⟨130, 6, r.1.scans.map cScan⟩, some ⟨3, 1, r.1.skip.map cInt⟩], ok_o_impl_AcceptOrder w from1_ to_ service weight⟩
end Go.Proofs.YtmcdjilbkmhfoaaGreat
namespace Go.Proofs.YtmcdjilbkmhfoaaGreat
set_option maxRecDepth 10000
open Go.RowKit
set_option linter.unusedVariables false
set_option linter.unusedSimpArgs false
def Refused (w : YWorld) (from_ to_ : ByteArray) (service weight : Int) : Prop :=
  30 ≤ w.orders.length ∨ from_ = to_ ∨ ¬ (1 ≤ service ∧ service ≤ 3) ∨ ¬ (1 ≤ weight ∧ weight ≤ 30000) ∨ (∃ x, m_spec_FindRoom w.network w.bookings w.closed from_ to_ (w.now + 1) weight = some (x, false)) ∨
    ∃ way l, m_spec_FindRoom w.network w.bookings w.closed from_ to_ (w.now + 1) weight = some (way, true) ∧ m_spec_BookWay w.network w.bookings ((w.orders.length : Int) + 1) weight way = some (l, false)
structure Taken (w : YWorld) (from_ to_ : ByteArray) (service weight : Int) (r : YWorld × Int × Bool) (way : List YTrip) (ys : List YBooking) (due : Int) : Prop where
  room : m_spec_FindRoom w.network w.bookings w.closed from_ to_ (w.now + 1) weight = some (way, true)
  book : m_spec_BookWay w.network w.bookings ((w.orders.length : Int) + 1) weight way = some (ys, true)
  prom : m_impl_PromiseOf w.network service from_ to_ (w.now + 1) = some due
  res : r = (accV w (newO w from_ to_ service weight due way) ys, (w.orders.length : Int) + 1, true)
  ne : ¬ from_ = to_
  ok : WOk (accV w (newO w from_ to_ service weight due way) ys)
theorem accept_i {w : YWorld} (h : WOk w) (from_ to_ : ByteArray) (service weight : Int) (hpr : ∀ way, m_spec_FindRoom w.network w.bookings w.closed from_ to_ (w.now + 1) weight = some (way, true) → 1 ≤ service ∧ service ≤ 3 → ∃ d, m_impl_PromiseOf w.network service from_ to_ (w.now + 1) = some d ∧ 0 ≤ d ∧ d ≤ 200000) :
    ∃ r, m_o_impl_AcceptOrder w from_ to_ service weight = some r ∧ (r = (w, 0, false) ∧ Refused w from_ to_ service weight ∨ ∃ way ys due, Taken w from_ to_ service weight r way ys due) := by
  have hf := h.fit
  obtain ⟨p1, p2, p3, p4, p5, p6, p7⟩ := h.parts
  have hw1 : w64 (w.now + 1) = w.now + 1 := w64_in (by omega)
  have hw2 : w64 ((w.orders.length : Int) + 1) = (w.orders.length : Int) + 1 := w64_in (by omega)
  unfold m_o_impl_AcceptOrder
  rw [copyW_i hf, Option.bind_some, impl_world hf, h.ok, Option.bind_some, within_eq, hw1, hw2]
  simp only [Bool.not_true, cond_false, l1In_v, Option.bind_some]
  by_cases c1 : 30 ≤ w.orders.length
  · exact ⟨_, by rw [decide_eq_true (show (30 : Int) ≤ (w.orders.length : Int) by omega)]; rfl, .inl ⟨rfl, .inl c1⟩⟩
  rw [decide_eq_false (show ¬ (30 : Int) ≤ (w.orders.length : Int) by omega), cond_false]
  by_cases c2 : from_ = to_
  · exact ⟨_, by rw [decide_eq_true c2]; rfl, .inl ⟨rfl, .inr (.inl c2)⟩⟩
  rw [decide_eq_false c2, cond_false]
  by_cases c3 : 1 ≤ service ∧ service ≤ 3
  case neg =>
    refine ⟨(w, 0, false), ?_, .inl ⟨rfl, .inr (.inr (.inl c3))⟩⟩
    have : (decide (1 ≤ service) && decide (service ≤ 3)) = false := by rw [← Bool.decide_and]; exact decide_eq_false c3
    rw [this]; rfl
  rw [decide_eq_true c3.1, decide_eq_true c3.2]
  by_cases c4 : 1 ≤ weight ∧ weight ≤ 30000
  case neg =>
    refine ⟨(w, 0, false), ?_, .inl ⟨rfl, .inr (.inr (.inr (.inl c4)))⟩⟩
    have : (decide (1 ≤ weight) && decide (weight ≤ 30000)) = false := by rw [← Bool.decide_and]; exact decide_eq_false c4
    rw [this]; rfl
  rw [decide_eq_true c4.1, decide_eq_true c4.2]
  simp only [Bool.and_self, Bool.not_true, cond_false]
  obtain ⟨⟨way, b⟩, e1, e2⟩ := findRoom_both hf.net hf.bookings hf.closed from_ to_ (w.now + 1) weight
  rw [e1, Option.bind_some]
  cases b with
  | false => exact ⟨(w, 0, false), rfl, .inl ⟨rfl, .inr (.inr (.inr (.inr (.inl ⟨way, e2⟩))))⟩⟩
  | true =>
  have hR := room_spec hf.net hf.bookings hf.closed e2
  have hlen := hR.len
  simp only [Bool.not_true, cond_false]
  have hnl : (newsB ((w.orders.length : Int) + 1) weight way).length = way.length := by unfold newsB; rw [List.length_map]
  obtain ⟨d, d1, d2⟩ := srt_ex (w.bookings ++ newsB ((w.orders.length : Int) + 1) weight way) (by rw [List.length_append, hnl]; omega)
  have hbk : m_impl_BookWay w.network w.bookings ((w.orders.length : Int) + 1) weight way = m_spec_BookWay w.network w.bookings ((w.orders.length : Int) + 1) weight way := by
    unfold m_impl_BookWay
    rw [if_pos ⟨fitB_iff.2 hf.net, by omega, by omega⟩]
  have hsp := book_spec hf.net (show w.bookings.length ≤ 1048000 by omega) ((w.orders.length : Int) + 1) weight d1 d2
  rw [hbk]
  by_cases hbd : booksV w.network d = true
  case neg =>
    rw [if_neg (fun hx => hbd hx.2.2)] at hsp
    refine ⟨(w, 0, false), ?_, .inl ⟨rfl, .inr (.inr (.inr (.inr (.inr ⟨way, w.bookings, e2, hsp⟩))))⟩⟩
    rw [hsp]; rfl
  rw [if_pos ⟨hR.hC.1, hlen, hbd⟩] at hsp
  obtain ⟨due, q1, q2, q3⟩ := hpr way e2 c3
  have hacc := acc_ok h (by omega) c2 c3 c4 ⟨q2, q3⟩ hR d1 hbd
  have ha : chk (appOk (w.orders.length + ([newO w from_ to_ service weight due way] : List YOrder).length) 128) = some () := app_ok1 (by simp only [List.length_cons, List.length_nil]; omega) (by omega)
  have hct : m_fz_impl_copyTrips way = some way := by
    unfold m_fz_impl_copyTrips
    exact copyTrips_i (by omega)
  have hsi := scan_i (w := ⟨w.network, w.orders ++ [newO w from_ to_ service weight due way], d, w.closed, w.now, w.scans, w.skip, w.made⟩) ⟨by simp only; omega, p4, by simp only; omega⟩ ⟨(w.orders.length : Int) + 1, w.now, 1, from_, ⟨0, 0⟩⟩
  refine ⟨(accV w (newO w from_ to_ service weight due way) d, (w.orders.length : Int) + 1, true), ?_, .inr ⟨way, d, due, e2, hsp, q1, rfl, c2, hacc⟩⟩
  rw [hsp]
  simp only [Option.bind_some, Bool.not_true, cond_false, frz, q1, hct, rhoM]
  unfold newO at ha hsi ⊢
  rw [ha]
  simp only [Option.bind_some]
  rw [hsi]
  rfl
end Go.Proofs.YtmcdjilbkmhfoaaGreat
namespace Go.Proofs.YtmcdjilbkmhfoaaGreat
set_option maxRecDepth 10000
open Go.RowKit
set_option linter.unusedVariables false
set_option maxHeartbeats 16000000
def m_pf1_impl_lastLeg_b0 (n : YNetwork) (find0_ : YNetwork) (places : List ByteArray) (before : List Int) (from4_ : ByteArray) (k : Int) (due : Int) (s0 : Int) : Option (Int ⊕ (Unit ⊕ (YTrip × Bool))) :=
 cond (decide (s0 < (n.legs.length : Int)))
 ((getI n.legs s0).bind fun y1 =>
 (m_impl_placeAt places y1.from_).bind fun y2 =>
 (getI places k).bind fun y3 =>
 cond (!decide (y1.to_ = y3))
 (some (.inl (w64 (s0 + 1))))
 ((getI before y2).bind fun y4 =>
 cond (decide (y4 < 0))
 (some (.inl (w64 (s0 + 1))))
 ((getI before y2).bind fun y5 =>
 (m_impl_readyAt n y5 (decide (y1.from_ = from4_))).bind fun y6 =>
 (m_impl_nextOf_1 s0 y6 find0_).bind fun y7 =>
 cond y7.2
 ((m_impl_ends n y7.1).bind fun y8 =>
 cond (decide (y8 = due))
 (some (.inr (.inr (y7.1, true))))
 (some (.inl (w64 (s0 + 1)))))
 (some (.inl (w64 (s0 + 1)))))))
 (some (.inr (.inl ())))
instance (n : YNetwork) (find0_ : YNetwork) (places : List ByteArray) (before : List Int) (from4_ : ByteArray) (k : Int) (due : Int) : LoopE (m_pf1_impl_lastLeg_b0 n find0_ places before from4_ k due) := ⟨fun s0 => (.un :: .fn 218 [.rp [.sl (find0_.legs.map cLeg), .sl (find0_.off.map cInt), vi find0_.change]] :: .sl (places.map cStr) :: .sl (before.map cInt) :: vs from4_ :: vi k :: vi due :: .be 0 0 0 :: .un :: .un :: .un :: .un :: .un :: .un :: .be 1 0 0 :: .un :: .un :: .un :: .un :: .un :: .un :: .un :: .sl (n.legs.map cLeg) :: vi (n.legs.length : Int) :: vi s0 :: .un :: .un :: .un :: .un :: .un :: .un :: .un :: .un :: .un :: .un :: .un :: .un :: .un :: .un :: .un :: .un :: .un :: .un :: .un :: .un :: .un :: .un :: .un :: .un :: .un :: .un :: .un :: .un :: .un :: .un :: .un :: .un :: .un :: .un :: .un :: .un :: .un :: .un :: .un :: .un :: .un :: .un :: .un :: .un :: .un :: .un :: .un :: .un :: .un :: []), fun s0 => [some ⟨35, 3, [[.sl (n.legs.map cLeg), .sl (n.off.map cInt), vi n.change]]⟩, some ⟨55, 2, [[vi 0, vi 0]]⟩]⟩
def m_pf1_impl_lastLeg (n : YNetwork) (find0_ : YNetwork) (places : List ByteArray) (before : List Int) (from4_ : ByteArray) (k : Int) (due : Int) : Option (YTrip × Bool) :=
 (iterF (m_pf1_impl_lastLeg_b0 n find0_ places before from4_ k due) NN 0).bind (selim (fun o0 =>
 some ((⟨0, 0⟩ : YTrip), false)) (fun r => some r))
theorem ok_pf1_impl_lastLeg (n : YNetwork) (find0_ : YNetwork) (places : List ByteArray) (before : List Int) (from4_ : ByteArray) (k : Int) (due : Int) {r : YTrip × Bool} (H : m_pf1_impl_lastLeg n find0_ places before from4_ k due = some r) : CallM Tryz.prog 217 [.ag (cNetwork n), .fn 218 [.rp [.sl (find0_.legs.map cLeg), .sl (find0_.off.map cInt), vi find0_.change]], .sl (places.map cStr), .sl (before.map cInt), vs from4_, vi k, vi due] [] (.tu [.ag [vi r.1.leg, vi r.1.day], vb r.2]) [] := by
  replace H := H0 H
  unfold m_pf1_impl_lastLeg at H
  refine callM_of Tryz.func217 rfl Tryz.ntmps217 Tryz.results217 fun Q hQ hQn => ?_
  exact wk3
instance (n : YNetwork) (find0_ : YNetwork) (places : List ByteArray) (before : List Int) (from4_ : ByteArray) (k : Int) (due : Int) : CT Tryz.prog (m_pf1_impl_lastLeg n find0_ places before from4_ k due) := ⟨217, [.ag (cNetwork n), .fn 218 [.rp [.sl (find0_.legs.map cLeg), .sl (find0_.off.map cInt), vi find0_.change]], .sl (places.map cStr), .sl (before.map cInt), vs from4_, vi k, vi due], [], fun r => .tu [.ag [vi r.1.leg, vi r.1.day], vb r.2], fun r => [], ok_pf1_impl_lastLeg n find0_ places before from4_ k due⟩
def m_pf1_impl_wayTo_b0 (n : YNetwork) (find0_ : YNetwork) (from2_ : ByteArray) (at4_ : Int) (y1 : List ByteArray) (y2 : Int) (s0 : Int × (List (List Int))) : Option ((Int × (List (List Int))) ⊕ ((List (List Int)) ⊕ ((List YTrip) × Bool))) :=
 cond (decide (s0.1 ≤ (y1.length : Int)))
 ((m_pf1_impl_arrivals n find0_ from2_ at4_ s0.1).bind fun y3 =>
 cond (decide ((y3.length : Int) = 0))
 (some (.inr (.inr ([], false))))
 (cond (decide (y2 < 0))
 (some (.inr (.inr ([], false))))
 ((frz (.un :: .fn 218 [.rp [.sl (find0_.legs.map cLeg), .sl (find0_.off.map cInt), vi find0_.change]] :: vs from2_ :: .un :: vi at4_ :: .be 0 0 0 :: .un :: .un :: .un :: .un :: .un :: .un :: .ms 1 :: vi y2 :: .ms 2 :: vi s0.1 :: .sl (y3.map cInt) :: .un :: .un :: .un :: .un :: .un :: .un :: .un :: .un :: .un :: .un :: .un :: .un :: .un :: .un :: .un :: .un :: .un :: .un :: .un :: .un :: .un :: .un :: .un :: .un :: .un :: .un :: .un :: .un :: .un :: .un :: .un :: .un :: .un :: .un :: .un :: .un :: .un :: .un :: .un :: .un :: .un :: .un :: .un :: .un :: .un :: .un :: .un :: .un :: .un :: .un :: .un :: .un :: .un :: .un :: .un :: .un :: .un :: .un :: .un :: .un :: .un :: .un :: .un :: .un :: .un :: .un :: .un :: .un :: .un :: .un :: .un :: .un :: .un :: .un :: .un :: .un :: .un :: .un :: .un :: .un :: .un :: .un :: .un :: .un :: .un :: .un :: .un :: .un :: .un :: .un :: .un :: .un :: .un :: .un :: .un :: .un :: .un :: .un :: .un :: .un :: .un :: .un :: .un :: .un :: .un :: .un :: .un :: .un :: .un :: .un :: .un :: .un :: .un :: .un :: .un :: .un :: []) [some ⟨35, 3, [[.sl (n.legs.map cLeg), .sl (n.off.map cInt), vi n.change]]⟩, some ⟨9, 1, y1.map cStr⟩, some ⟨23, 1, s0.2.map cIntS⟩]).bind fun _ =>
 (chk (appOk ((s0.2 : List (List Int)).length + ([y3] : List (List Int)).length) 24)).bind fun _ =>
 some (.inl ((w64 (s0.1 + 1)), ((s0.2 : List (List Int)) ++ [y3]))))))
 (some (.inr (.inl s0.2)))
instance (n : YNetwork) (find0_ : YNetwork) (from2_ : ByteArray) (at4_ : Int) (y1 : List ByteArray) (y2 : Int) : LoopE (m_pf1_impl_wayTo_b0 n find0_ from2_ at4_ y1 y2) := ⟨fun s0 => (.un :: .fn 218 [.rp [.sl (find0_.legs.map cLeg), .sl (find0_.off.map cInt), vi find0_.change]] :: vs from2_ :: .un :: vi at4_ :: .be 0 0 0 :: .un :: .un :: .un :: .un :: .un :: .un :: .ms 1 :: vi y2 :: .ms 2 :: vi s0.1 :: .un :: .un :: .un :: .un :: .un :: .un :: .un :: .un :: .un :: .un :: .un :: .un :: .un :: .un :: .un :: .un :: .un :: .un :: .un :: .un :: .un :: .un :: .un :: .un :: .un :: .un :: .un :: .un :: .un :: .un :: .un :: .un :: .un :: .un :: .un :: .un :: .un :: .un :: .un :: .un :: .un :: .un :: .un :: .un :: .un :: .un :: .un :: .un :: .un :: .un :: .un :: .un :: .un :: .un :: .un :: .un :: .un :: .un :: .un :: .un :: .un :: .un :: .un :: .un :: .un :: .un :: .un :: .un :: .un :: .un :: .un :: .un :: .un :: .un :: .un :: .un :: .un :: .un :: .un :: .un :: .un :: .un :: .un :: .un :: .un :: .un :: .un :: .un :: .un :: .un :: .un :: .un :: .un :: .un :: .un :: .un :: .un :: .un :: .un :: .un :: .un :: .un :: .un :: .un :: .un :: .un :: .un :: .un :: .un :: .un :: .un :: .un :: .un :: .un :: .un :: .un :: .un :: []), fun s0 => [some ⟨35, 3, [[.sl (n.legs.map cLeg), .sl (n.off.map cInt), vi n.change]]⟩, some ⟨9, 1, y1.map cStr⟩, some ⟨23, 1, s0.2.map cIntS⟩]⟩
def m_pf1_impl_wayTo_b1 (n : YNetwork) (find0_ : YNetwork) (from2_ : ByteArray) (y1 : List ByteArray) (y2 : Int) (o0 : (List (List Int))) (y5 : Int) (s1 : Int) : Option (Int ⊕ Int) :=
 (getI o0 s1).bind fun y6 =>
 (getI y6 y2).bind fun y7 =>
 cond (!decide (y7 = y5))
 (some (.inl (w64 (s1 + 1))))
 (some (.inr s1))
instance (n : YNetwork) (find0_ : YNetwork) (from2_ : ByteArray) (y1 : List ByteArray) (y2 : Int) (o0 : (List (List Int))) (y5 : Int) : LoopE (m_pf1_impl_wayTo_b1 n find0_ from2_ y1 y2 o0 y5) := ⟨fun s1 => (.un :: .fn 218 [.rp [.sl (find0_.legs.map cLeg), .sl (find0_.off.map cInt), vi find0_.change]] :: vs from2_ :: .un :: .un :: .be 0 0 0 :: .un :: .un :: .un :: .un :: .un :: .un :: .ms 1 :: vi y2 :: .ms 2 :: .un :: .un :: vi y5 :: vi s1 :: .un :: .un :: .un :: .un :: .un :: .un :: .un :: .un :: .un :: .un :: .un :: .un :: .un :: .un :: .un :: .un :: .un :: .un :: .un :: .un :: .un :: .un :: .un :: .un :: .un :: .un :: .un :: .un :: .un :: .un :: .un :: .un :: .un :: .un :: .un :: .un :: .un :: .un :: .un :: .un :: .un :: .un :: .un :: .un :: .un :: .un :: .un :: .un :: .un :: .un :: .un :: .un :: .un :: .un :: .un :: .un :: .un :: .un :: .un :: .un :: .un :: .un :: .un :: .un :: .un :: .un :: .un :: .un :: .un :: .un :: .un :: .un :: .un :: .un :: .un :: .un :: .un :: .un :: .un :: .un :: .un :: .un :: .un :: .un :: .un :: .un :: .un :: .un :: .un :: .un :: .un :: .un :: .un :: .un :: .un :: .un :: .un :: .un :: .un :: .un :: .un :: .un :: .un :: .un :: .un :: .un :: .un :: .un :: .un :: .un :: .un :: .un :: .un :: .un :: []), fun s1 => [some ⟨35, 3, [[.sl (n.legs.map cLeg), .sl (n.off.map cInt), vi n.change]]⟩, some ⟨9, 1, y1.map cStr⟩, some ⟨23, 1, o0.map cIntS⟩]⟩
def m_pf1_impl_wayTo_b2 (n : YNetwork) (find0_ : YNetwork) (from2_ : ByteArray) (y1 : List ByteArray) (o0 : (List (List Int))) (s2 : Int × Int × Int × (List YTrip)) : Option ((Int × Int × Int × (List YTrip)) ⊕ ((List YTrip) ⊕ ((List YTrip) × Bool))) :=
 cond (decide (0 < s2.2.2.1))
 ((getI o0 (w64 (s2.2.2.1 - 1))).bind fun y8 =>
 (m_pf1_impl_lastLeg n find0_ (y1 : List ByteArray) y8 from2_ s2.1 s2.2.1).bind fun y9 =>
 cond (!y9.2)
 (some (.inr (.inr ([], false))))
 ((chk (appOk ((s2.2.2.2 : List YTrip).length + ([y9.1] : List YTrip).length) 16)).bind fun _ =>
 (getI n.legs y9.1.leg).bind fun y10 =>
 (m_impl_placeAt (y1 : List ByteArray) y10.from_).bind fun y11 =>
 (getI o0 (w64 (s2.2.2.1 - 1))).bind fun y12 =>
 (getI y12 y11).bind fun y13 =>
 some (.inl (y11, y13, (w64 (s2.2.2.1 - 1)), ((s2.2.2.2 : List YTrip) ++ [y9.1])))))
 (some (.inr (.inl s2.2.2.2)))
instance (n : YNetwork) (find0_ : YNetwork) (from2_ : ByteArray) (y1 : List ByteArray) (o0 : (List (List Int))) : LoopE (m_pf1_impl_wayTo_b2 n find0_ from2_ y1 o0) := ⟨fun s2 => (.un :: .fn 218 [.rp [.sl (find0_.legs.map cLeg), .sl (find0_.off.map cInt), vi find0_.change]] :: vs from2_ :: .un :: .un :: .be 0 0 0 :: .un :: .un :: .un :: .un :: .un :: .un :: .sl ((y1 : List ByteArray).map cStr) :: vi s2.1 :: .ms 1 :: .un :: .un :: vi s2.2.1 :: vi s2.2.2.1 :: .ms 2 :: .un :: .un :: .un :: .un :: .un :: .un :: .un :: .un :: .un :: .un :: .un :: .un :: .un :: .un :: .un :: .un :: .un :: .un :: .un :: .un :: .un :: .un :: .un :: .un :: .un :: .un :: .un :: .un :: .un :: .un :: .un :: .un :: .un :: .un :: .un :: .un :: .un :: .un :: .un :: .un :: .un :: .un :: .un :: .un :: .un :: .un :: .un :: .un :: .un :: .un :: .un :: .un :: .un :: .un :: .un :: .un :: .un :: .un :: .un :: .un :: .un :: .un :: .un :: .un :: .un :: .un :: .un :: .un :: .un :: .un :: .un :: .un :: .un :: .un :: .un :: .un :: .un :: .un :: .un :: .un :: .un :: .un :: .un :: .un :: .un :: .un :: .un :: .un :: .un :: .un :: .un :: .un :: .un :: .un :: .un :: .un :: .un :: .un :: .un :: .un :: .un :: .un :: .un :: .un :: .un :: .un :: .un :: .un :: .un :: .un :: .un :: .un :: .un :: []), fun s2 => [some ⟨35, 3, [[.sl (n.legs.map cLeg), .sl (n.off.map cInt), vi n.change]]⟩, some ⟨23, 1, o0.map cIntS⟩, some ⟨55, 2, s2.2.2.2.map cTrip⟩]⟩
def m_pf1_impl_wayTo_b3 (o2 : (List YTrip)) (s3 : Int × (List YTrip)) : Option ((Int × (List YTrip)) ⊕ (List YTrip)) :=
 cond (decide (0 ≤ s3.1))
 ((getI o2 s3.1).bind fun y14 =>
 (chk (appOk ((s3.2 : List YTrip).length + ([y14] : List YTrip).length) 16)).bind fun _ =>
 some (.inl ((w64 (s3.1 - 1)), ((s3.2 : List YTrip) ++ [y14]))))
 (some (.inr s3.2))
instance (o2 : (List YTrip)) : LoopE (m_pf1_impl_wayTo_b3 o2) := ⟨fun s3 => (.un :: .un :: .un :: .un :: .un :: .un :: .un :: .un :: .un :: .un :: .un :: .un :: .un :: .un :: .un :: .un :: .un :: .un :: .un :: .ms 0 :: .un :: .un :: .ms 1 :: vi s3.1 :: .un :: .un :: .un :: .un :: .un :: .un :: .un :: .un :: .un :: .un :: .un :: .un :: .un :: .un :: .un :: .un :: .un :: .un :: .un :: .un :: .un :: .un :: .un :: .un :: .un :: .un :: .un :: .un :: .un :: .un :: .un :: .un :: .un :: .un :: .un :: .un :: .un :: .un :: .un :: .un :: .un :: .un :: .un :: .un :: .un :: .un :: .un :: .un :: .un :: .un :: .un :: .un :: .un :: .un :: .un :: .un :: .un :: .un :: .un :: .un :: .un :: .un :: .un :: .un :: .un :: .un :: .un :: .un :: .un :: .un :: .un :: .un :: .un :: .un :: .un :: .un :: .un :: .un :: .un :: .un :: .un :: .un :: .un :: .un :: .un :: .un :: .un :: .un :: .un :: .un :: .un :: .un :: .un :: .un :: .un :: .un :: .un :: .un :: .un :: .un :: .un :: .un :: .un :: .un :: .un :: .un :: .un :: .un :: .un :: []), fun s3 => [some ⟨55, 2, o2.map cTrip⟩, some ⟨55, 2, s3.2.map cTrip⟩]⟩
def m_pf1_impl_wayTo (n : YNetwork) (find0_ : YNetwork) (from2_ : ByteArray) (to_ : ByteArray) (at4_ : Int) : Option ((List YTrip) × Bool) :=
 (m_impl_PlacesOf n).bind fun y1 =>
 (m_impl_placeAt y1 to_).bind fun y2 =>
 (iterF (m_pf1_impl_wayTo_b0 n find0_ from2_ at4_ y1 y2) NN (0, ([] : List (List Int)))).bind (selim (fun o0 =>
 (getI o0 (y1.length : Int)).bind fun y4 =>
 (getI y4 y2).bind fun y5 =>
 cond (decide (y5 < 0))
 (some ([], false))
 ((iterF (m_pf1_impl_wayTo_b1 n find0_ from2_ y1 y2 o0 y5) NN 0).bind (fun o1 =>
 (iterF (m_pf1_impl_wayTo_b2 n find0_ from2_ y1 o0) NN (y2, y5, o1, ([] : List YTrip))).bind (selim (fun o2 =>
 (iterF (m_pf1_impl_wayTo_b3 o2) NN ((w64 ((o2.length : Int) - 1)), ([] : List YTrip))).bind (fun o3 =>
 some (o3, true))) (fun r => some r))))) (fun r => some r))
theorem ok_pf1_impl_wayTo (n : YNetwork) (find0_ : YNetwork) (from2_ : ByteArray) (to_ : ByteArray) (at4_ : Int) {r : (List YTrip) × Bool} (H : m_pf1_impl_wayTo n find0_ from2_ to_ at4_ = some r) : CallM Tryz.prog 151 [.ag (cNetwork n), .fn 218 [.rp [.sl (find0_.legs.map cLeg), .sl (find0_.off.map cInt), vi find0_.change]], vs from2_, vs to_, vi at4_] [] (.tu [.ms 0, vb r.2]) [some ⟨55, 2, r.1.map cTrip⟩] := by
  replace H := H0 H
  unfold m_pf1_impl_wayTo at H
  refine callM_of Tryz.func151 rfl Tryz.ntmps151 Tryz.results151 fun Q hQ hQn => ?_
  exact wk3
instance (n : YNetwork) (find0_ : YNetwork) (from2_ : ByteArray) (to_ : ByteArray) (at4_ : Int) : CT Tryz.prog (m_pf1_impl_wayTo n find0_ from2_ to_ at4_) := ⟨151, [.ag (cNetwork n), .fn 218 [.rp [.sl (find0_.legs.map cLeg), .sl (find0_.off.map cInt), vi find0_.change]], vs from2_, vs to_, vi at4_], [], fun r => .tu [.ms 0, vb r.2], fun r => [some ⟨55, 2, r.1.map cTrip⟩], ok_pf1_impl_wayTo n find0_ from2_ to_ at4_⟩
def m_impl_FindWay (n : YNetwork) (from1_ : ByteArray) (to_ : ByteArray) (at3_ : Int) : Option ((List YTrip) × Bool) :=
 (m_impl_IsNetwork n).bind fun y1 =>
 cond (!y1)
 (some ([], false))
 ((m_impl_nextOf n).bind fun y2 =>
 (m_pf1_impl_wayTo n y2 from1_ to_ at3_).bind fun y3 =>
 some (y3.1, y3.2))
theorem ok_impl_FindWay (n : YNetwork) (from1_ : ByteArray) (to_ : ByteArray) (at3_ : Int) {r : (List YTrip) × Bool} (H : m_impl_FindWay n from1_ to_ at3_ = some r) : CallM Tryz.prog 58 [.ag (cNetwork n), vs from1_, vs to_, vi at3_] [] (.tu [.ms 0, vb r.2]) [some ⟨55, 2, r.1.map cTrip⟩] := by
  replace H := H0 H
  unfold m_impl_FindWay at H
  refine callM_of Tryz.func58 rfl Tryz.ntmps58 Tryz.results58 fun Q hQ hQn => ?_
  exact wk3
instance (n : YNetwork) (from1_ : ByteArray) (to_ : ByteArray) (at3_ : Int) : CT Tryz.prog (m_impl_FindWay n from1_ to_ at3_) := ⟨58, [.ag (cNetwork n), vs from1_, vs to_, vi at3_], [], fun r => .tu [.ms 0, vb r.2], fun r => [some ⟨55, 2, r.1.map cTrip⟩], ok_impl_FindWay n from1_ to_ at3_⟩
end Go.Proofs.YtmcdjilbkmhfoaaGreat
namespace Go.Proofs.YtmcdjilbkmhfoaaGreat
set_option maxRecDepth 10000
open Go.RowKit
set_option linter.unusedVariables false
set_option linter.unusedSimpArgs false
set_option linter.unusedSectionVars false
theorem load_nil (t : YTrip) : m_spec_LoadOf [] t = some 0 := by
  unfold m_spec_LoadOf
  obtain ⟨N, hN⟩ : ∃ N, NN = N + 1 := ⟨NN - 1, by unfold NN; omega⟩
  rw [hN]
  unfold iterF m_spec_LoadOf_b0
  rfl
section
variable {n : YNetwork} (hf : NetFit n) (hn : m_spec_IsNetwork n = some true) (hr : ∀ l ∈ n.legs, 1 ≤ l.room)
include hf hn hr
theorem next_eq1 (leg at_ : Int) : m_impl_nextOf_1 leg at_ n = m_impl_freeOf_1 leg at_ n [] [] 1 := by
  have hb : m_impl_next_b0 n leg at_ = m_impl_freeOf_1_b0 leg at_ n [] [] 1 := by
    funext s
    unfold m_impl_next_b0 m_impl_freeOf_1_b0
    rw [(runs_eq hf leg s).1]
    cases hd : decide (s ≤ 60) with
    | false => rfl
    | true =>
    cases hx : m_spec_l3Runs n leg s with
    | none => rfl
    | some b =>
    cases b with
    | false => rfl
    | true =>
    obtain ⟨y, hy⟩ := runs_leg hf hx
    have hm := hr y (getI_mem hy)
    have hlo := (net_leg hf hn y (getI_mem hy)).room
    have hw : w64 (y.room - 0) = y.room := by rw [w64_in (by omega)]; omega
    have ht : m_impl_hasTrip [] (⟨leg, s⟩ : YTrip) = some false := by rw [hasTrip_v (by simp)]; rfl
    have hL : m_impl_LoadOf [] (⟨leg, s⟩ : YTrip) = some 0 := by rw [loadOf_eq]; exact load_nil _
    simp only [cond_true, Option.bind_some, ht, hL, hy, hw, decide_eq_true hm, Bool.not_false]
  unfold m_impl_nextOf_1 m_impl_freeOf_1 m_impl_next
  rw [hb]
  cases (iterF (m_impl_freeOf_1_b0 leg at_ n [] [] 1) NN 0).bind (selim (fun o0 => some ((⟨0, 0⟩ : YTrip), false)) fun r => some r) with
  | none => rfl
  | some r => rfl
theorem arrivals_eq1 (from_ : ByteArray) (at_ legs : Int) : m_pf1_impl_arrivals n n from_ at_ legs = m_pf0_impl_arrivals n n [] [] 1 from_ at_ legs := by
  have hb2 : ∀ legs y1 y2 s1, m_pf1_impl_arrivals_b2 n n legs y1 y2 s1 = m_pf0_impl_arrivals_b2 n n [] [] 1 legs y1 y2 s1 := fun legs y1 y2 s1 => by
    funext s2
    unfold m_pf1_impl_arrivals_b2 m_pf0_impl_arrivals_b2
    simp only [next_eq1 hf hn hr]
  have hb1 : ∀ legs y1 y2, m_pf1_impl_arrivals_b1 n n legs y1 y2 = m_pf0_impl_arrivals_b1 n n [] [] 1 legs y1 y2 := fun legs y1 y2 => by
    funext s1
    unfold m_pf1_impl_arrivals_b1 m_pf0_impl_arrivals_b1
    rw [hb2]
  have hb0 : ∀ y1 y2, m_pf1_impl_arrivals_b0 n n at_ legs y1 y2 = m_pf0_impl_arrivals_b0 n n [] [] 1 at_ legs y1 y2 := fun y1 y2 => rfl
  unfold m_pf1_impl_arrivals m_pf0_impl_arrivals
  simp only [hb0, hb1]
theorem lastLeg_eq1 (places : List ByteArray) (before : List Int) (from_ : ByteArray) (k due : Int) : m_pf1_impl_lastLeg n n places before from_ k due = m_pf0_impl_lastLeg n n [] [] 1 places before from_ k due := by
  have hb0 : m_pf1_impl_lastLeg_b0 n n places before from_ k due = m_pf0_impl_lastLeg_b0 n n [] [] 1 places before from_ k due := by
    funext s
    unfold m_pf1_impl_lastLeg_b0 m_pf0_impl_lastLeg_b0
    simp only [next_eq1 hf hn hr]
  unfold m_pf1_impl_lastLeg m_pf0_impl_lastLeg
  rw [hb0]
theorem wayTo_eq1 (from_ to_ : ByteArray) (at_ : Int) : m_pf1_impl_wayTo n n from_ to_ at_ = m_pf0_impl_wayTo n n [] [] 1 from_ to_ at_ := by
  have hb0 : ∀ y1 y2, m_pf1_impl_wayTo_b0 n n from_ at_ y1 y2 = m_pf0_impl_wayTo_b0 n n [] [] 1 from_ at_ y1 y2 := fun y1 y2 => by
    funext s
    unfold m_pf1_impl_wayTo_b0 m_pf0_impl_wayTo_b0
    simp only [arrivals_eq1 hf hn hr]
    rfl
  have hb1 : ∀ y1 y2 o0 y5, m_pf1_impl_wayTo_b1 n n from_ y1 y2 o0 y5 = m_pf0_impl_wayTo_b1 n n [] [] 1 from_ y1 y2 o0 y5 := fun y1 y2 o0 y5 => rfl
  have hb2 : ∀ y1 o0, m_pf1_impl_wayTo_b2 n n from_ y1 o0 = m_pf0_impl_wayTo_b2 n n [] [] 1 from_ y1 o0 := fun y1 o0 => by
    funext s
    unfold m_pf1_impl_wayTo_b2 m_pf0_impl_wayTo_b2
    simp only [lastLeg_eq1 hf hn hr]
  have hb3 : ∀ o2, m_pf1_impl_wayTo_b3 o2 = m_pf0_impl_wayTo_b3 o2 := fun o2 => rfl
  unfold m_pf1_impl_wayTo m_pf0_impl_wayTo
  simp only [hb0, hb1, hb2, hb3]
theorem books_nil : booksV n [] = true := by
  unfold booksV
  rw [hn]; rfl
theorem findWay_eq1 (from_ to_ : ByteArray) (at_ : Int) : m_impl_FindWay n from_ to_ at_ = m_impl_FindRoom n [] [] from_ to_ at_ 1 := by
  have hi : m_impl_IsNetwork n = some true := by rw [(isNetwork_eq hf).1]; exact hn
  unfold m_impl_FindWay m_impl_FindRoom m_impl_nextOf m_impl_freeOf
  rw [hi, implBooks_v hf (by simp), books_nil hf hn hr]
  simp only [Option.bind_some, Bool.not_true, cond_false, wayTo_eq1 hf hn hr]
  rfl
end
end Go.Proofs.YtmcdjilbkmhfoaaGreat
namespace Go.Proofs.YtmcdjilbkmhfoaaGreat
set_option maxRecDepth 10000
open Go.RowKit
set_option linter.unusedVariables false
set_option linter.unusedSimpArgs false
def loadS (l : List YBooking) (t : YTrip) : Int := (l.map fun b => if b.trip = t then b.weight else 0).sum
theorem loadS_bound {l : List YBooking} (hw : ∀ b ∈ l, 1 ≤ b.weight ∧ b.weight ≤ 1000000) (t : YTrip) : 0 ≤ loadS l t ∧ loadS l t ≤ 1000000 * l.length := by
  induction l with
  | nil => simp [loadS]
  | cons x xs ih =>
    have hx := hw x List.mem_cons_self
    have := ih fun b hb => hw b (List.mem_cons_of_mem _ hb)
    unfold loadS at this ⊢
    rw [List.map_cons, List.sum_cons, List.length_cons]
    split <;> omega
theorem load_v {l : List YBooking} (hl : l.length ≤ 1000) (hw : ∀ b ∈ l, 1 ≤ b.weight ∧ b.weight ≤ 1000000) (t : YTrip) : m_spec_LoadOf l t = some (loadS l t) := by
  unfold m_spec_LoadOf
  have e : iterF (m_spec_LoadOf_b0 l t) NN (0, 0) = some (loadS l t) := by
    have := iter_st0 (body := m_spec_LoadOf_b0 l t) (fun i : Nat => (loadS (l.take i) t, (i : Int))) (n := l.length) (o := loadS l t) (fun i hi => ?_) ?_ NN (by unfold NN; omega)
    · simpa [loadS] using this
    · have ho : l[i]? = some l[i] := List.getElem?_eq_getElem hi
      have hg : getI l (i : Int) = some l[i] := by rw [getI_nat]; exact ho
      have hwi : w64 ((i : Int) + 1) = ((i + 1 : Nat) : Int) := w64_nat hi (by omega)
      have hb := loadS_bound (l := l.take i) (fun b hb => hw b (List.mem_of_mem_take hb)) t
      have hx := hw _ (List.getElem_mem hi)
      have hlen : (l.take i).length ≤ 1000 := by rw [List.length_take]; omega
      unfold m_spec_LoadOf_b0
      have hs : loadS (l.take (i + 1)) t = loadS (l.take i) t + (if l[i].trip = t then l[i].weight else 0) := by
        unfold loadS
        rw [← take_snoc' ho, List.map_append, List.sum_append]; simp
      simp only [decide_eq_true (show (i : Int) < l.length by omega), cond_true, hg, Option.bind_some, hwi]
      rw [hs]
      by_cases ht : l[i].trip = t
      · rw [decide_eq_true ht, if_pos ht, cond_true, w64_in (by omega)]
      · rw [decide_eq_false ht, if_neg ht, cond_false, Int.add_zero]
    · unfold m_spec_LoadOf_b0
      simp
  rw [e]; rfl
end Go.Proofs.YtmcdjilbkmhfoaaGreat
namespace Go.Proofs.YtmcdjilbkmhfoaaGreat
set_option maxRecDepth 10000
open Go.RowKit
set_option linter.unusedVariables false
set_option linter.unusedSimpArgs false
set_option linter.unusedSectionVars false
def dueV (e service : Int) : Int := (e / 1440 + (if 1080 < e % 1440 then 1 else 0) + (if service = 1 then 0 else if service = 2 then 1 else 4)) * 1440 + 1080
theorem promise_of {n : YNetwork} {service e at_ : Int} {from_ to_ : ByteArray} (he : m_impl_EarliestAt n from_ to_ at_ = some e) (h0 : 0 ≤ e) (h1 : e ≤ 100000) (hs : 1 ≤ service ∧ service ≤ 3) : m_impl_PromiseOf n service from_ to_ at_ = some (dueV e service) := by
  unfold m_impl_PromiseOf
  rw [he, within_eq]
  simp only [Option.bind_some, l1In_v]
  have d1 : e.tdiv 1440 = e / 1440 := Int.tdiv_eq_ediv_of_nonneg h0
  have d2 : e.tmod 1440 = e % 1440 := Int.tmod_eq_emod_of_nonneg h0
  have hb : 0 ≤ e / 1440 ∧ e / 1440 ≤ 69 := by omega
  have hwr : IntKind.i64.wrap (e / 1440) = e / 1440 := w64_in (by omega)
  have hk : ∃ k : Int, 0 ≤ k ∧ k ≤ 4 ∧ getI ([0, 1, 4] : List Int) (w64 (service - 1)) = some k ∧ k = (if service = 1 then 0 else if service = 2 then 1 else 4) := by
    rw [w64_in (by omega)]
    rcases (show service = 1 ∨ service = 2 ∨ service = 3 by omega) with rfl | rfl | rfl
    · exact ⟨0, by omega, by omega, rfl, by simp⟩
    · exact ⟨1, by omega, by omega, rfl, by simp⟩
    · exact ⟨4, by omega, by omega, rfl, by simp⟩
  obtain ⟨k, k0, k1, k2, k3⟩ := hk
  rw [d1, d2, hwr, decide_eq_true hs.1, decide_eq_true hs.2, decide_eq_false (show ¬ e = -1 by omega), k2]
  simp only [cond_false, Bool.and_self, Bool.not_true, Option.bind_some]
  unfold dueV
  rw [← k3]
  by_cases hd : 1080 < e % 1440
  · rw [decide_eq_true hd, if_pos hd, cond_true]
    rw [w64_in (n := e / 1440 + 1) (by omega), w64_in (n := e / 1440 + 1 + k) (by omega), w64_in (n := (e / 1440 + 1 + k) * 1440) (by omega), w64_in (by omega)]
  · rw [decide_eq_false hd, if_neg hd, cond_false]
    rw [w64_in (n := e / 1440 + k) (by omega), w64_in (n := (e / 1440 + k) * 1440) (by omega), w64_in (by omega), Int.add_zero]
theorem due_ok {e service : Int} (h0 : 0 ≤ e) (h1 : e ≤ 100000) : e ≤ dueV e service ∧ dueV e service ≤ 200000 := by
  unfold dueV
  split <;> split <;> (try split) <;> omega
section
variable {n : YNetwork} (hf : NetFit n) (hn : m_spec_IsNetwork n = some true) (hr : ∀ l ∈ n.legs, 1 ≤ l.room)
include hf hn hr
theorem earliest_v {from_ to_ : ByteArray} {at_ : Int} (hfr : 0 ≤ idxV (placesV n) from_) (hat : at_ ≤ 100000) (hto : 0 ≤ idxV (placesV n) to_) {e : Int} (he : getI (bestV n [] [] 1 (idxV (placesV n) from_) at_ (placesV n).length) (idxV (placesV n) to_) = some e) : m_impl_EarliestAt n from_ to_ at_ = some e := by
  have hlg := net_legs hn
  have hp : (placesV n).length ≤ 40 := by have := placesV_len n; omega
  have hpl := (idx_lt (placesV n) to_).2
  have hbl := best_len hf (l := []) (by simp) (closed := []) (by simp) 1 (idxV (placesV n) from_) at_ (placesV n).length
  have hav := arrivals_v hf (l := []) (by simp) (closed := []) (by simp) 1 hfr hat (by omega) (placesV n).length (by omega)
  have hpa : m_impl_placeAt (placesV n) to_ = some (idxV (placesV n) to_) := by rw [placeAt_eq]; exact idx_v hf to_
  have hi : m_impl_IsNetwork n = some true := by rw [(isNetwork_eq hf).1]; exact hn
  unfold m_impl_EarliestAt m_impl_BestArrivals m_impl_nextOf
  rw [(places_eq hf).1, (places_eq hf).2, hi]
  simp only [Option.bind_some, Bool.not_true, cond_false, arrivals_eq1 hf hn hr, hav, hpa, decide_eq_false (show ¬ idxV (placesV n) to_ < 0 by omega), decide_eq_false (show ¬ (((bestV n [] [] 1 (idxV (placesV n) from_) at_ (placesV n).length).length : Int) = 0) by rw [hbl]; omega), he]
end
theorem loadS_perm {l l' : List YBooking} (h : l.Perm l') (t : YTrip) : loadS l t = loadS l' t := by
  induction h with
  | nil => rfl
  | cons x _ ih => unfold loadS at *; rw [List.map_cons, List.map_cons, List.sum_cons, List.sum_cons, ih]
  | swap x y l => unfold loadS; simp only [List.map_cons, List.sum_cons]; omega
  | trans _ _ i1 i2 => rw [i1, i2]
theorem loadS_news (th wt : Int) : ∀ (way : List YTrip) (t : YTrip), way.Nodup → loadS (newsB th wt way) t = if t ∈ way then wt else 0
  | [], t, _ => rfl
  | x :: way, t, h => by
    have ih := loadS_news th wt way t (List.nodup_cons.1 h).2
    have hx := (List.nodup_cons.1 h).1
    unfold loadS newsB at *
    rw [List.map_cons, List.map_cons, List.sum_cons, ih]
    by_cases hxt : x = t
    · subst hxt
      rw [if_pos rfl, if_neg hx, if_pos List.mem_cons_self]; exact Int.add_zero wt
    · rw [if_neg hxt]
      by_cases ht : t ∈ way
      · rw [if_pos ht, if_pos (List.mem_cons_of_mem _ ht)]; omega
      · rw [if_neg ht, if_neg (fun hm => by rcases List.mem_cons.1 hm with h | h; exact hxt h.symm; exact ht h)]; omega
theorem nodup_perm {α : Type} {l l' : List α} (h : l.Perm l') (hn : l'.Nodup) : l.Nodup := (h.symm.nodup hn)
theorem book_one {n : YNetwork} (hf : NetFit n) (hn : m_spec_IsNetwork n = some true) (hr : ∀ l ∈ n.legs, 1 ≤ l.room) {way : List YTrip} (hnd : way.Nodup) (hl : way.length ≤ 20) (ht : ∀ t ∈ way, tripB n t = true) {d : List YBooking} (hp : d.Perm (newsB 1 1 way)) (hs : d.Pairwise leB) : booksV n d = true := by
  have hlen : d.length = way.length := by rw [hp.length_eq]; unfold newsB; rw [List.length_map]
  have hmem : ∀ b ∈ d, ∃ t ∈ way, b = ⟨1, t, 1⟩ := fun b hb => by
    have := hp.mem_iff.1 hb
    unfold newsB at this
    obtain ⟨t, h1, h2⟩ := List.mem_map.1 this
    exact ⟨t, h1, h2.symm⟩
  have hnn : (newsB 1 1 way).Nodup := by
    unfold newsB List.Nodup
    rw [List.pairwise_map]
    exact List.Pairwise.imp (fun h e => h (by injection e)) hnd
  have hdn := nodup_perm hp hnn
  unfold booksV
  rw [hn]
  simp only [Option.getD_some, Bool.true_and, Bool.and_eq_true, decide_eq_true_iff, List.all_eq_true, List.mem_range]
  refine ⟨by omega, fun i hi => ⟨?_, ?_⟩⟩
  · obtain ⟨t, h1, h2⟩ := hmem _ (List.getElem_mem hi)
    unfold bk1
    rw [List.getElem?_eq_getElem hi]
    simp only [h2, Bool.and_eq_true, decide_eq_true_iff]
    refine ⟨⟨⟨ht t h1, by omega, by omega⟩, by omega, by omega⟩, ?_⟩
    by_cases hi0 : i = 0
    · rw [decide_eq_true hi0]; rfl
    · have h3 : i - 1 < d.length := by omega
      rw [List.getElem?_eq_getElem h3, decide_eq_false hi0, Bool.false_or]
      simp only
      rw [← h2]
      cases hb : befB d[i - 1] d[i] with
      | true => rfl
      | false =>
        exfalso
        have h4 : befB d[i] d[i - 1] = false := List.pairwise_iff_getElem.1 hs (i - 1) i h3 hi (by omega)
        have h5 := List.pairwise_iff_getElem.1 hdn (i - 1) i h3 hi (by omega)
        obtain ⟨t', h6, h7⟩ := hmem _ (List.getElem_mem h3)
        have g1 := (bef_not _ _).1 hb
        have g2 := (bef_not _ _).1 h4
        rw [h2, h7] at g1 g2
        apply h5
        rw [h2, h7]
        obtain ⟨l1, d1⟩ := t
        obtain ⟨l2, d2⟩ := t'
        simp only at g1 g2
        have e1 : d1 = d2 := by omega
        have e2 : l1 = l2 := by omega
        rw [e1, e2]
  · obtain ⟨t, h1, h2⟩ := hmem _ (List.getElem_mem hi)
    obtain ⟨y, hy, hym⟩ := tripB_leg hf (ht t h1)
    have hL := load_v (l := d) (by omega) (fun b hb => by obtain ⟨t', _, e⟩ := hmem b hb; rw [e]; simp) t
    rw [loadS_perm hp, loadS_news 1 1 way t hnd, if_pos h1] at hL
    have hrm := hr y hym
    unfold bk2
    rw [List.getElem?_eq_getElem hi]
    simp only [h2, hy, hL, Bool.not_eq_true', decide_eq_false_iff_not]
    omega
end Go.Proofs.YtmcdjilbkmhfoaaGreat
namespace Go.Proofs.YtmcdjilbkmhfoaaGreat
set_option maxRecDepth 10000
open Go.RowKit
set_option linter.unusedVariables false
set_option maxHeartbeats 16000000
def m_o_spec_NewWorld (n : YNetwork) (skip : List Int) : Option (YWorld × Bool) :=
 (m_o_spec_l10Copy (⟨n, [], [], [], 0, [], skip, 0⟩ : YWorld)).bind fun y1 =>
 (m_spec_IsWorld y1).bind fun y2 =>
 cond (!y2)
 (some ((⟨(⟨[], [], 0⟩ : YNetwork), [], [], [], 0, [], [], 0⟩ : YWorld), false))
 (some (y1, true))
theorem ok_o_spec_NewWorld (n : YNetwork) (skip : List Int) {r : YWorld × Bool} (H : m_o_spec_NewWorld n skip = some r) : CallM Tryz.prog 57 [.ag (cNetwork n), .sl (skip.map cInt)] [] (.tu [.ag [.ms 0, .ms 1, vi r.1.network.change, .ms 2, .ms 3, .ms 4, vi r.1.now, .ms 5, .ms 6, vi r.1.made], vb r.2]) [some ⟨67, 6, r.1.network.legs.map cLeg⟩, some ⟨3, 1, r.1.network.off.map cInt⟩, some ⟨62, 11, r.1.orders.map cOrder⟩, some ⟨135, 4, r.1.bookings.map cBooking⟩, some ⟨55, 2, r.1.closed.map cTrip⟩, some ⟨130, 6, r.1.scans.map cScan⟩, some ⟨3, 1, r.1.skip.map cInt⟩] := by
  replace H := H0 H
  unfold m_o_spec_NewWorld at H
  refine callM_of Tryz.func57 rfl Tryz.ntmps57 Tryz.results57 fun Q hQ hQn => ?_
  exact wk2
instance (n : YNetwork) (skip : List Int) : CT Tryz.prog (m_o_spec_NewWorld n skip) := ⟨57, [.ag (cNetwork n), .sl (skip.map cInt)], [], fun r => .tu [.ag [.ms 0, .ms 1, vi r.1.network.change, .ms 2, .ms 3, .ms 4, vi r.1.now, .ms 5, .ms 6, vi r.1.made], vb r.2], fun r => [some ⟨67, 6, r.1.network.legs.map cLeg⟩, some ⟨3, 1, r.1.network.off.map cInt⟩, some ⟨62, 11, r.1.orders.map cOrder⟩, some ⟨135, 4, r.1.bookings.map cBooking⟩, some ⟨55, 2, r.1.closed.map cTrip⟩, some ⟨130, 6, r.1.scans.map cScan⟩, some ⟨3, 1, r.1.skip.map cInt⟩], ok_o_spec_NewWorld n skip⟩
end Go.Proofs.YtmcdjilbkmhfoaaGreat
namespace Go.Proofs.YtmcdjilbkmhfoaaGreat
set_option maxRecDepth 10000
open Go.RowKit
set_option linter.unusedVariables false
def m_q_spec_NewWorld (n : YNetwork) (skip : List Int) : Option (YWorld × Bool) := (m_o_spec_NewWorld n skip).bind fun r => match r.1.orders with
  | [] => some r
  | _ :: _ => none
theorem q_some {n : YNetwork} {skip : List Int} {r : YWorld × Bool} (H : m_q_spec_NewWorld n skip = some r) : m_o_spec_NewWorld n skip = some r ∧ r.1.orders = [] := by
  unfold m_q_spec_NewWorld at H
  cases h : m_o_spec_NewWorld n skip with
  | none => rw [h] at H; cases H
  | some x =>
    rw [h, Option.bind_some] at H
    cases ho : x.1.orders with
    | nil => rw [ho] at H; obtain rfl := Option.some.inj H; exact ⟨rfl, ho⟩
    | cons a as_ => rw [ho] at H; cases H
theorem ok_q_spec_NewWorld (n : YNetwork) (skip : List Int) {r : YWorld × Bool} (H : m_q_spec_NewWorld n skip = some r) : CallM Tryz.prog 57 [.ag (cNetwork n), .sl (skip.map cInt)] [] (.tu [.ag [.ms 0, .ms 1, vi r.1.network.change, .ms 2, .ms 3, .ms 4, vi r.1.now, .ms 5, .ms 6, vi r.1.made], vb r.2]) [some ⟨67, 6, r.1.network.legs.map cLeg⟩, some ⟨3, 1, r.1.network.off.map cInt⟩, some ⟨62, 11, ([] : List YOrder).map cOrder⟩, some ⟨135, 4, r.1.bookings.map cBooking⟩, some ⟨55, 2, r.1.closed.map cTrip⟩, some ⟨130, 6, r.1.scans.map cScan⟩, some ⟨3, 1, r.1.skip.map cInt⟩] := by
  obtain ⟨h1, h2⟩ := q_some H
  have := ok_o_spec_NewWorld n skip h1
  rw [h2] at this
  exact this
instance (n : YNetwork) (skip : List Int) : CT Tryz.prog (m_q_spec_NewWorld n skip) := ⟨57, [.ag (cNetwork n), .sl (skip.map cInt)], [], fun r => .tu [.ag [.ms 0, .ms 1, vi r.1.network.change, .ms 2, .ms 3, .ms 4, vi r.1.now, .ms 5, .ms 6, vi r.1.made], vb r.2], fun r => [some ⟨67, 6, r.1.network.legs.map cLeg⟩, some ⟨3, 1, r.1.network.off.map cInt⟩, some ⟨62, 11, ([] : List YOrder).map cOrder⟩, some ⟨135, 4, r.1.bookings.map cBooking⟩, some ⟨55, 2, r.1.closed.map cTrip⟩, some ⟨130, 6, r.1.scans.map cScan⟩, some ⟨3, 1, r.1.skip.map cInt⟩], ok_q_spec_NewWorld n skip⟩
end Go.Proofs.YtmcdjilbkmhfoaaGreat
namespace Go.Proofs.YtmcdjilbkmhfoaaGreat
set_option maxRecDepth 10000
open Go.RowKit
set_option linter.unusedVariables false
set_option maxHeartbeats 16000000
def m_impl_LateOrders_b0 (w : YWorld) (s0 : Int × (List Int)) : Option ((Int × (List Int)) ⊕ (List Int)) :=
 cond (decide (s0.1 < (w.orders.length : Int)))
 ((getI w.orders s0.1).bind fun y2 =>
 cond (decide (y2.state = 3))
 (cond (decide (y2.due < y2.ended))
 ((chk (appOk ((s0.2 : List Int).length + ([(w64 (s0.1 + 1))] : List Int).length) 8)).bind fun _ =>
 some (.inl ((w64 (s0.1 + 1)), ((s0.2 : List Int) ++ [(w64 (s0.1 + 1))]))))
 (cond (!decide (y2.state = 3))
 (cond (decide (y2.due < w.now))
 ((chk (appOk ((s0.2 : List Int).length + ([(w64 (s0.1 + 1))] : List Int).length) 8)).bind fun _ =>
 some (.inl ((w64 (s0.1 + 1)), ((s0.2 : List Int) ++ [(w64 (s0.1 + 1))]))))
 (some (.inl ((w64 (s0.1 + 1)), s0.2))))
 (some (.inl ((w64 (s0.1 + 1)), s0.2)))))
 (cond (!decide (y2.state = 3))
 (cond (decide (y2.due < w.now))
 ((chk (appOk ((s0.2 : List Int).length + ([(w64 (s0.1 + 1))] : List Int).length) 8)).bind fun _ =>
 some (.inl ((w64 (s0.1 + 1)), ((s0.2 : List Int) ++ [(w64 (s0.1 + 1))]))))
 (some (.inl ((w64 (s0.1 + 1)), s0.2))))
 (some (.inl ((w64 (s0.1 + 1)), s0.2)))))
 (some (.inr s0.2))
instance (w : YWorld) : LoopE (m_impl_LateOrders_b0 w) := ⟨fun s0 => [.un, .be 0 0 0, .un, .ms 1, .un, .un, .un, .un, .un, .un, .un, .un, .sl (w.orders.map cOrder), vi (w.orders.length : Int), vi s0.1, .un, .un, .un, .un, .un, .un, .un, .un, .un, .un, .un, .un, .un, .un, .un, .un, .un, .un, .un, .un, .un, .un, .un, .un, .un, .un, .un, .un, .un, .un, .un, .un, .un], fun s0 => [some ⟨41, 10, [[.sl (w.network.legs.map cLeg), .sl (w.network.off.map cInt), vi w.network.change, .sl (w.orders.map cOrder), .sl (w.bookings.map cBooking), .sl (w.closed.map cTrip), vi w.now, .sl (w.scans.map cScan), .sl (w.skip.map cInt), vi w.made]]⟩, some ⟨3, 1, s0.2.map cInt⟩]⟩
def m_impl_LateOrders (w : YWorld) : Option (List Int) :=
 (m_impl_IsWorld w).bind fun y1 =>
 cond (!y1)
 (some ([] : List Int))
 ((iterF (m_impl_LateOrders_b0 w) NN (0, ([] : List Int))).bind (fun o0 =>
 some o0))
theorem ok_impl_LateOrders (w : YWorld) {r : (List Int)} (H : m_impl_LateOrders w = some r) : CallM Tryz.prog 59 [.ag (cWorld w)] [] (.ms 0) [some ⟨3, 1, r.map cInt⟩] := by
  replace H := H0 H
  unfold m_impl_LateOrders at H
  refine callM_of Tryz.func59 rfl Tryz.ntmps59 Tryz.results59 fun Q hQ hQn => ?_
  exact wk3
instance (w : YWorld) : CT Tryz.prog (m_impl_LateOrders w) := ⟨59, [.ag (cWorld w)], [], fun r => .ms 0, fun r => [some ⟨3, 1, r.map cInt⟩], ok_impl_LateOrders w⟩
def m_laws_at (code : List YB8) (i : Int) : Option Int :=
 cond (decide ((code.length : Int) ≤ i))
 (some 0)
 ((getI code i).bind fun y1 =>
 some (IntKind.i64.wrap y1.v))
theorem ok_laws_at (code : List YB8) (i : Int) {r : Int} (H : m_laws_at code i = some r) : CallM Tryz.prog 25 [.sl (code.map cB8), vi i] [] (vi r) [] := by
  replace H := H0 H
  unfold m_laws_at at H
  refine callM_of Tryz.func25 rfl Tryz.ntmps25 Tryz.results25 fun Q hQ hQn => ?_
  exact wk2
instance (code : List YB8) (i : Int) : CT Tryz.prog (m_laws_at code i) := ⟨25, [.sl (code.map cB8), vi i], [], fun r => vi r, fun r => [], ok_laws_at code i⟩
def m_laws_big (code : List YB8) : Option Bool :=
 some (decide (4096 < (code.length : Int)))
theorem ok_laws_big (code : List YB8) {r : Bool} (H : m_laws_big code = some r) : CallM Tryz.prog 22 [.sl (code.map cB8)] [] (vb r) [] := by
  replace H := H0 H
  unfold m_laws_big at H
  refine callM_of Tryz.func22 rfl Tryz.ntmps22 Tryz.results22 fun Q hQ hQn => ?_
  exact wk2
instance (code : List YB8) : CT Tryz.prog (m_laws_big code) := ⟨22, [.sl (code.map cB8)], [], fun r => vb r, fun r => [], ok_laws_big code⟩
def m_laws_trips_b0 (a : List YTrip) (b : List YTrip) (s0 : Int) : Option (Int ⊕ (Unit ⊕ Bool)) :=
 cond (decide (s0 < (a.length : Int)))
 ((getI a s0).bind fun y1 =>
 (getI b s0).bind fun y2 =>
 cond (!decide (y1 = y2))
 (some (.inr (.inr false)))
 (some (.inl (w64 (s0 + 1)))))
 (some (.inr (.inl ())))
instance (a : List YTrip) (b : List YTrip) : LoopE (m_laws_trips_b0 a b) := ⟨fun s0 => [.sl (a.map cTrip), .sl (b.map cTrip), .un, .un, .un, vi s0, .un, .un, .un, .un, .un, .un, .un, .un, .un, .un, .un, .un, .un, .un, .un, .un, .un, .un, .un, .un], fun s0 => []⟩
def m_laws_trips (a : List YTrip) (b : List YTrip) : Option Bool :=
 cond (!decide ((a.length : Int) = (b.length : Int)))
 (some false)
 ((iterF (m_laws_trips_b0 a b) NN 0).bind (selim (fun o0 =>
 some true) (fun r => some r)))
theorem ok_laws_trips (a : List YTrip) (b : List YTrip) {r : Bool} (H : m_laws_trips a b = some r) : CallM Tryz.prog 53 [.sl (a.map cTrip), .sl (b.map cTrip)] [] (vb r) [] := by
  replace H := H0 H
  unfold m_laws_trips at H
  refine callM_of Tryz.func53 rfl Tryz.ntmps53 Tryz.results53 fun Q hQ hQn => ?_
  exact wk3
instance (a : List YTrip) (b : List YTrip) : CT Tryz.prog (m_laws_trips a b) := ⟨53, [.sl (a.map cTrip), .sl (b.map cTrip)], [], fun r => vb r, fun r => [], ok_laws_trips a b⟩
def m_o_impl_NewWorld (n : YNetwork) (skip : List Int) : Option (YWorld × Bool) :=
 (m_o_impl_copyNetwork n).bind fun y1 =>
 (chk (appOk ((([] : List Int) : List Int).length + (skip : List Int).length) 8)).bind fun _ =>
 (m_impl_IsWorld (⟨y1, [], [], [], 0, [], ((([] : List Int) : List Int) ++ skip), 0⟩ : YWorld)).bind fun y2 =>
 cond (!y2)
 (some ((⟨(⟨[], [], 0⟩ : YNetwork), [], [], [], 0, [], [], 0⟩ : YWorld), false))
 (some ((⟨y1, [], [], [], 0, [], ((([] : List Int) : List Int) ++ skip), 0⟩ : YWorld), true))
theorem ok_o_impl_NewWorld (n : YNetwork) (skip : List Int) {r : YWorld × Bool} (H : m_o_impl_NewWorld n skip = some r) : CallM Tryz.prog 56 [.ag (cNetwork n), .sl (skip.map cInt)] [] (.tu [.ag [.ms 0, .ms 1, vi r.1.network.change, .v (.slice none 0 0), .v (.slice none 0 0), .v (.slice none 0 0), vi r.1.now, .v (.slice none 0 0), .ms 2, vi r.1.made], vb r.2]) [some ⟨67, 6, r.1.network.legs.map cLeg⟩, some ⟨3, 1, r.1.network.off.map cInt⟩, some ⟨3, 1, r.1.skip.map cInt⟩] := by
  replace H := H0 H
  unfold m_o_impl_NewWorld at H
  refine callM_of Tryz.func56 rfl Tryz.ntmps56 Tryz.results56 fun Q hQ hQn => ?_
  exact wk3
instance (n : YNetwork) (skip : List Int) : CT Tryz.prog (m_o_impl_NewWorld n skip) := ⟨56, [.ag (cNetwork n), .sl (skip.map cInt)], [], fun r => .tu [.ag [.ms 0, .ms 1, vi r.1.network.change, .v (.slice none 0 0), .v (.slice none 0 0), .v (.slice none 0 0), vi r.1.now, .v (.slice none 0 0), .ms 2, vi r.1.made], vb r.2], fun r => [some ⟨67, 6, r.1.network.legs.map cLeg⟩, some ⟨3, 1, r.1.network.off.map cInt⟩, some ⟨3, 1, r.1.skip.map cInt⟩], ok_o_impl_NewWorld n skip⟩
def m_laws_FnKept_b0 (code : List YB8) (y2 : YNetwork × ByteArray × ByteArray × Int) (y3 : YWorld × Bool) (s0 : Int) : Option (Int ⊕ (Unit ⊕ Bool)) :=
 cond (decide (s0 < (y2.1.legs.length : Int)))
 ((getI y2.1.legs s0).bind fun y5 =>
 cond (decide (y5.room < 1))
 (some (.inr (.inr true)))
 (some (.inl (w64 (s0 + 1)))))
 (some (.inr (.inl ())))
instance (code : List YB8) (y2 : YNetwork × ByteArray × ByteArray × Int) (y3 : YWorld × Bool) : LoopE (m_laws_FnKept_b0 code y2 y3) := ⟨fun s0 => (.sl (code.map cB8) :: .un :: .un :: .be 0 0 0 :: vs y2.2.1 :: vs y2.2.2.1 :: vi y2.2.2.2 :: .be 2 0 0 :: .un :: .un :: .un :: vi s0 :: .un :: .un :: .un :: .un :: .un :: .un :: .un :: .un :: .un :: .un :: .un :: .un :: .un :: .un :: .un :: .un :: .un :: .un :: .un :: .un :: .un :: .un :: .un :: .un :: .un :: .un :: .un :: .un :: .un :: .un :: .un :: .un :: .un :: .un :: .un :: .un :: .un :: .un :: .un :: .un :: .un :: .un :: .un :: .un :: .un :: .un :: .un :: .un :: .un :: .un :: .un :: .un :: .un :: .un :: .un :: .un :: .un :: .un :: .un :: .un :: .un :: .un :: .un :: .un :: .un :: .un :: .un :: .un :: .un :: .un :: .un :: .un :: .un :: .un :: .un :: .un :: .un :: .un :: .un :: .un :: .un :: .un :: .un :: .un :: .un :: .un :: .un :: .un :: .un :: .un :: .un :: .un :: .un :: .un :: .un :: .un :: .un :: .un :: .un :: .un :: .un :: .un :: .un :: .un :: .un :: .un :: .un :: .un :: .un :: .un :: .un :: .un :: .un :: .un :: .un :: .un :: .un :: .un :: .un :: .un :: .un :: .un :: .un :: .un :: .un :: .un :: .un :: []), fun s0 => [some ⟨35, 3, [[.sl (y2.1.legs.map cLeg), .ms 1, vi y2.1.change]]⟩, some ⟨3, 1, y2.1.off.map cInt⟩, some ⟨41, 10, [[.ms 3, .ms 4, vi y3.1.network.change, .v (.slice none 0 0), .v (.slice none 0 0), .v (.slice none 0 0), vi y3.1.now, .v (.slice none 0 0), .ms 5, vi y3.1.made]]⟩, some ⟨67, 6, y3.1.network.legs.map cLeg⟩, some ⟨3, 1, y3.1.network.off.map cInt⟩, some ⟨3, 1, y3.1.skip.map cInt⟩]⟩
def m_laws_FnKept (code : List YB8) : Option Bool :=
 (m_laws_big code).bind fun y1 =>
 cond y1
 (some true)
 ((m_o_spec_DrawFindWay code).bind fun y2 =>
 (m_o_impl_NewWorld y2.1 ([2, 3])).bind fun y3 =>
 (m_q_spec_NewWorld y2.1 ([2, 3])).bind fun y4 =>
 cond (!(y3.2 == y4.2))
 (some false)
 (cond (!y3.2)
 (some true)
 (cond (decide (y2.2.2.2 < 0))
 (some true)
 (cond (decide (100000 ≤ y2.2.2.2))
 (some true)
 ((iterF (m_laws_FnKept_b0 code y2 y3) NN 0).bind (selim (fun o0 =>
 (frz (.sl (code.map cB8) :: .un :: .un :: .be 0 0 0 :: vs y2.2.1 :: vs y2.2.2.1 :: vi y2.2.2.2 :: .be 2 0 0 :: .un :: .un :: .un :: .un :: .un :: .un :: .un :: .un :: .un :: .un :: .un :: .un :: .un :: .un :: .un :: .un :: .un :: .un :: .un :: .un :: .un :: .un :: .un :: .un :: .un :: .un :: .un :: .un :: .un :: .un :: .un :: .un :: .un :: .un :: .un :: .un :: .un :: .un :: .un :: .un :: .un :: .un :: .un :: .un :: .un :: .un :: .un :: .un :: .un :: .un :: .un :: .un :: .un :: .un :: .un :: .un :: .un :: .un :: .un :: .un :: .un :: .un :: .un :: .un :: .un :: .un :: .un :: .un :: .un :: .un :: .un :: .un :: .un :: .un :: .un :: .un :: .un :: .un :: .un :: .un :: .un :: .un :: .un :: .un :: .un :: .un :: .un :: .un :: .un :: .un :: .un :: .un :: .un :: .un :: .un :: .un :: .un :: .un :: .un :: .un :: .un :: .un :: .un :: .un :: .un :: .un :: .un :: .un :: .un :: .un :: .un :: .un :: .un :: .un :: .un :: .un :: .un :: .un :: .un :: .un :: .un :: .un :: .un :: .un :: .un :: .un :: .un :: .un :: .un :: .un :: .un :: []) [some ⟨35, 3, [[.sl (y2.1.legs.map cLeg), .ms 1, vi y2.1.change]]⟩, some ⟨3, 1, y2.1.off.map cInt⟩, some ⟨41, 10, [[.sl (y3.1.network.legs.map cLeg), .sl (y3.1.network.off.map cInt), vi y3.1.network.change, .v (.slice none 0 0), .v (.slice none 0 0), .v (.slice none 0 0), vi y3.1.now, .v (.slice none 0 0), .sl (y3.1.skip.map cInt), vi y3.1.made]]⟩]).bind fun _ =>
 (m_impl_AdvanceTo (⟨y3.1.network, [], [], [], y3.1.now, [], y3.1.skip, y3.1.made⟩ : YWorld) y2.2.2.2).bind fun y6 =>
 (drwL 8 []).bind fun _ =>
 (m_laws_at code 1).bind fun y7 =>
 (m_o_impl_AcceptOrder y6 y2.2.1 y2.2.2.1 (w64 (1 + (Int.tmod y7 3))) 1).bind fun y8 =>
 (m_impl_FindWay y2.1 y2.2.1 y2.2.2.1 (w64 (y2.2.2.2 + 1))).bind fun y9 =>
 cond (!y8.2.2)
 (cond (!y9.2)
 (some true)
 (some (decide (y2.2.1 = y2.2.2.1))))
 ((frz (.un :: .un :: .un :: .un :: .un :: .un :: .un :: .un :: .un :: .un :: .un :: .un :: .be 0 0 0 :: vi y8.2.1 :: .un :: .ms 1 :: .un :: .un :: .un :: .un :: .un :: .un :: .un :: .un :: .un :: .un :: .un :: .un :: .un :: .un :: .un :: .un :: .un :: .un :: .un :: .un :: .un :: .un :: .un :: .un :: .un :: .un :: .un :: .un :: .un :: .un :: .un :: .un :: .un :: .un :: .un :: .un :: .un :: .un :: .un :: .un :: .un :: .un :: .un :: .un :: .un :: .un :: .un :: .un :: .un :: .un :: .un :: .un :: .un :: .un :: .un :: .un :: .un :: .un :: .un :: .un :: .un :: .un :: .un :: .un :: .un :: .un :: .un :: .un :: .un :: .un :: .un :: .un :: .un :: .un :: .un :: .un :: .un :: .un :: .un :: .un :: .un :: .un :: .un :: .un :: .un :: .un :: .un :: .un :: .un :: .un :: .un :: .un :: .un :: .un :: .un :: .un :: .un :: .un :: .un :: .un :: .un :: .un :: .un :: .un :: .un :: .un :: .un :: .un :: .un :: .un :: .un :: .un :: .un :: .un :: .un :: .un :: .un :: .un :: .un :: .un :: .un :: .un :: .un :: []) [some ⟨41, 10, [[.sl (y8.1.network.legs.map cLeg), .sl (y8.1.network.off.map cInt), vi y8.1.network.change, .sl (y8.1.orders.map cOrder), .sl (y8.1.bookings.map cBooking), .sl (y8.1.closed.map cTrip), vi y8.1.now, .sl (y8.1.scans.map cScan), .sl (y8.1.skip.map cInt), vi y8.1.made]]⟩, some ⟨55, 2, y9.1.map cTrip⟩]).bind fun _ =>
 (m_impl_AdvanceTo y8.1 100000).bind fun y10 =>
 cond (decide (y8.2.1 = 1))
 ((getI y8.1.orders 0).bind fun y11 =>
 (m_laws_trips y11.way y9.1).bind fun y12 =>
 cond y12
 ((getI y10.orders 0).bind fun y13 =>
 cond (decide (y13.state = 3))
 ((getI y10.orders 0).bind fun y14 =>
 (getI y10.orders 0).bind fun y15 =>
 cond (decide (y14.ended ≤ y15.due))
 ((m_impl_LateOrders y10).bind fun y16 =>
 some (decide ((y16.length : Int) = 0)))
 (some false))
 (some false))
 (some false))
 (some false))) (fun r => some r)))))))
theorem ok_laws_FnKept (code : List YB8) {r : Bool} (H : m_laws_FnKept code = some r) : CallM Tryz.prog 13 [.sl (code.map cB8)] [] (vb r) [] := by
  replace H := H0 H
  unfold m_laws_FnKept at H
  refine callM_of Tryz.func13 rfl Tryz.ntmps13 Tryz.results13 fun Q hQ hQn => ?_
  exact wk3
instance (code : List YB8) : CT Tryz.prog (m_laws_FnKept code) := ⟨13, [.sl (code.map cB8)], [], fun r => vb r, fun r => [], ok_laws_FnKept code⟩
end Go.Proofs.YtmcdjilbkmhfoaaGreat
namespace Go.Proofs.YtmcdjilbkmhfoaaGreat
set_option maxRecDepth 10000
open Go.RowKit
set_option linter.unusedVariables false
set_option linter.unusedSimpArgs false
def newW (n : YNetwork) (s : List Int) : YWorld := ⟨n, [], [], [], 0, [], s, 0⟩
theorem newFit {n : YNetwork} {s : List Int} (h : NetFit n) (hs : s.length ≤ 1048576) : WFit (newW n s) := ⟨h, by simp [newW], by simp [newW], by simp [newW], by simp [newW], hs, by simp [newW]⟩
def zeroW : YWorld := ⟨⟨[], [], 0⟩, [], [], [], 0, [], [], 0⟩
def newR (n : YNetwork) (s : List Int) : YWorld × Bool := if worldV (newW n s) then (newW n s, true) else (zeroW, false)
theorem specNew_o {n : YNetwork} {s : List Int} (h : NetFit n) (hs : s.length ≤ 1048576) : m_q_spec_NewWorld n s = some (newR n s) := by
  have e : m_o_spec_NewWorld n s = some (newR n s) := by
    unfold m_o_spec_NewWorld newR
    show (m_o_spec_l10Copy (newW n s)).bind _ = _
    rw [copyW_s (newFit h hs), Option.bind_some, spec_world (newFit h hs), Option.bind_some]
    cases worldV (newW n s) <;> rfl
  unfold m_q_spec_NewWorld
  rw [e, Option.bind_some]
  unfold newR
  cases worldV (newW n s) <;> rfl
theorem implNew_o {n : YNetwork} {s : List Int} (h : NetFit n) (hs : s.length ≤ 1048576) : m_o_impl_NewWorld n s = some (newR n s) := by
  unfold m_o_impl_NewWorld newR
  rw [copyNet_i h, Option.bind_some]
  simp only [List.length_nil, chk0 hs (show 8 ≤ 1024 by omega), Option.bind_some, List.nil_append]
  show (m_impl_IsWorld (newW n s)).bind _ = _
  rw [impl_world (newFit h hs), Option.bind_some]
  cases worldV (newW n s) <;> rfl
theorem trips_t {l : List YTrip} (hl : l.length ≤ 1048576) : m_laws_trips l l = some true := same_t (F := m_laws_trips) (B := m_laws_trips_b0) (fun _ _ => rfl) (fun _ _ _ => rfl) hl
theorem at_v {code : List YB8} (hb : ∀ x ∈ code, 0 ≤ x.v ∧ x.v ≤ 255) : ∃ y, m_laws_at code 1 = some y ∧ 0 ≤ y ∧ y ≤ 255 := by
  unfold m_laws_at
  by_cases h : (code.length : Int) ≤ 1
  · exact ⟨0, by rw [decide_eq_true h]; rfl, by omega, by omega⟩
  · rw [decide_eq_false h]
    obtain ⟨x, hx, hm⟩ := len_in (xs := code) (i := 1) ⟨by omega, by omega⟩
    have := hb x hm
    refine ⟨x.v, ?_, this⟩
    rw [cond_false, hx, Option.bind_some]
    exact congrArg some (w64_in (by omega))
theorem late_one {w : YWorld} (h : WOk w) {o : YOrder} (ho : w.orders = [o]) (h3 : o.state = 3) (hd : o.ended ≤ o.due) : m_impl_LateOrders w = some [] := by
  have e : iterF (m_impl_LateOrders_b0 w) NN (0, ([] : List Int)) = some [] := by
    refine iter_st0 (body := m_impl_LateOrders_b0 w) (fun i : Nat => ((i : Int), ([] : List Int))) (n := 1) (o := []) (fun i hi => ?_) ?_ NN (by unfold NN; omega)
    · obtain rfl : i = 0 := by omega
      have hg : getI w.orders ((0 : Nat) : Int) = some o := by rw [ho]; rfl
      unfold m_impl_LateOrders_b0
      simp only [ho, List.length_cons, List.length_nil]
      rw [← ho, hg]
      simp only [Option.bind_some, decide_eq_true h3, cond_true, decide_eq_false (show ¬ o.due < o.ended by omega), cond_false, Bool.not_true]
      rfl
    · unfold m_impl_LateOrders_b0
      simp only [ho, List.length_cons, List.length_nil]
      rfl
  unfold m_impl_LateOrders
  rw [impl_world h.fit, h.ok, Option.bind_some, e]
  rfl
theorem kept (code : List YB8) (hb : ∀ x ∈ code, 0 ≤ x.v ∧ x.v ≤ 255) : m_laws_FnKept code = some true := by
  unfold m_laws_FnKept m_laws_big
  rw [Option.bind_some]
  by_cases hbig : 4096 < (code.length : Int)
  · rw [decide_eq_true hbig]; rfl
  rw [decide_eq_false hbig, cond_false]
  obtain ⟨⟨n, from_, to_, when_⟩, e, hS⟩ := drawFind_tot (code := code) (by omega) hb
  simp only at hS
  have hf := hS.fit
  rw [e, Option.bind_some]
  simp only
  rw [implNew_o hf (by simp), specNew_o hf (by simp)]
  simp only [Option.bind_some]
  have hbq : ((newR n [2, 3]).2 == (newR n [2, 3]).2) = true := by cases (newR n [2, 3]).2 <;> rfl
  rw [hbq, Bool.not_true, cond_false]
  unfold newR
  cases hv : worldV (newW n [2, 3]) with
  | false => rfl
  | true =>
  simp only [if_true, Bool.not_true, cond_false]
  by_cases h0 : when_ < 0
  · rw [decide_eq_true h0]; rfl
  rw [decide_eq_false h0, cond_false]
  by_cases h1 : 100000 ≤ when_
  · rw [decide_eq_true h1]; rfl
  rw [decide_eq_false h1, cond_false]
  have hW : WOk (newW n [2, 3]) := ⟨newFit hf (by simp), hv⟩
  have hn : m_spec_IsNetwork n = some true := hW.net
  have hll := hf.legs
  have hloop : iterF (m_laws_FnKept_b0 code (n, from_, to_, when_) (newW n [2, 3], true)) NN 0 = some (if (n.legs.any fun y => decide (y.room < 1)) = true then (Sum.inr true : Unit ⊕ Bool) else Sum.inl ()) := by
    refine iter_find (xs := n.legs) (p := fun y => decide (y.room < 1)) (r := (Sum.inr true : Unit ⊕ Bool)) (e := Sum.inl ()) (fun i hi => ?_) (by unfold m_laws_FnKept_b0; simp) (by unfold NN; omega)
    have hg : getI n.legs (i : Int) = some n.legs[i] := by rw [getI_nat]; exact List.getElem?_eq_getElem hi
    unfold m_laws_FnKept_b0
    simp only [decide_eq_true (show (i : Int) < (n.legs.length : Int) by omega), cond_true, hg, Option.bind_some, w64_nat hi (by omega)]
    cases decide (n.legs[i].room < 1) <;> rfl
  rw [hloop]
  cases hany : n.legs.any fun y => decide (y.room < 1) with
  | true => rfl
  | false =>
  have hr : ∀ l ∈ n.legs, 1 ≤ l.room := fun l hl => by
    have := List.any_eq_false.1 hany l hl
    simp only [decide_eq_true_iff] at this
    omega
  simp only [Bool.false_eq_true, if_false, Option.bind_some, selim, frz, drwL]
  have ha := advance_i hW.fit when_
  rw [if_pos ⟨hv, by simp only [newW]; omega, by omega⟩] at ha
  obtain ⟨a1, a2, _⟩ := adv_ok hW (u := when_) (by simp only [newW]; omega) (by omega)
  have hnow : (advV (newW n [2, 3]) when_).now = when_ := rfl
  have ha' : m_impl_AdvanceTo ⟨(newW n [2, 3]).network, [], [], [], (newW n [2, 3]).now, [], (newW n [2, 3]).skip, (newW n [2, 3]).made⟩ when_ = some (advV (newW n [2, 3]) when_) := ha
  rw [ha', Option.bind_some]
  obtain ⟨y7, e7, y70, y71⟩ := at_v hb
  rw [e7, Option.bind_some]
  have hm0 := Int.tmod_nonneg 3 y70
  have hm1 := Int.tmod_lt_of_pos y7 (show (0 : Int) < 3 by omega)
  generalize hsv : Int.tmod y7 3 = sv at hm0 hm1 ⊢
  have hws : w64 (1 + sv) = 1 + sv := w64_in (by omega)
  have hww : w64 (when_ + 1) = when_ + 1 := w64_in (by omega)
  rw [hws, hww]
  have o1 : (advV (newW n [2, 3]) when_).orders = [] := List.length_eq_zero_iff.1 a2.len
  have o2 : (advV (newW n [2, 3]) when_).bookings = [] := a2.bookings
  have o3 : (advV (newW n [2, 3]) when_).closed = [] := a2.closed
  have o4 : (advV (newW n [2, 3]) when_).network = n := a2.network
  generalize hw1 : advV (newW n [2, 3]) when_ = w1 at *
  have hprom : ∀ way, m_spec_FindRoom n [] [] from_ to_ (when_ + 1) 1 = some (way, true) → ∃ e, WayR n [] [] 1 from_ to_ (when_ + 1) way ∧ 0 ≤ e ∧ e ≤ 100000 ∧ (way = [] ∨ ∃ t, way.getLast? = some t ∧ endsV n t = e) ∧ m_impl_PromiseOf n (1 + sv) from_ to_ (when_ + 1) = some (dueV e (1 + sv)) := fun way hway => by
    have hR := room_spec hf (by simp) (by simp) hway
    obtain ⟨e, q1, q2, q3, q4⟩ := hR.best
    refine ⟨e, hR, q2, q3, ?_, promise_of (earliest_v hf hn hr hR.hC.2.1 hR.hC.2.2.1 hR.hto q1) q2 q3 (by omega)⟩
    rcases q4 with ⟨q4, _⟩ | q4
    · exact .inl q4
    · exact .inr q4
  have hacc := accept_i a1 from_ to_ (1 + sv) 1 (by
    rw [o4, o2, o3, hnow]
    intro way hway _
    obtain ⟨e, _, e0, e1, _, e2⟩ := hprom way hway
    have := due_ok (service := 1 + sv) e0 e1
    exact ⟨_, e2, by omega, this.2⟩)
  obtain ⟨y8, e8, hy8⟩ := hacc
  rw [e8, Option.bind_some, findWay_eq1 hf hn hr]
  obtain ⟨y9, e9, e9s⟩ := findRoom_both hf (l := []) (by simp) (closed := []) (by simp) from_ to_ (when_ + 1) 1
  rw [e9, Option.bind_some]
  rcases hy8 with ⟨rfl, hR⟩ | ⟨way, ys, due, hT⟩
  · simp only [Bool.not_false, cond_true]
    unfold Refused at hR
    rw [o1, o2, o3, o4, hnow] at hR
    rcases hR with hR | hR | hR | hR | ⟨x, hR⟩ | ⟨way, l, hR, hB⟩
    · simp at hR
    · rw [decide_eq_true hR]; cases y9.2 <;> rfl
    · exact absurd (show 1 ≤ 1 + sv ∧ 1 + sv ≤ 3 by omega) hR
    · exact absurd (show (1 : Int) ≤ 1 ∧ (1 : Int) ≤ 30000 by omega) hR
    · rw [e9s] at hR
      obtain rfl := Option.some.inj hR
      rfl
    · exfalso
      obtain ⟨_, hW2, _⟩ := hprom way hR
      obtain ⟨d, d1, d2⟩ := srt_ex (newsB 1 1 way) (by unfold newsB; rw [List.length_map]; have := hW2.len; omega)
      have hnd : way.Nodup := by
        have h1 := (List.nodup_cons.1 hW2.nodup).2
        unfold List.Nodup at h1 ⊢
        rw [List.pairwise_map] at h1
        exact h1.imp fun h e => h (by rw [e])
      have hbo := book_one hf hn hr hnd hW2.len (chain_trip hW2.chain) d1 d2
      have hsp := book_spec hf (l := []) (by simp) 1 1 (way := way) (d := d) (by simpa using d1) d2
      rw [if_pos ⟨books_nil hf hn hr, hW2.len, hbo⟩] at hsp
      have hB' : m_spec_BookWay n [] 1 1 way = some (l, false) := hB
      rw [hsp] at hB'
      cases hB'
  · have hroom := hT.room
    have hprm := hT.prom
    have hres := hT.res
    have hok2 := hT.ok
    have hne := hT.ne
    rw [o2, o3, o4, hnow] at hroom
    rw [o4, hnow] at hprm
    rw [e9s] at hroom
    obtain rfl := Option.some.inj hroom
    obtain ⟨e, hW2, e0, e1, e2, e3⟩ := hprom way e9s
    rw [e3] at hprm
    obtain rfl := Option.some.inj hprm
    have hdue := due_ok (service := 1 + sv) e0 e1
    subst hres
    generalize hdv : dueV e (1 + sv) = due at *
    have hord : (accV w1 (newO w1 from_ to_ (1 + sv) 1 due way) ys).orders = [newO w1 from_ to_ (1 + sv) 1 due way] := by
      show w1.orders ++ [newO w1 from_ to_ (1 + sv) 1 due way] = _
      rw [o1]; rfl
    have hnet2 : (accV w1 (newO w1 from_ to_ (1 + sv) 1 due way) ys).network = n := o4
    have hnw2 : (accV w1 (newO w1 from_ to_ (1 + sv) 1 due way) ys).now = when_ := hnow
    have hb2 := advance_i hok2.fit 100000
    rw [if_pos ⟨hok2.ok, by rw [hnw2]; omega, by omega⟩] at hb2
    obtain ⟨b1, b2, b3⟩ := adv_ok hok2 (u := 100000) (by rw [hnw2]; omega) (by omega)
    generalize hw2 : accV w1 (newO w1 from_ to_ (1 + sv) 1 due way) ys = w2 at *
    generalize hw3 : advV w2 100000 = w3 at *
    have hnx : nextV w3 < 0 := by
      rcases b3 with b3 | b3
      · exact b3
      · rcases next_spec b1 with ⟨k, _⟩ | ⟨_, k, _⟩ <;> omega
    have hl3 : w3.orders.length = 1 := by rw [b2.len, hord]; rfl
    obtain ⟨o', ho'⟩ : ∃ o', w3.orders = [o'] := List.length_eq_one_iff.1 hl3
    have hs := b2.ord 0 (newO w1 from_ to_ (1 + sv) 1 due way) o' (by rw [hord]; rfl) (by rw [ho']; rfl)
    have hg3 : w3.orders[0]? = some o' := by rw [ho']; rfl
    obtain ⟨q1, _⟩ := after_all b1 hnx hg3
    obtain ⟨t, ht1, ht2, ht3⟩ : ∃ t, way.getLast? = some t ∧ endsV n t = e ∧ legTo n t = to_ := by
      rcases e2 with rfl | ⟨t, t1, t2⟩
      · exact absurd (by have := hW2.last; simpa using this) hne
      · refine ⟨t, t1, t2, ?_⟩
        have := hW2.last
        cases way with
        | nil => simp at t1
        | cons x xs =>
          rw [List.map_cons, List.getLast?_cons_cons, ← List.map_cons, List.getLast?_map, t1] at this
          exact Option.some.inj this
    have hway : o'.way = way := hs.way
    have hto' : o'.to_ = to_ := hs.to_
    have hdue' : o'.due = due := hs.due
    have hn3 : w3.network = n := by rw [b2.network, hnet2]
    have hend : endTo w3.network o' = true := by
      unfold endTo
      rw [hway, ht1, hn3, hto']
      exact decide_eq_true ht3
    obtain ⟨s1, s2, s3⟩ := q1 hend
    have hpl : planV w3.network o' = e := by
      unfold planV
      rw [if_pos hend, hway, ht1, hn3]
      exact ht2
    rw [hpl] at s3
    have hlate := late_one b1 ho' s1 (by rw [s3, hdue']; exact hdue.1)
    have hgo : getI w2.orders 0 = some (newO w1 from_ to_ (1 + sv) 1 due way) := by rw [hord]; rfl
    have hgo3 : getI w3.orders 0 = some o' := by rw [ho']; rfl
    have hlw := hW2.len
    have htr : m_laws_trips (newO w1 from_ to_ (1 + sv) 1 due way).way way = some true := trips_t (show way.length ≤ 1048576 by omega)
    have hid : decide ((w1.orders.length : Int) + 1 = 1) = true := by rw [o1]; rfl
    simp only [Bool.not_true, cond_false, hb2, Option.bind_some, hid, cond_true, hgo, htr, hgo3, decide_eq_true s1, decide_eq_true (show o'.ended ≤ o'.due by rw [s3, hdue']; exact hdue.1), hlate]
    rfl
end Go.Proofs.YtmcdjilbkmhfoaaGreat
