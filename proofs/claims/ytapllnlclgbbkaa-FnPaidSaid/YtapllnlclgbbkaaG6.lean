import Derived.Test.YtapllnlclgbbkaaG5
namespace Go.Proofs.Ytapllnlclgbbkaa
set_option maxRecDepth 10000
open Go.RowKit
theorem Cur.kept {w w' : World} {g : Nat} {xs : List By} {r : Option Nat} (h : Cur w g xs) (hg : w.grownBy w' r) (hr : ∀ k, r = some k → g < k) : Cur w' g xs := by
  obtain ⟨A, c, i, x, k⟩ := h
  have hlt := k.lt
  refine ⟨A, c, i, x, ⟨(hg.block g hlt (fun e => by have := hr g e.symm; omega)).trans k.heap, k.i1, k.rd.keep fun b o hb => ?_, k.ok, k.len⟩⟩
  simp only [World.cell?]
  rw [hg.block b (Nat.lt_trans hb hlt) (fun e => by have := hr b e.symm; omega)]
theorem grown_new {a b c : World} {r s : Option Nat} (h : a.grownBy b r) (k : b.grownBy c s) (hs : ∀ p, s = some p → a.heap.size ≤ p) : a.grownBy c r :=
  ⟨k.os.trans h.os, k.tape.trans h.tape, k.output.trans h.output, Nat.le_trans h.size k.size, fun i hi hr => (k.block i (Nat.lt_of_lt_of_le hi h.size) (fun e => by have := hs i e.symm; omega)).trans (h.block i hi hr)⟩
theorem flat_set {α : Type} [Enc α] {x x' : α} {u : Value} {j : Nat} (hj : j < Enc.k α) (he : Enc.cells x' = (Enc.cells x).set j u) : ∀ {xs : List α} {i : Nat}, xs[i]? = some x → flat (xs.set i x') = (flat xs).set (i * Enc.k α + j) u
  | [], i, h => by simp at h
  | y :: ys, 0, h => by
    obtain rfl : y = x := by simpa using h
    rw [List.set_cons_zero, flat_cons, flat_cons, he, Nat.zero_mul, Nat.zero_add, List.set_append_left _ _ (by rw [Enc.len]; exact hj)]
  | y :: ys, i + 1, h => by
    have ih := flat_set hj he (xs := ys) (i := i) (by simpa using h)
    rw [List.set_cons_succ, flat_cons, flat_cons, ih, List.set_append_right _ _ (by rw [Enc.len, Nat.succ_mul]; omega)]
    congr 2
    rw [Enc.len, Nat.succ_mul]
    omega
theorem own_set {w : World} {B E p n c k : Nat} {xs : List Ln} {x : Ln} (ho : Own w B E (.slice (some ⟨p, 0, none⟩) n c) xs) (hn : n = xs.length) (hx : xs[k]? = some x) (j : Nat) (hj : j < 4) (v : Int) :
    ∃ ys : List Ln, ys.length = xs.length ∧ Own (w.setCell ⟨p, k * 4 + j, none⟩ (.int .i64 v)) B E (.slice (some ⟨p, 0, none⟩) n c) ys := by
  subst hn
  have key : ∀ x' : Ln, Enc.cells x' = (Enc.cells x).set j (I v) → ∃ ys : List Ln, ys.length = xs.length ∧ Own (w.setCell ⟨p, k * 4 + j, none⟩ (.int .i64 v)) B E (.slice (some ⟨p, 0, none⟩) xs.length c) ys := by
    intro x' he
    refine ⟨xs.set k x', by simp, ?_⟩
    have h1 := (World.ownsRow.stored ho (k * 4 + j) (I v)).1
    unfold Own
    rw [List.length_set, flat_set (show j < Enc.k Ln from hj) he hx]
    exact h1
  match j, hj with
  | 0, _ => exact key ⟨v, x.k, x.a, x.t⟩ rfl
  | 1, _ => exact key ⟨x.o, v, x.a, x.t⟩ rfl
  | 2, _ => exact key ⟨x.o, x.k, v, x.t⟩ rfl
  | 3, _ => exact key ⟨x.o, x.k, x.a, v⟩ rfl
theorem flat_drop {α : Type} [Enc α] : ∀ (xs : List α) (n : Nat), flat (xs.drop n) = (flat xs).drop (n * Enc.k α)
  | xs, 0 => by simp
  | [], n + 1 => by simp [flat]
  | x :: xs, n + 1 => by
    have hl := Enc.len (α := α) x
    rw [List.drop_succ_cons, flat_drop xs n, flat_cons, List.drop_append, List.drop_of_length_le (l := Enc.cells x) (by rw [hl, Nat.succ_mul]; omega), List.nil_append, hl]
    congr 1
    rw [Nat.succ_mul]
    omega
theorem Rd.dropk {α : Type} [Enc α] {w : World} {B g o : Nat} {xs : List α} (h : Rd w B (some ⟨g, o, none⟩) xs) (n : Nat) : Rd w B (some ⟨g, o + n * Enc.k α, none⟩) (xs.drop n) := fun hn => by
  obtain ⟨b, off, e, hb, hc⟩ := h (by rintro rfl; simp at hn)
  obtain ⟨rfl, rfl⟩ : g = b ∧ o = off := by simpa using e
  refine ⟨g, o + n * Enc.k α, rfl, hb, fun j u hu => ?_⟩
  rw [flat_drop, List.getElem?_drop] at hu
  rw [Nat.add_assoc]
  exact hc _ u hu
theorem Own.takek {α : Type} [Enc α] {w : World} {B E p n c : Nat} {xs : List α} (h : Own w B E (.slice (some ⟨p, 0, none⟩) n c) xs) (k : Nat) (hk : k ≤ xs.length) : Own w B E (.slice (some ⟨p, 0, none⟩) k c) (xs.take k) := by
  rcases h.2 with ⟨h0, _⟩ | ⟨g, cap, cur, hv, hB, hg, hnc, hcm, hcs, ht⟩
  · cases h0
  · have e1 : (xs.take k).length = k := by simp; omega
    refine ⟨flat_len _, .inr ⟨g, cap, cur, ?_, hB, hg, by omega, hcm, hcs, ?_⟩⟩
    · rw [e1]
      injection hv with h1 h2 h3
      rw [h1, h3]
    · rw [e1, ← flat_take]
      have h2 : cur.toList.take (k * Enc.k α) = (cur.toList.take (xs.length * Enc.k α)).take (k * Enc.k α) := by
        rw [List.take_take, Nat.min_eq_left (Nat.mul_le_mul_right _ hk)]
      rw [h2, ht]
set_option maxHeartbeats 1000000 in
theorem l11Any_any (g : Nat) (cs : List By) (w : World) (hc : Cur w g cs) :
    Calls Try.prog 72 #[.pointer (some ⟨g, 0, none⟩)] w fun e w' => ∃ v, e = .returned v ∧ OwnL w' w.heap.size v 4001 ∧ Cur w' g cs ∧ w.grownBy w' (some g) := by
  have hlt := hc.lt
  go_enter Try.func72, Try.ntmps72
  go_wp2_with fail
  refine (l11Draw_any g cs _ _ hc (by omega)).mono ?_
  rintro e w1 ⟨v1, rfl, ⟨xs, ho, hxl⟩, hc1, hac⟩
  by_cases hx0 : xs.length = 0
  · obtain ⟨A, c, rfl, _, _⟩ := ho.form
    have ho' := ho
    rw [hx0] at ho'
    go_wp2_with fail
    go_ret
    exact ⟨_, rfl, ⟨xs, ho', by omega⟩, hc1, hac⟩
  · obtain ⟨p, c, rfl, hB, hpl⟩ := World.ownsRow.form ho (by omega)
    go_wp2_with fail
    refine (l1Once_any g cs _ _ hc1 (by omega)).mono ?_
    rintro e w2 ⟨x2, rfl, hc2, hg2⟩
    replace ho := own_cur ho hg2 hlt
    replace hac := grown_trans hac hg2
    cases x2
    · go_wp2_with fail
      refine (l1Below_any g cs _ _ hc2 (by omega)).mono ?_
      rintro e w3 ⟨x3, ⟨_, _⟩, rfl, hc3, hg3⟩
      replace ho := own_cur ho hg3 hlt
      replace hac := grown_trans hac hg3
      obtain ⟨k, rfl⟩ : ∃ m : Nat, x3 = m := ⟨x3.toNat, by omega⟩
      have hk : k < xs.length := by omega
      go_wp2_with fail
      refine (l1Below_any g cs _ _ hc3 (by omega)).mono ?_
      rintro e w4 ⟨x4, ⟨_, _⟩, rfl, hc4, hg4⟩
      replace ho := own_cur ho hg4 hlt
      replace hac := grown_trans hac hg4
      obtain ⟨x, hx⟩ := get_of_lt hk
      obtain ⟨_, _, e5, _, d0, d1, d2, d3⟩ := ho.rd.ln hx
      obtain ⟨rfl, rfl⟩ := (by simpa using e5 : p = _ ∧ 0 = _)
      clear e5
      simp only [Nat.zero_add] at d0 d1 d2 d3
      obtain rfl | rfl | rfl | rfl | rfl | rfl : x4 = 0 ∨ x4 = 1 ∨ x4 = 2 ∨ x4 = 3 ∨ x4 = 4 ∨ x4 = 5 := by omega
      · go_wp2_with fail
        refine (l1Int_any g cs _ [0, 1, 100000, 100001, wrap64 (x.a + 1)] _ _ _ rfl (hc4.up (by (repeat (first | exact Up.rfl' _ | (refine Up.al _ ?_) | (refine Up.dr _ ?_) | (refine Up.dr1 ?_) | (refine Up.sc ?_ (by first | exact Nat.le_refl _ | (simp; done) | omega) _) | (refine Up.step (by assumption) ?_))))) (Rd.lit _ (heap_alloc_new _ _)) (by simp) (by simp) (by simp; omega)).mono ?_
        rintro e w5 ⟨x5, _, rfl, hc5, hg5⟩
        replace hg5 : w4.grownBy w5 (some g) := grown_trans (grown_up _ (by (repeat (first | exact Up.rfl' _ | (refine Up.al _ ?_) | (refine Up.dr _ ?_) | (refine Up.dr1 ?_) | (refine Up.sc ?_ (by first | exact Nat.le_refl _ | (simp; done) | omega) _) | (refine Up.step (by assumption) ?_))))) hg5
        replace ho := own_cur ho hg5 hlt
        replace hac := grown_trans hac hg5
        clear d0 d1 d2 d3
        obtain ⟨_, _, e6, _, d0, d1, d2, d3⟩ := ho.rd.ln hx
        obtain ⟨rfl, rfl⟩ := (by simpa using e6 : p = _ ∧ 0 = _)
        clear e6
        simp only [Nat.zero_add] at d0 d1 d2 d3
        have f0 := World.ownsRow.frozenAt ho (k * 4 + 2)
        go_wp2_with fail
        go_ret
        obtain ⟨ys, hyl, hoy⟩ := own_set ho rfl hx 2 (by omega) x5
        exact ⟨_, rfl, ⟨ys, hoy, by omega⟩, hc5.kept (grown_set _ _ _ _) (fun q e => by cases e; omega), grown_new hac (grown_set _ _ _ _) (fun q e => by cases e; omega)⟩
      · go_wp2_with fail
        refine (l1Int_any g cs _ [-1, 0, 100000, 100001] _ _ _ rfl (hc4.up (by (repeat (first | exact Up.rfl' _ | (refine Up.al _ ?_) | (refine Up.dr _ ?_) | (refine Up.dr1 ?_) | (refine Up.sc ?_ (by first | exact Nat.le_refl _ | (simp; done) | omega) _) | (refine Up.step (by assumption) ?_))))) (Rd.lit _ (heap_alloc_new _ _)) (by simp) (by simp) (by simp; omega)).mono ?_
        rintro e w5 ⟨x5, _, rfl, hc5, hg5⟩
        replace hg5 : w4.grownBy w5 (some g) := grown_trans (grown_up _ (by (repeat (first | exact Up.rfl' _ | (refine Up.al _ ?_) | (refine Up.dr _ ?_) | (refine Up.dr1 ?_) | (refine Up.sc ?_ (by first | exact Nat.le_refl _ | (simp; done) | omega) _) | (refine Up.step (by assumption) ?_))))) hg5
        replace ho := own_cur ho hg5 hlt
        replace hac := grown_trans hac hg5
        clear d0 d1 d2 d3
        obtain ⟨_, _, e6, _, d0, d1, d2, d3⟩ := ho.rd.ln hx
        obtain ⟨rfl, rfl⟩ := (by simpa using e6 : p = _ ∧ 0 = _)
        clear e6
        simp only [Nat.zero_add] at d0 d1 d2 d3
        have f0 := World.ownsRow.frozenAt ho (k * 4 + 3)
        go_wp2_with fail
        go_ret
        obtain ⟨ys, hyl, hoy⟩ := own_set ho rfl hx 3 (by omega) x5
        exact ⟨_, rfl, ⟨ys, hoy, by omega⟩, hc5.kept (grown_set _ _ _ _) (fun q e => by cases e; omega), grown_new hac (grown_set _ _ _ _) (fun q e => by cases e; omega)⟩
      · go_wp2_with fail
        refine (l1Below_any g cs _ _ hc4 (by omega)).mono ?_
        rintro e w5 ⟨x5, ⟨_, _⟩, rfl, hc5, hg5⟩
        replace ho := own_cur ho hg5 hlt
        replace hac := grown_trans hac hg5
        clear d0 d1 d2 d3
        obtain ⟨_, _, e6, _, d0, d1, d2, d3⟩ := ho.rd.ln hx
        obtain ⟨rfl, rfl⟩ := (by simpa using e6 : p = _ ∧ 0 = _)
        clear e6
        simp only [Nat.zero_add] at d0 d1 d2 d3
        have f0 := World.ownsRow.frozenAt ho (k * 4 + 1)
        go_wp2_with fail
        go_ret
        obtain ⟨ys, hyl, hoy⟩ := own_set ho rfl hx 1 (by omega) x5
        exact ⟨_, rfl, ⟨ys, hoy, by omega⟩, hc5.kept (grown_set _ _ _ _) (fun q e => by cases e; omega), grown_new hac (grown_set _ _ _ _) (fun q e => by cases e; omega)⟩
      · go_wp2_with fail
        refine (l1Int_any g cs _ [0, 1, 9999, 10000] _ _ _ rfl (hc4.up (by (repeat (first | exact Up.rfl' _ | (refine Up.al _ ?_) | (refine Up.dr _ ?_) | (refine Up.dr1 ?_) | (refine Up.sc ?_ (by first | exact Nat.le_refl _ | (simp; done) | omega) _) | (refine Up.step (by assumption) ?_))))) (Rd.lit _ (heap_alloc_new _ _)) (by simp) (by simp) (by simp; omega)).mono ?_
        rintro e w5 ⟨x5, _, rfl, hc5, hg5⟩
        replace hg5 : w4.grownBy w5 (some g) := grown_trans (grown_up _ (by (repeat (first | exact Up.rfl' _ | (refine Up.al _ ?_) | (refine Up.dr _ ?_) | (refine Up.dr1 ?_) | (refine Up.sc ?_ (by first | exact Nat.le_refl _ | (simp; done) | omega) _) | (refine Up.step (by assumption) ?_))))) hg5
        replace ho := own_cur ho hg5 hlt
        replace hac := grown_trans hac hg5
        clear d0 d1 d2 d3
        obtain ⟨_, _, e6, _, d0, d1, d2, d3⟩ := ho.rd.ln hx
        obtain ⟨rfl, rfl⟩ := (by simpa using e6 : p = _ ∧ 0 = _)
        clear e6
        simp only [Nat.zero_add] at d0 d1 d2 d3
        have f0 := World.ownsRow.frozenAt ho (k * 4 + 0)
        rw [Nat.add_zero] at f0
        go_wp2_with fail
        go_ret
        obtain ⟨ys, hyl, hoy⟩ := own_set ho rfl hx 0 (by omega) x5
        exact ⟨_, rfl, ⟨ys, hoy, by omega⟩, hc5.kept (grown_set _ _ _ _) (fun q e => by cases e; omega), grown_new hac (grown_set _ _ _ _) (fun q e => by cases e; omega)⟩
      · go_wp2_with (at_builtin; go_must (refine wpList_append_rd el_line rfl (.tmp 72) (.tmp 77) rfl (base := w.heap.size) (ys := xs) (xs := [x]) (by rfl) (ho.up (by (repeat (first | exact Up.rfl' _ | (refine Up.al _ ?_) | (refine Up.dr _ ?_) | (refine Up.dr1 ?_) | (refine Up.sc ?_ (by first | exact Nat.le_refl _ | (simp; done) | omega) _) | (refine Up.step (by assumption) ?_))))) 1 (by rfl) rfl (Rd.oneAt _ _ x _ (by simp)) (by simp; omega) (by unfold maxLen; simp; omega) (by have h_ := hac.size; simp; omega) ?_); intro v5 w5 ho5 hg5 _ _)
        go_ret
        exact ⟨_, rfl, ⟨_, ho5, by simp; omega⟩, (hc4.up (by (repeat (first | exact Up.rfl' _ | (refine Up.al _ ?_) | (refine Up.dr _ ?_) | (refine Up.dr1 ?_) | (refine Up.sc ?_ (by first | exact Nat.le_refl _ | (simp; done) | omega) _) | (refine Up.step (by assumption) ?_))))).kept hg5 (fun q e => by have h_ : p = q := (by simpa [Value.ownBlock] using e); omega), grown_new (grown_trans hac (grown_up _ (by (repeat (first | exact Up.rfl' _ | (refine Up.al _ ?_) | (refine Up.dr _ ?_) | (refine Up.dr1 ?_) | (refine Up.sc ?_ (by first | exact Nat.le_refl _ | (simp; done) | omega) _) | (refine Up.step (by assumption) ?_)))))) hg5 (fun q e => by have h_ : p = q := (by simpa [Value.ownBlock] using e); omega)⟩
      · obtain ⟨A9, c9, e3, hc8, hc9⟩ := ho.form
        have e4 : c = c9 := by injection e3
        subst e4
        clear e3
        have q0 : (0 : Int) ≤ (k : Int) := by omega
        have q1 : (k : Int) ≤ (c : Int) := by omega
        have q2 : (k : Int) + 1 ≤ (xs.length : Int) := by omega
        have q3 : (xs.length : Int) ≤ (c : Int) := by omega
        have q4 : (0 : Int) ≤ (k : Int) + 1 := by omega
        have hp := ho.takek k (by omega)
        have hlk : (xs.take k).length = k := by simp; omega
        have fin : ∀ (v5 : Value) (w5 : World), Own w5 w.heap.size 25 v5 (xs.take k ++ xs.drop (k + 1)) → w4.grownBy w5 (Value.slice (some ⟨p, 0, none⟩) k c).ownBlock → OwnL w5 w.heap.size v5 4001 ∧ Cur w5 g cs ∧ w.grownBy w5 (some g) := fun v5 w5 ho5 hg5 =>
          ⟨⟨_, ho5, by simp; omega⟩, hc4.kept hg5 (fun q e => by have h_ : p = q := (by simpa [Value.ownBlock] using e); omega), grown_new hac hg5 (fun q e => by have h_ : p = q := (by simpa [Value.ownBlock] using e); omega)⟩
        have hod := ho.rd.dropk (k + 1)
        rw [Nat.zero_add] at hod
        have z1 : (k : Int) ≤ (k : Int) + 1 := by omega
        have z4 : wrap64 ((k : Int) + 1) = (k : Int) + 1 := IntWalk.wrap64_in _ ⟨by omega, by omega⟩
        clear hc9 hpl
        have z3 : IntKind.i64.wrap ((k : Int) + 1) = (k : Int) + 1 := IntWalk.i64_in _ ⟨by omega, by omega⟩
        have hp4 : 0 ≤ p := Nat.zero_le _
        by_cases q5 : c = k + 1
        · have hd : xs.drop (k + 1) = [] := List.drop_of_length_le (Nat.le_trans (by omega : xs.length ≤ c) (Nat.le_of_eq q5))
          subst q5
          go_wp2_with fail
          have y1 : (xs.length : Int) ≤ (k : Int) + 1 := by omega
          have y2 : (0 : Int) ≤ (xs.length : Int) := by omega
          have y3 : ((k : Int) + 1).toNat = k + 1 := by omega
          have y4 : xs.length - (k + 1) = 0 := by omega
          have y5 : ¬ ((k : Int) + 1 < 0) := by omega
          have y6 : ¬ ((xs.length : Int) < (k : Int) + 1) := by omega
          go_region_held3 (fun w' => True) (first | go_keep | exact trivial)
            (first | (refine step_append_rd el_line (by rfl) (.tmp 23) (.tmp 27) (by rfl) (base := w.heap.size) (ys := xs.take k) (xs := ([] : List Ln)) (A := some ⟨p, 0, none⟩) (by rfl) (hp.up (by (repeat (first | exact Up.rfl' _ | (refine Up.al _ ?_) | (refine Up.dr _ ?_) | (refine Up.dr1 ?_) | (refine Up.sc ?_ (by first | exact Nat.le_refl _ | (simp; done) | omega) _) | (refine Up.step (by assumption) ?_))))) 0 (by rfl) rfl (Rd.nil_ (B := 0)) (by simp; omega) (by unfold maxLen; simp; omega) (by have h_ := hac.size; simp; omega) ?_; intro v5 w5 ho5 hg5 _ _))
          all_goals go_wp2
          all_goals go_ret
          all_goals
            rw [hd] at fin
            obtain ⟨f1, f2, f3⟩ := fin v5 w5 ho5 ⟨hg5.os, hg5.tape, hg5.output, hg5.size, hg5.block⟩
            exact ⟨_, rfl, f1, f2, f3⟩
        · have hlc : k + 1 < c := by omega
          have q5' : ¬ (c = k + 1) := q5
          go_wp2_with fail
          go_region_held3 (fun w' => True) (first | go_keep | exact trivial)
            (first | (refine step_append_rd el_line (by rfl) (.tmp 23) (.tmp 27) (by rfl) (base := w.heap.size) (ys := xs.take k) (xs := xs.drop (k + 1)) (by rfl) (hp.up (by (repeat (first | exact Up.rfl' _ | (refine Up.al _ ?_) | (refine Up.dr _ ?_) | (refine Up.dr1 ?_) | (refine Up.sc ?_ (by first | exact Nat.le_refl _ | (simp; done) | omega) _) | (refine Up.step (by assumption) ?_))))) (xs.length - (k + 1)) (by rfl) (by simp) (hod.up (by (repeat (first | exact Up.rfl' _ | (refine Up.al _ ?_) | (refine Up.dr _ ?_) | (refine Up.dr1 ?_) | (refine Up.sc ?_ (by first | exact Nat.le_refl _ | (simp; done) | omega) _) | (refine Up.step (by assumption) ?_))))) (by simp; omega) (by unfold maxLen; simp; omega) (by have h_ := hac.size; simp; omega) ?_; intro v5 w5 ho5 hg5 _ _))
          all_goals go_wp2
          all_goals go_ret
          all_goals
            obtain ⟨f1, f2, f3⟩ := fin v5 w5 ho5 ⟨hg5.os, hg5.tape, hg5.output, hg5.size, hg5.block⟩
            exact ⟨_, rfl, f1, f2, f3⟩
    · go_wp2_with fail
      go_ret
      exact ⟨_, rfl, ⟨xs, ho, by omega⟩, hc2, hac⟩
end Go.Proofs.Ytapllnlclgbbkaa
