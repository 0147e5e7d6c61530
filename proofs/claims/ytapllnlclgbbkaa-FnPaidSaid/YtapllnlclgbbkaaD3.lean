import Derived.Test.YtapllnlclgbbkaaD1
import Derived.Test.YtapllnlclgbbkaaD2
import Derived.Test.YtapllnlclgbbkaaApp
namespace Go.Proofs.Ytapllnlclgbbkaa
set_option maxRecDepth 10000
open Go.RowKit
theorem el_line : ElT Try.prog 37 25 (Enc.k Ln) 32 := ElT.mk' Try.underlying37 info_implLine rfl
theorem areLines_impl_n (A : Option Addr) (xs : List Ln) (n c : Nat) (w : World) (hr : Rd w w.heap.size A xs) (hl : n = xs.length) (hc : xs.length ≤ c) (hn : n ≤ 2000000)
  : Calls Try.prog 40 #[.slice A n c] w fun e w' => e = .returned (.bool (linesB xs)) ∧ Up w w' := by
  subst hl; exact areLines_impl A xs c w hr hc hn
theorem areLines_spec_n (A : Option Addr) (xs : List Ln) (n c : Nat) (w : World) (hr : Rd w w.heap.size A xs) (hl : n = xs.length) (hc : xs.length ≤ c) (hn : n ≤ 2000000)
  : Calls Try.prog 39 #[.slice A n c] w fun e w' => e = .returned (.bool (linesB xs)) ∧ Up w w' := by
  subst hl; exact areLines_spec A xs c w hr hc hn
theorem copyLines_any (A : Option Addr) (xs : List Ln) (n c : Nat) (w : World) (hr : Rd w w.heap.size A xs) (hl : n = xs.length) (hn : n ≤ 2000000) :
    Calls Try.prog 70 #[.slice A n c] w fun e w' => ∃ v, e = .returned v ∧ Own w' w.heap.size 25 v xs ∧ Up w w' := by
  go_enter Try.func70, Try.ntmps70
  go_wp2_with (at_builtin; refine wpList_append_rd el_line rfl (.tmp 3) (.tmp 4) rfl (base := w.heap.size) (ys := []) (by rfl) (Own.empty w _ _ 0 _ (Nat.le_refl _) (by unfold maxLen; omega) rfl) n (by rfl) hl (hr.up (by (repeat (first | exact Up.rfl' _ | (refine Up.al _ ?_) | (refine Up.dr _ ?_) | (refine Up.dr1 ?_) | (refine Up.sc ?_ (by first | exact Nat.le_refl _ | (simp; done) | omega) _) | (refine Up.step (by assumption) ?_))))) (by simp; omega) (by unfold maxLen; simp; omega) (by first | (simp; done) | (simp; omega) | (have h_ := hB.size; omega) | (have h_ := hB.size; simp; omega)) ?_; intro v' w1 ho1 hg1 _ hu1)
  go_ret
  exact ⟨v', rfl, by simpa using ho1, hu1 _ (Nat.le_refl _) (by (repeat (first | exact Up.rfl' _ | (refine Up.al _ ?_) | (refine Up.dr _ ?_) | (refine Up.dr1 ?_) | (refine Up.sc ?_ (by first | exact Nat.le_refl _ | (simp; done) | omega) _) | (refine Up.step (by assumption) ?_))))⟩
theorem l11Copy_any (A : Option Addr) (xs : List Ln) (n c : Nat) (w : World) (hr : Rd w w.heap.size A xs) (hl : n = xs.length) (hn : n ≤ 2000000) :
    Calls Try.prog 68 #[.slice A n c] w fun e w' => ∃ v, e = .returned v ∧ Own w' w.heap.size 25 v xs ∧ Up w w' := by
  go_enter Try.func68, Try.ntmps68
  go_wp2_with (at_builtin; refine wpList_append_rd el_line rfl (.tmp 3) (.tmp 4) rfl (base := w.heap.size) (ys := []) (by rfl) (Own.empty w _ _ 0 _ (Nat.le_refl _) (by unfold maxLen; omega) rfl) n (by rfl) hl (hr.up (by (repeat (first | exact Up.rfl' _ | (refine Up.al _ ?_) | (refine Up.dr _ ?_) | (refine Up.dr1 ?_) | (refine Up.sc ?_ (by first | exact Nat.le_refl _ | (simp; done) | omega) _) | (refine Up.step (by assumption) ?_))))) (by simp; omega) (by unfold maxLen; simp; omega) (by first | (simp; done) | (simp; omega) | (have h_ := hB.size; omega) | (have h_ := hB.size; simp; omega)) ?_; intro v' w1 ho1 hg1 _ hu1)
  go_ret
  exact ⟨v', rfl, by simpa using ho1, hu1 _ (Nat.le_refl _) (by (repeat (first | exact Up.rfl' _ | (refine Up.al _ ?_) | (refine Up.dr _ ?_) | (refine Up.dr1 ?_) | (refine Up.sc ?_ (by first | exact Nat.le_refl _ | (simp; done) | omega) _) | (refine Up.step (by assumption) ?_))))⟩
theorem owedFor_impl (A : Option Addr) (xs : List Ln) (n c : Nat) (o : Int) (w : World) (hr : Rd w w.heap.size A xs) (hl : n = xs.length) (hc : xs.length ≤ c) (hn : n ≤ 2000000) :
    Calls Try.prog 42 #[.slice A n c, .int .i64 o] w fun e w' => e = .returned (.int .i64 (owedV xs o)) ∧ Up w w' := by
  subst hl
  cases hL : linesB xs with
  | false =>
    have HR := Lib.hid (owedV_no (o := o) hL)
    go_enter Try.func42, Try.ntmps42
    go_wp2_with (go_at_call 40; refine (areLines_impl _ xs _ _ hr hc hn).mono ?_; rintro e w1 ⟨rfl, hb1⟩)
    go_ret
    exact ⟨reti HR.out.symm, by (repeat (first | exact Up.rfl' _ | (refine Up.al _ ?_) | (refine Up.dr _ ?_) | (refine Up.dr1 ?_) | (refine Up.sc ?_ (by first | exact Nat.le_refl _ | (simp; done) | omega) _) | (refine Up.step (by assumption) ?_)))⟩
  | true =>
    have HR := Lib.hid (owedV_ok (o := o) hL)
    go_enter Try.func42, Try.ntmps42
    go_wp2_with (first
      | (go_at_call 40; refine (areLines_impl _ xs _ _ hr hc hn).mono ?_; rintro e w1 ⟨rfl, hb1⟩)
      | (go_at_call 30; refine (sumOf_impl _ xs _ _ _ _ (hr.up (by (repeat (first | exact Up.rfl' _ | (refine Up.al _ ?_) | (refine Up.dr _ ?_) | (refine Up.dr1 ?_) | (refine Up.sc ?_ (by first | exact Nat.le_refl _ | (simp; done) | omega) _) | (refine Up.step (by assumption) ?_))))) hn).mono ?_; rintro e w1 ⟨rfl, hb1⟩))
    go_ret
    exact ⟨reti HR.out.symm, by (repeat (first | exact Up.rfl' _ | (refine Up.al _ ?_) | (refine Up.dr _ ?_) | (refine Up.dr1 ?_) | (refine Up.sc ?_ (by first | exact Nat.le_refl _ | (simp; done) | omega) _) | (refine Up.step (by assumption) ?_)))⟩
theorem owedFor_spec (A : Option Addr) (xs : List Ln) (n c : Nat) (o : Int) (w : World) (hr : Rd w w.heap.size A xs) (hl : n = xs.length) (hc : xs.length ≤ c) (hn : n ≤ 2000000) :
    Calls Try.prog 41 #[.slice A n c, .int .i64 o] w fun e w' => e = .returned (.int .i64 (owedV xs o)) ∧ Up w w' := by
  subst hl
  cases hL : linesB xs with
  | false =>
    have HR := Lib.hid (owedV_no (o := o) hL)
    go_enter Try.func41, Try.ntmps41
    go_wp2_with (go_at_call 39; refine (areLines_spec _ xs _ _ hr hc hn).mono ?_; rintro e w1 ⟨rfl, hb1⟩)
    go_ret
    exact ⟨reti HR.out.symm, by (repeat (first | exact Up.rfl' _ | (refine Up.al _ ?_) | (refine Up.dr _ ?_) | (refine Up.dr1 ?_) | (refine Up.sc ?_ (by first | exact Nat.le_refl _ | (simp; done) | omega) _) | (refine Up.step (by assumption) ?_)))⟩
  | true =>
    have HR := Lib.hid (owedV_ok (o := o) hL)
    go_enter Try.func41, Try.ntmps41
    go_wp2_with (first
      | (go_at_call 39; refine (areLines_spec _ xs _ _ hr hc hn).mono ?_; rintro e w1 ⟨rfl, hb1⟩)
      | (go_at_call 28; refine (sumOf_spec _ xs _ _ _ _ (hr.up (by (repeat (first | exact Up.rfl' _ | (refine Up.al _ ?_) | (refine Up.dr _ ?_) | (refine Up.dr1 ?_) | (refine Up.sc ?_ (by first | exact Nat.le_refl _ | (simp; done) | omega) _) | (refine Up.step (by assumption) ?_))))) hn).mono ?_; rintro e w1 ⟨rfl, hb1⟩))
    go_ret
    exact ⟨reti HR.out.symm, by (repeat (first | exact Up.rfl' _ | (refine Up.al _ ?_) | (refine Up.dr _ ?_) | (refine Up.dr1 ?_) | (refine Up.sc ?_ (by first | exact Nat.le_refl _ | (simp; done) | omega) _) | (refine Up.step (by assumption) ?_)))⟩
theorem cashOf_impl (A : Option Addr) (xs : List Ln) (n c : Nat) (w : World) (hr : Rd w w.heap.size A xs) (hl : n = xs.length) (hc : xs.length ≤ c) (hn : n ≤ 2000000) :
    Calls Try.prog 44 #[.slice A n c] w fun e w' => e = .returned (.int .i64 (cashV xs)) ∧ Up w w' := by
  subst hl
  cases hL : linesB xs with
  | false =>
    have HR := Lib.hid (cashV_no hL)
    go_enter Try.func44, Try.ntmps44
    go_wp2_with (go_at_call 40; refine (areLines_impl _ xs _ _ hr hc hn).mono ?_; rintro e w1 ⟨rfl, hb1⟩)
    go_ret
    exact ⟨reti HR.out.symm, by (repeat (first | exact Up.rfl' _ | (refine Up.al _ ?_) | (refine Up.dr _ ?_) | (refine Up.dr1 ?_) | (refine Up.sc ?_ (by first | exact Nat.le_refl _ | (simp; done) | omega) _) | (refine Up.step (by assumption) ?_)))⟩
  | true =>
    have HR := Lib.hid (cashV_ok hL)
    go_enter Try.func44, Try.ntmps44
    go_wp2_with (go_at_call 40; refine (areLines_impl _ xs _ _ hr hc hn).mono ?_; rintro e w1 ⟨rfl, hb1⟩)
    clear hL
    go_loopw [3, 11] (fun n7 i wr => ∃ j : Nat, j ≤ xs.length ∧ i = .int .i64 j ∧ n7 = .int .i64 (cashLn (xs.take j)) ∧ Up w wr) (fun _ i _ => xs.length - (intOf i).toNat)
    case atStart => exact ⟨0, by omega, rfl, rfl, by (repeat (first | exact Up.rfl' _ | (refine Up.al _ ?_) | (refine Up.dr _ ?_) | (refine Up.dr1 ?_) | (refine Up.sc ?_ (by first | exact Nat.le_refl _ | (simp; done) | omega) _) | (refine Up.step (by assumption) ?_)))⟩
    case round =>
      obtain ⟨i, hi, rfl, rfl, hb⟩ := hrel
      by_cases hlt : i < xs.length
      · obtain ⟨x, hx⟩ := get_of_lt hlt
        obtain ⟨b, off, rfl, hbb, c0, c1, c2, c3⟩ := (hr.below hb).ln hx
        have S : Hid (cashLn (xs.take (i+1)) = cashStep (cashLn (xs.take i)) x) := foldl_snoc hx _ _
        clear hr hx
        cases k2 : (x.k == 2) with
        | true =>
          go_wp2
          exact ⟨⟨i + 1, by omega, by go_num, by rw [S.out]; simp [cashStep, k2], by (repeat (first | exact Up.rfl' _ | (refine Up.al _ ?_) | (refine Up.dr _ ?_) | (refine Up.dr1 ?_) | (refine Up.sc ?_ (by first | exact Nat.le_refl _ | (simp; done) | omega) _) | (refine Up.step (by assumption) ?_)))⟩, by simp [intOf]; omega⟩
        | false =>
          cases k3 : (x.k == 3) with
          | true =>
            go_wp2
            exact ⟨⟨i + 1, by omega, by go_num, by rw [S.out]; simp [cashStep, k2, k3], by (repeat (first | exact Up.rfl' _ | (refine Up.al _ ?_) | (refine Up.dr _ ?_) | (refine Up.dr1 ?_) | (refine Up.sc ?_ (by first | exact Nat.le_refl _ | (simp; done) | omega) _) | (refine Up.step (by assumption) ?_)))⟩, by simp [intOf]; omega⟩
          | false =>
            go_wp2
            exact ⟨⟨i + 1, by omega, by go_num, by rw [S.out]; simp [cashStep, k2, k3], by (repeat (first | exact Up.rfl' _ | (refine Up.al _ ?_) | (refine Up.dr _ ?_) | (refine Up.dr1 ?_) | (refine Up.sc ?_ (by first | exact Nat.le_refl _ | (simp; done) | omega) _) | (refine Up.step (by assumption) ?_)))⟩, by simp [intOf]; omega⟩
      · go_wp2
        go_ret
        obtain rfl : i = xs.length := by omega
        exact ⟨reti (by rw [HR.out]; simp), by (repeat (first | exact Up.rfl' _ | (refine Up.al _ ?_) | (refine Up.dr _ ?_) | (refine Up.dr1 ?_) | (refine Up.sc ?_ (by first | exact Nat.le_refl _ | (simp; done) | omega) _) | (refine Up.step (by assumption) ?_)))⟩
theorem cashOf_spec (A : Option Addr) (xs : List Ln) (n c : Nat) (w : World) (hr : Rd w w.heap.size A xs) (hl : n = xs.length) (hc : xs.length ≤ c) (hn : n ≤ 2000000) :
    Calls Try.prog 43 #[.slice A n c] w fun e w' => e = .returned (.int .i64 (cashV xs)) ∧ Up w w' := by
  subst hl
  go_enter Try.func43, Try.ntmps43
  go_wp2
  go_loopw [3, 4] (fun n7 i wr => ∃ j : Nat, j ≤ xs.length ∧ i = .int .i64 j ∧ n7 = .int .i64 (cashLn (xs.take j)) ∧ Hid (0 < j → linesB xs = true) ∧ Up w wr) (fun _ i _ => xs.length - (intOf i).toNat)
  case atStart => exact ⟨0, by omega, rfl, rfl, fun h => absurd h (by omega), by (repeat (first | exact Up.rfl' _ | (refine Up.al _ ?_) | (refine Up.dr _ ?_) | (refine Up.dr1 ?_) | (refine Up.sc ?_ (by first | exact Nat.le_refl _ | (simp; done) | omega) _) | (refine Up.step (by assumption) ?_)))⟩
  case round =>
    obtain ⟨i, hi, rfl, rfl, hpos, hb⟩ := hrel
    by_cases hlt : i < xs.length
    · cases hL : linesB xs with
      | false =>
        have HR := Lib.hid (cashV_no hL)
        have h0 : i ≤ 0 := by
          rcases Nat.eq_zero_or_pos i with h | h
          · omega
          · rw [hpos.out h] at hL; cases hL
        go_wp2_with (go_at_call 39; refine (areLines_spec _ xs _ _ (hr.up (by (repeat (first | exact Up.rfl' _ | (refine Up.al _ ?_) | (refine Up.dr _ ?_) | (refine Up.dr1 ?_) | (refine Up.sc ?_ (by first | exact Nat.le_refl _ | (simp; done) | omega) _) | (refine Up.step (by assumption) ?_))))) hc hn).mono ?_; rintro e w1 ⟨rfl, hb1⟩)
        go_ret
        obtain rfl : i = 0 := by omega
        exact ⟨reti HR.out.symm, by (repeat (first | exact Up.rfl' _ | (refine Up.al _ ?_) | (refine Up.dr _ ?_) | (refine Up.dr1 ?_) | (refine Up.sc ?_ (by first | exact Nat.le_refl _ | (simp; done) | omega) _) | (refine Up.step (by assumption) ?_)))⟩
      | true =>
        obtain ⟨x, hx⟩ := get_of_lt hlt
        have S : Hid (cashLn (xs.take (i+1)) = cashStep (cashLn (xs.take i)) x) := foldl_snoc hx _ _
        have HL := Lib.hid hL
        have HX := Lib.hid hx
        clear hx
        cases k2 : (x.k == 2) with
        | true =>
          go_wp2_with (go_at_call 39; refine (areLines_spec _ xs _ _ (hr.up (by (repeat (first | exact Up.rfl' _ | (refine Up.al _ ?_) | (refine Up.dr _ ?_) | (refine Up.dr1 ?_) | (refine Up.sc ?_ (by first | exact Nat.le_refl _ | (simp; done) | omega) _) | (refine Up.step (by assumption) ?_))))) hc hn).mono ?_; rintro e w1 ⟨rfl, hb1⟩; obtain ⟨b, off, rfl, hbb, c0, c1, c2, c3⟩ := (hr.below (show Up w w1 by (repeat (first | exact Up.rfl' _ | (refine Up.al _ ?_) | (refine Up.dr _ ?_) | (refine Up.dr1 ?_) | (refine Up.sc ?_ (by first | exact Nat.le_refl _ | (simp; done) | omega) _) | (refine Up.step (by assumption) ?_))))).ln HX.out)
          exact ⟨⟨i + 1, by omega, by go_num, by rw [S.out]; simp [cashStep, k2], fun _ => trivial, by (repeat (first | exact Up.rfl' _ | (refine Up.al _ ?_) | (refine Up.dr _ ?_) | (refine Up.dr1 ?_) | (refine Up.sc ?_ (by first | exact Nat.le_refl _ | (simp; done) | omega) _) | (refine Up.step (by assumption) ?_)))⟩, by simp [intOf]; omega⟩
        | false =>
          cases k3 : (x.k == 3) with
          | true =>
            go_wp2_with (go_at_call 39; refine (areLines_spec _ xs _ _ (hr.up (by (repeat (first | exact Up.rfl' _ | (refine Up.al _ ?_) | (refine Up.dr _ ?_) | (refine Up.dr1 ?_) | (refine Up.sc ?_ (by first | exact Nat.le_refl _ | (simp; done) | omega) _) | (refine Up.step (by assumption) ?_))))) hc hn).mono ?_; rintro e w1 ⟨rfl, hb1⟩; obtain ⟨b, off, rfl, hbb, c0, c1, c2, c3⟩ := (hr.below (show Up w w1 by (repeat (first | exact Up.rfl' _ | (refine Up.al _ ?_) | (refine Up.dr _ ?_) | (refine Up.dr1 ?_) | (refine Up.sc ?_ (by first | exact Nat.le_refl _ | (simp; done) | omega) _) | (refine Up.step (by assumption) ?_))))).ln HX.out)
            exact ⟨⟨i + 1, by omega, by go_num, by rw [S.out]; simp [cashStep, k2, k3], fun _ => trivial, by (repeat (first | exact Up.rfl' _ | (refine Up.al _ ?_) | (refine Up.dr _ ?_) | (refine Up.dr1 ?_) | (refine Up.sc ?_ (by first | exact Nat.le_refl _ | (simp; done) | omega) _) | (refine Up.step (by assumption) ?_)))⟩, by simp [intOf]; omega⟩
          | false =>
            go_wp2_with (go_at_call 39; refine (areLines_spec _ xs _ _ (hr.up (by (repeat (first | exact Up.rfl' _ | (refine Up.al _ ?_) | (refine Up.dr _ ?_) | (refine Up.dr1 ?_) | (refine Up.sc ?_ (by first | exact Nat.le_refl _ | (simp; done) | omega) _) | (refine Up.step (by assumption) ?_))))) hc hn).mono ?_; rintro e w1 ⟨rfl, hb1⟩; obtain ⟨b, off, rfl, hbb, c0, c1, c2, c3⟩ := (hr.below (show Up w w1 by (repeat (first | exact Up.rfl' _ | (refine Up.al _ ?_) | (refine Up.dr _ ?_) | (refine Up.dr1 ?_) | (refine Up.sc ?_ (by first | exact Nat.le_refl _ | (simp; done) | omega) _) | (refine Up.step (by assumption) ?_))))).ln HX.out)
            exact ⟨⟨i + 1, by omega, by go_num, by rw [S.out]; simp [cashStep, k2, k3], fun _ => trivial, by (repeat (first | exact Up.rfl' _ | (refine Up.al _ ?_) | (refine Up.dr _ ?_) | (refine Up.dr1 ?_) | (refine Up.sc ?_ (by first | exact Nat.le_refl _ | (simp; done) | omega) _) | (refine Up.step (by assumption) ?_)))⟩, by simp [intOf]; omega⟩
    · obtain rfl : i = xs.length := by omega
      have HR := Lib.hid (show cashV xs = cashLn xs by
        rcases Nat.eq_zero_or_pos xs.length with h | h
        · have : xs = [] := List.length_eq_zero_iff.1 h
          subst this
          simp [cashV, cashLn]
        · exact cashV_ok (hpos.out h))
      go_wp2
      go_ret
      exact ⟨reti (by rw [HR.out]; simp), by (repeat (first | exact Up.rfl' _ | (refine Up.al _ ?_) | (refine Up.dr _ ?_) | (refine Up.dr1 ?_) | (refine Up.sc ?_ (by first | exact Nat.le_refl _ | (simp; done) | omega) _) | (refine Up.step (by assumption) ?_)))⟩
end Go.Proofs.Ytapllnlclgbbkaa
