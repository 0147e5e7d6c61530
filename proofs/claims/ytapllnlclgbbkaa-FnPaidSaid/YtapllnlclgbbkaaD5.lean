import Derived.Test.YtapllnlclgbbkaaD4
import Derived.Test.YtapllnlclgbbkaaB4
namespace Go.Proofs.Ytapllnlclgbbkaa
set_option maxRecDepth 10000
open Go.RowKit
set_option maxHeartbeats 1000000 in
theorem chargeOrder_impl (A : Option Addr) (xs : List Ln) (n c : Nat) (o a t : Int) (w : World) (hr : Rd w w.heap.size A xs) (hl : n = xs.length) (hc : xs.length ≤ c) (hn : n ≤ 2000000) :
    Calls Try.prog 46 #[.slice A n c, .int .i64 o, .int .i64 a, .int .i64 t] w fun e w' => ∃ v, e = .returned (.tuple #[v, .int .i64 (chargeV xs o a t).2]) ∧ Own w' w.heap.size 25 v (chargeV xs o a t).1 ∧ Up w w' := by
  subst hl
  cases h0 : linesB xs with
  | false =>
    have HR := Lib.hid (show chargeV xs o a t = (xs, 1) by simp [chargeV, h0])
    go_enter Try.func46, Try.ntmps46
    go_wp2_with fail
    generalize hwb : w.alloc (.cells #[I o, I 1, I a, I t] 25) = wb
    have d0 : wb.cell? ⟨w.heap.size, 0, none⟩ = some (I o) := by rw [← hwb]; simp [go_sem]
    have d1 : wb.cell? ⟨w.heap.size, 1, none⟩ = some (I 1) := by rw [← hwb]; simp [go_sem]
    have d2 : wb.cell? ⟨w.heap.size, 2, none⟩ = some (I a) := by rw [← hwb]; simp [go_sem]
    have d3 : wb.cell? ⟨w.heap.size, 3, none⟩ = some (I t) := by rw [← hwb]; simp [go_sem]
    have hub : Up w wb := by rw [← hwb]; (repeat (first | exact Up.rfl' _ | (refine Up.al _ ?_) | (refine Up.dr _ ?_) | (refine Up.dr1 ?_) | (refine Up.sc ?_ (by first | exact Nat.le_refl _ | (simp; done) | omega) _) | (refine Up.step (by assumption) ?_)))
    clear hwb
    go_wp2_with (first
        | (go_at_call 40; refine (areLines_impl_n _ xs _ _ _ (hr.up (by (repeat (first | exact Up.rfl' _ | (refine Up.al _ ?_) | (refine Up.dr _ ?_) | (refine Up.dr1 ?_) | (refine Up.sc ?_ (by first | exact Nat.le_refl _ | (simp; done) | omega) _) | (refine Up.step (by assumption) ?_))))) rfl hc hn).mono ?_; rintro e w1 ⟨rfl, hb1⟩; replace d0 := cellUp d0 hb1; replace d1 := cellUp d1 hb1; replace d2 := cellUp d2 hb1; replace d3 := cellUp d3 hb1)
        | (go_at_call 20; refine (isLine_impl _ _ _ _ _).mono ?_; rintro e w1 ⟨rfl, hb1⟩; replace d0 := cellUp d0 hb1; replace d1 := cellUp d1 hb1; replace d2 := cellUp d2 hb1; replace d3 := cellUp d3 hb1)
        | (go_at_call 30; refine (sumOf_impl_n _ xs _ _ _ _ _ (hr.up (by (repeat (first | exact Up.rfl' _ | (refine Up.al _ ?_) | (refine Up.dr _ ?_) | (refine Up.dr1 ?_) | (refine Up.sc ?_ (by first | exact Nat.le_refl _ | (simp; done) | omega) _) | (refine Up.step (by assumption) ?_))))) rfl hn).mono ?_; rintro e w1 ⟨rfl, hb1⟩; replace d0 := cellUp d0 hb1; replace d1 := cellUp d1 hb1; replace d2 := cellUp d2 hb1; replace d3 := cellUp d3 hb1)
        | (go_at_call 42; refine (owedFor_impl _ xs _ _ _ _ (hr.up (by (repeat (first | exact Up.rfl' _ | (refine Up.al _ ?_) | (refine Up.dr _ ?_) | (refine Up.dr1 ?_) | (refine Up.sc ?_ (by first | exact Nat.le_refl _ | (simp; done) | omega) _) | (refine Up.step (by assumption) ?_))))) rfl hc hn).mono ?_; rintro e w1 ⟨rfl, hb1⟩; replace d0 := cellUp d0 hb1; replace d1 := cellUp d1 hb1; replace d2 := cellUp d2 hb1; replace d3 := cellUp d3 hb1)
        | (go_at_call 70; refine (copyLines_any _ xs _ _ _ (hr.up (by (repeat (first | exact Up.rfl' _ | (refine Up.al _ ?_) | (refine Up.dr _ ?_) | (refine Up.dr1 ?_) | (refine Up.sc ?_ (by first | exact Nat.le_refl _ | (simp; done) | omega) _) | (refine Up.step (by assumption) ?_))))) rfl hn).mono ?_; rintro e w2 ⟨v2, rfl, ho2, hb2⟩)
        | (go_at_call 71; refine (addLine_any _ xs _ _ ⟨o, 1, a, t⟩ _ (hr.up (by (repeat (first | exact Up.rfl' _ | (refine Up.al _ ?_) | (refine Up.dr _ ?_) | (refine Up.dr1 ?_) | (refine Up.sc ?_ (by first | exact Nat.le_refl _ | (simp; done) | omega) _) | (refine Up.step (by assumption) ?_))))) rfl hn).mono ?_; rintro e w2 ⟨v2, rfl, ho2, hb2⟩))
    go_ret2
    rw [HR.out]
    exact ⟨v2, rfl, ho2.down (by (repeat (first | exact Up.rfl' _ | (refine Up.al _ ?_) | (refine Up.dr _ ?_) | (refine Up.dr1 ?_) | (refine Up.sc ?_ (by first | exact Nat.le_refl _ | (simp; done) | omega) _) | (refine Up.step (by assumption) ?_)))), by (repeat (first | exact Up.rfl' _ | (refine Up.al _ ?_) | (refine Up.dr _ ?_) | (refine Up.dr1 ?_) | (refine Up.sc ?_ (by first | exact Nat.le_refl _ | (simp; done) | omega) _) | (refine Up.step (by assumption) ?_)))⟩
  | true =>
  cases h1 : lineB o 1 a t with
  | false =>
    have HR := Lib.hid (show chargeV xs o a t = (xs, 1) by simp [chargeV, h0, h1])
    go_enter Try.func46, Try.ntmps46
    go_wp2_with fail
    generalize hwb : w.alloc (.cells #[I o, I 1, I a, I t] 25) = wb
    have d0 : wb.cell? ⟨w.heap.size, 0, none⟩ = some (I o) := by rw [← hwb]; simp [go_sem]
    have d1 : wb.cell? ⟨w.heap.size, 1, none⟩ = some (I 1) := by rw [← hwb]; simp [go_sem]
    have d2 : wb.cell? ⟨w.heap.size, 2, none⟩ = some (I a) := by rw [← hwb]; simp [go_sem]
    have d3 : wb.cell? ⟨w.heap.size, 3, none⟩ = some (I t) := by rw [← hwb]; simp [go_sem]
    have hub : Up w wb := by rw [← hwb]; (repeat (first | exact Up.rfl' _ | (refine Up.al _ ?_) | (refine Up.dr _ ?_) | (refine Up.dr1 ?_) | (refine Up.sc ?_ (by first | exact Nat.le_refl _ | (simp; done) | omega) _) | (refine Up.step (by assumption) ?_)))
    clear hwb
    go_wp2_with (first
        | (go_at_call 40; refine (areLines_impl_n _ xs _ _ _ (hr.up (by (repeat (first | exact Up.rfl' _ | (refine Up.al _ ?_) | (refine Up.dr _ ?_) | (refine Up.dr1 ?_) | (refine Up.sc ?_ (by first | exact Nat.le_refl _ | (simp; done) | omega) _) | (refine Up.step (by assumption) ?_))))) rfl hc hn).mono ?_; rintro e w1 ⟨rfl, hb1⟩; replace d0 := cellUp d0 hb1; replace d1 := cellUp d1 hb1; replace d2 := cellUp d2 hb1; replace d3 := cellUp d3 hb1)
        | (go_at_call 20; refine (isLine_impl _ _ _ _ _).mono ?_; rintro e w1 ⟨rfl, hb1⟩; replace d0 := cellUp d0 hb1; replace d1 := cellUp d1 hb1; replace d2 := cellUp d2 hb1; replace d3 := cellUp d3 hb1)
        | (go_at_call 30; refine (sumOf_impl_n _ xs _ _ _ _ _ (hr.up (by (repeat (first | exact Up.rfl' _ | (refine Up.al _ ?_) | (refine Up.dr _ ?_) | (refine Up.dr1 ?_) | (refine Up.sc ?_ (by first | exact Nat.le_refl _ | (simp; done) | omega) _) | (refine Up.step (by assumption) ?_))))) rfl hn).mono ?_; rintro e w1 ⟨rfl, hb1⟩; replace d0 := cellUp d0 hb1; replace d1 := cellUp d1 hb1; replace d2 := cellUp d2 hb1; replace d3 := cellUp d3 hb1)
        | (go_at_call 42; refine (owedFor_impl _ xs _ _ _ _ (hr.up (by (repeat (first | exact Up.rfl' _ | (refine Up.al _ ?_) | (refine Up.dr _ ?_) | (refine Up.dr1 ?_) | (refine Up.sc ?_ (by first | exact Nat.le_refl _ | (simp; done) | omega) _) | (refine Up.step (by assumption) ?_))))) rfl hc hn).mono ?_; rintro e w1 ⟨rfl, hb1⟩; replace d0 := cellUp d0 hb1; replace d1 := cellUp d1 hb1; replace d2 := cellUp d2 hb1; replace d3 := cellUp d3 hb1)
        | (go_at_call 70; refine (copyLines_any _ xs _ _ _ (hr.up (by (repeat (first | exact Up.rfl' _ | (refine Up.al _ ?_) | (refine Up.dr _ ?_) | (refine Up.dr1 ?_) | (refine Up.sc ?_ (by first | exact Nat.le_refl _ | (simp; done) | omega) _) | (refine Up.step (by assumption) ?_))))) rfl hn).mono ?_; rintro e w2 ⟨v2, rfl, ho2, hb2⟩)
        | (go_at_call 71; refine (addLine_any _ xs _ _ ⟨o, 1, a, t⟩ _ (hr.up (by (repeat (first | exact Up.rfl' _ | (refine Up.al _ ?_) | (refine Up.dr _ ?_) | (refine Up.dr1 ?_) | (refine Up.sc ?_ (by first | exact Nat.le_refl _ | (simp; done) | omega) _) | (refine Up.step (by assumption) ?_))))) rfl hn).mono ?_; rintro e w2 ⟨v2, rfl, ho2, hb2⟩))
    go_ret2
    rw [HR.out]
    exact ⟨v2, rfl, ho2.down (by (repeat (first | exact Up.rfl' _ | (refine Up.al _ ?_) | (refine Up.dr _ ?_) | (refine Up.dr1 ?_) | (refine Up.sc ?_ (by first | exact Nat.le_refl _ | (simp; done) | omega) _) | (refine Up.step (by assumption) ?_)))), by (repeat (first | exact Up.rfl' _ | (refine Up.al _ ?_) | (refine Up.dr _ ?_) | (refine Up.dr1 ?_) | (refine Up.sc ?_ (by first | exact Nat.le_refl _ | (simp; done) | omega) _) | (refine Up.step (by assumption) ?_)))⟩
  | true =>
  cases h2 : decide (0 < sumLn xs o 1) with
  | true =>
    have HR := Lib.hid (show chargeV xs o a t = (xs, 2) by simp [chargeV, h0, h1, h2])
    go_enter Try.func46, Try.ntmps46
    go_wp2_with fail
    generalize hwb : w.alloc (.cells #[I o, I 1, I a, I t] 25) = wb
    have d0 : wb.cell? ⟨w.heap.size, 0, none⟩ = some (I o) := by rw [← hwb]; simp [go_sem]
    have d1 : wb.cell? ⟨w.heap.size, 1, none⟩ = some (I 1) := by rw [← hwb]; simp [go_sem]
    have d2 : wb.cell? ⟨w.heap.size, 2, none⟩ = some (I a) := by rw [← hwb]; simp [go_sem]
    have d3 : wb.cell? ⟨w.heap.size, 3, none⟩ = some (I t) := by rw [← hwb]; simp [go_sem]
    have hub : Up w wb := by rw [← hwb]; (repeat (first | exact Up.rfl' _ | (refine Up.al _ ?_) | (refine Up.dr _ ?_) | (refine Up.dr1 ?_) | (refine Up.sc ?_ (by first | exact Nat.le_refl _ | (simp; done) | omega) _) | (refine Up.step (by assumption) ?_)))
    clear hwb
    go_wp2_with (first
        | (go_at_call 40; refine (areLines_impl_n _ xs _ _ _ (hr.up (by (repeat (first | exact Up.rfl' _ | (refine Up.al _ ?_) | (refine Up.dr _ ?_) | (refine Up.dr1 ?_) | (refine Up.sc ?_ (by first | exact Nat.le_refl _ | (simp; done) | omega) _) | (refine Up.step (by assumption) ?_))))) rfl hc hn).mono ?_; rintro e w1 ⟨rfl, hb1⟩; replace d0 := cellUp d0 hb1; replace d1 := cellUp d1 hb1; replace d2 := cellUp d2 hb1; replace d3 := cellUp d3 hb1)
        | (go_at_call 20; refine (isLine_impl _ _ _ _ _).mono ?_; rintro e w1 ⟨rfl, hb1⟩; replace d0 := cellUp d0 hb1; replace d1 := cellUp d1 hb1; replace d2 := cellUp d2 hb1; replace d3 := cellUp d3 hb1)
        | (go_at_call 30; refine (sumOf_impl_n _ xs _ _ _ _ _ (hr.up (by (repeat (first | exact Up.rfl' _ | (refine Up.al _ ?_) | (refine Up.dr _ ?_) | (refine Up.dr1 ?_) | (refine Up.sc ?_ (by first | exact Nat.le_refl _ | (simp; done) | omega) _) | (refine Up.step (by assumption) ?_))))) rfl hn).mono ?_; rintro e w1 ⟨rfl, hb1⟩; replace d0 := cellUp d0 hb1; replace d1 := cellUp d1 hb1; replace d2 := cellUp d2 hb1; replace d3 := cellUp d3 hb1)
        | (go_at_call 42; refine (owedFor_impl _ xs _ _ _ _ (hr.up (by (repeat (first | exact Up.rfl' _ | (refine Up.al _ ?_) | (refine Up.dr _ ?_) | (refine Up.dr1 ?_) | (refine Up.sc ?_ (by first | exact Nat.le_refl _ | (simp; done) | omega) _) | (refine Up.step (by assumption) ?_))))) rfl hc hn).mono ?_; rintro e w1 ⟨rfl, hb1⟩; replace d0 := cellUp d0 hb1; replace d1 := cellUp d1 hb1; replace d2 := cellUp d2 hb1; replace d3 := cellUp d3 hb1)
        | (go_at_call 70; refine (copyLines_any _ xs _ _ _ (hr.up (by (repeat (first | exact Up.rfl' _ | (refine Up.al _ ?_) | (refine Up.dr _ ?_) | (refine Up.dr1 ?_) | (refine Up.sc ?_ (by first | exact Nat.le_refl _ | (simp; done) | omega) _) | (refine Up.step (by assumption) ?_))))) rfl hn).mono ?_; rintro e w2 ⟨v2, rfl, ho2, hb2⟩)
        | (go_at_call 71; refine (addLine_any _ xs _ _ ⟨o, 1, a, t⟩ _ (hr.up (by (repeat (first | exact Up.rfl' _ | (refine Up.al _ ?_) | (refine Up.dr _ ?_) | (refine Up.dr1 ?_) | (refine Up.sc ?_ (by first | exact Nat.le_refl _ | (simp; done) | omega) _) | (refine Up.step (by assumption) ?_))))) rfl hn).mono ?_; rintro e w2 ⟨v2, rfl, ho2, hb2⟩))
    go_ret2
    rw [HR.out]
    exact ⟨v2, rfl, ho2.down (by (repeat (first | exact Up.rfl' _ | (refine Up.al _ ?_) | (refine Up.dr _ ?_) | (refine Up.dr1 ?_) | (refine Up.sc ?_ (by first | exact Nat.le_refl _ | (simp; done) | omega) _) | (refine Up.step (by assumption) ?_)))), by (repeat (first | exact Up.rfl' _ | (refine Up.al _ ?_) | (refine Up.dr _ ?_) | (refine Up.dr1 ?_) | (refine Up.sc ?_ (by first | exact Nat.le_refl _ | (simp; done) | omega) _) | (refine Up.step (by assumption) ?_)))⟩
  | false =>
  have HR := Lib.hid (show chargeV xs o a t = postV xs ⟨o, 1, a, t⟩ by simp [chargeV, h0, h1, h2])
  go_enter Try.func46, Try.ntmps46
  go_wp2_with fail
  generalize hwb : w.alloc (.cells #[I o, I 1, I a, I t] 25) = wb
  have d0 : wb.cell? ⟨w.heap.size, 0, none⟩ = some (I o) := by rw [← hwb]; simp [go_sem]
  have d1 : wb.cell? ⟨w.heap.size, 1, none⟩ = some (I 1) := by rw [← hwb]; simp [go_sem]
  have d2 : wb.cell? ⟨w.heap.size, 2, none⟩ = some (I a) := by rw [← hwb]; simp [go_sem]
  have d3 : wb.cell? ⟨w.heap.size, 3, none⟩ = some (I t) := by rw [← hwb]; simp [go_sem]
  have hub : Up w wb := by rw [← hwb]; (repeat (first | exact Up.rfl' _ | (refine Up.al _ ?_) | (refine Up.dr _ ?_) | (refine Up.dr1 ?_) | (refine Up.sc ?_ (by first | exact Nat.le_refl _ | (simp; done) | omega) _) | (refine Up.step (by assumption) ?_)))
  clear hwb
  go_wp2_with (first
        | (go_at_call 40; refine (areLines_impl_n _ xs _ _ _ (hr.up (by (repeat (first | exact Up.rfl' _ | (refine Up.al _ ?_) | (refine Up.dr _ ?_) | (refine Up.dr1 ?_) | (refine Up.sc ?_ (by first | exact Nat.le_refl _ | (simp; done) | omega) _) | (refine Up.step (by assumption) ?_))))) rfl hc hn).mono ?_; rintro e w1 ⟨rfl, hb1⟩; replace d0 := cellUp d0 hb1; replace d1 := cellUp d1 hb1; replace d2 := cellUp d2 hb1; replace d3 := cellUp d3 hb1)
        | (go_at_call 20; refine (isLine_impl _ _ _ _ _).mono ?_; rintro e w1 ⟨rfl, hb1⟩; replace d0 := cellUp d0 hb1; replace d1 := cellUp d1 hb1; replace d2 := cellUp d2 hb1; replace d3 := cellUp d3 hb1)
        | (go_at_call 30; refine (sumOf_impl_n _ xs _ _ _ _ _ (hr.up (by (repeat (first | exact Up.rfl' _ | (refine Up.al _ ?_) | (refine Up.dr _ ?_) | (refine Up.dr1 ?_) | (refine Up.sc ?_ (by first | exact Nat.le_refl _ | (simp; done) | omega) _) | (refine Up.step (by assumption) ?_))))) rfl hn).mono ?_; rintro e w1 ⟨rfl, hb1⟩; replace d0 := cellUp d0 hb1; replace d1 := cellUp d1 hb1; replace d2 := cellUp d2 hb1; replace d3 := cellUp d3 hb1)
        | (go_at_call 42; refine (owedFor_impl _ xs _ _ _ _ (hr.up (by (repeat (first | exact Up.rfl' _ | (refine Up.al _ ?_) | (refine Up.dr _ ?_) | (refine Up.dr1 ?_) | (refine Up.sc ?_ (by first | exact Nat.le_refl _ | (simp; done) | omega) _) | (refine Up.step (by assumption) ?_))))) rfl hc hn).mono ?_; rintro e w1 ⟨rfl, hb1⟩; replace d0 := cellUp d0 hb1; replace d1 := cellUp d1 hb1; replace d2 := cellUp d2 hb1; replace d3 := cellUp d3 hb1)
        | (go_at_call 70; refine (copyLines_any _ xs _ _ _ (hr.up (by (repeat (first | exact Up.rfl' _ | (refine Up.al _ ?_) | (refine Up.dr _ ?_) | (refine Up.dr1 ?_) | (refine Up.sc ?_ (by first | exact Nat.le_refl _ | (simp; done) | omega) _) | (refine Up.step (by assumption) ?_))))) rfl hn).mono ?_; rintro e w2 ⟨v2, rfl, ho2, hb2⟩)
        | (go_at_call 71; refine (addLine_any _ xs _ _ ⟨o, 1, a, t⟩ _ (hr.up (by (repeat (first | exact Up.rfl' _ | (refine Up.al _ ?_) | (refine Up.dr _ ?_) | (refine Up.dr1 ?_) | (refine Up.sc ?_ (by first | exact Nat.le_refl _ | (simp; done) | omega) _) | (refine Up.step (by assumption) ?_))))) rfl hn).mono ?_; rintro e w2 ⟨v2, rfl, ho2, hb2⟩))
  go_ret2
  rw [HR.out]
  exact ⟨v2, rfl, ho2.down (by (repeat (first | exact Up.rfl' _ | (refine Up.al _ ?_) | (refine Up.dr _ ?_) | (refine Up.dr1 ?_) | (refine Up.sc ?_ (by first | exact Nat.le_refl _ | (simp; done) | omega) _) | (refine Up.step (by assumption) ?_)))), by (repeat (first | exact Up.rfl' _ | (refine Up.al _ ?_) | (refine Up.dr _ ?_) | (refine Up.dr1 ?_) | (refine Up.sc ?_ (by first | exact Nat.le_refl _ | (simp; done) | omega) _) | (refine Up.step (by assumption) ?_)))⟩
set_option maxHeartbeats 1000000 in
theorem chargeOrder_spec (A : Option Addr) (xs : List Ln) (n c : Nat) (o a t : Int) (w : World) (hr : Rd w w.heap.size A xs) (hl : n = xs.length) (hc : xs.length ≤ c) (hn : n ≤ 2000000) :
    Calls Try.prog 45 #[.slice A n c, .int .i64 o, .int .i64 a, .int .i64 t] w fun e w' => ∃ v, e = .returned (.tuple #[v, .int .i64 (chargeV xs o a t).2]) ∧ Own w' w.heap.size 25 v (chargeV xs o a t).1 ∧ Up w w' := by
  subst hl
  cases h0 : linesB xs with
  | false =>
    have HR := Lib.hid (show chargeV xs o a t = (xs, 1) by simp [chargeV, h0])
    go_enter Try.func45, Try.ntmps45
    go_wp2_with (first
        | (go_at_call 39; refine (areLines_spec_n _ xs _ _ _ (hr.up (by (repeat (first | exact Up.rfl' _ | (refine Up.al _ ?_) | (refine Up.dr _ ?_) | (refine Up.dr1 ?_) | (refine Up.sc ?_ (by first | exact Nat.le_refl _ | (simp; done) | omega) _) | (refine Up.step (by assumption) ?_))))) rfl hc hn).mono ?_; rintro e w1 ⟨rfl, hb1⟩)
        | (go_at_call 18; refine (isLine_spec _ _ _ _ _).mono ?_; rintro e w1 ⟨rfl, hb1⟩)
        | (go_at_call 28; refine (sumOf_spec_n _ xs _ _ _ _ _ (hr.up (by (repeat (first | exact Up.rfl' _ | (refine Up.al _ ?_) | (refine Up.dr _ ?_) | (refine Up.dr1 ?_) | (refine Up.sc ?_ (by first | exact Nat.le_refl _ | (simp; done) | omega) _) | (refine Up.step (by assumption) ?_))))) rfl hn).mono ?_; rintro e w1 ⟨rfl, hb1⟩)
        | (go_at_call 41; refine (owedFor_spec _ xs _ _ _ _ (hr.up (by (repeat (first | exact Up.rfl' _ | (refine Up.al _ ?_) | (refine Up.dr _ ?_) | (refine Up.dr1 ?_) | (refine Up.sc ?_ (by first | exact Nat.le_refl _ | (simp; done) | omega) _) | (refine Up.step (by assumption) ?_))))) rfl hc hn).mono ?_; rintro e w1 ⟨rfl, hb1⟩)
        | (go_at_call 68; refine (l11Copy_any _ xs _ _ _ (hr.up (by (repeat (first | exact Up.rfl' _ | (refine Up.al _ ?_) | (refine Up.dr _ ?_) | (refine Up.dr1 ?_) | (refine Up.sc ?_ (by first | exact Nat.le_refl _ | (simp; done) | omega) _) | (refine Up.step (by assumption) ?_))))) rfl hn).mono ?_; rintro e w2 ⟨v2, rfl, ho2, hb2⟩)
        | (go_at_call 69; refine (l11Post_any _ xs _ _ ⟨o, 1, a, t⟩ _ (hr.up (by (repeat (first | exact Up.rfl' _ | (refine Up.al _ ?_) | (refine Up.dr _ ?_) | (refine Up.dr1 ?_) | (refine Up.sc ?_ (by first | exact Nat.le_refl _ | (simp; done) | omega) _) | (refine Up.step (by assumption) ?_))))) rfl hn).mono ?_; rintro e w2 ⟨v2, rfl, ho2, hb2⟩))
    go_ret2
    rw [HR.out]
    exact ⟨v2, rfl, ho2.down (by (repeat (first | exact Up.rfl' _ | (refine Up.al _ ?_) | (refine Up.dr _ ?_) | (refine Up.dr1 ?_) | (refine Up.sc ?_ (by first | exact Nat.le_refl _ | (simp; done) | omega) _) | (refine Up.step (by assumption) ?_)))), by (repeat (first | exact Up.rfl' _ | (refine Up.al _ ?_) | (refine Up.dr _ ?_) | (refine Up.dr1 ?_) | (refine Up.sc ?_ (by first | exact Nat.le_refl _ | (simp; done) | omega) _) | (refine Up.step (by assumption) ?_)))⟩
  | true =>
  cases h1 : lineB o 1 a t with
  | false =>
    have HR := Lib.hid (show chargeV xs o a t = (xs, 1) by simp [chargeV, h0, h1])
    go_enter Try.func45, Try.ntmps45
    go_wp2_with (first
        | (go_at_call 39; refine (areLines_spec_n _ xs _ _ _ (hr.up (by (repeat (first | exact Up.rfl' _ | (refine Up.al _ ?_) | (refine Up.dr _ ?_) | (refine Up.dr1 ?_) | (refine Up.sc ?_ (by first | exact Nat.le_refl _ | (simp; done) | omega) _) | (refine Up.step (by assumption) ?_))))) rfl hc hn).mono ?_; rintro e w1 ⟨rfl, hb1⟩)
        | (go_at_call 18; refine (isLine_spec _ _ _ _ _).mono ?_; rintro e w1 ⟨rfl, hb1⟩)
        | (go_at_call 28; refine (sumOf_spec_n _ xs _ _ _ _ _ (hr.up (by (repeat (first | exact Up.rfl' _ | (refine Up.al _ ?_) | (refine Up.dr _ ?_) | (refine Up.dr1 ?_) | (refine Up.sc ?_ (by first | exact Nat.le_refl _ | (simp; done) | omega) _) | (refine Up.step (by assumption) ?_))))) rfl hn).mono ?_; rintro e w1 ⟨rfl, hb1⟩)
        | (go_at_call 41; refine (owedFor_spec _ xs _ _ _ _ (hr.up (by (repeat (first | exact Up.rfl' _ | (refine Up.al _ ?_) | (refine Up.dr _ ?_) | (refine Up.dr1 ?_) | (refine Up.sc ?_ (by first | exact Nat.le_refl _ | (simp; done) | omega) _) | (refine Up.step (by assumption) ?_))))) rfl hc hn).mono ?_; rintro e w1 ⟨rfl, hb1⟩)
        | (go_at_call 68; refine (l11Copy_any _ xs _ _ _ (hr.up (by (repeat (first | exact Up.rfl' _ | (refine Up.al _ ?_) | (refine Up.dr _ ?_) | (refine Up.dr1 ?_) | (refine Up.sc ?_ (by first | exact Nat.le_refl _ | (simp; done) | omega) _) | (refine Up.step (by assumption) ?_))))) rfl hn).mono ?_; rintro e w2 ⟨v2, rfl, ho2, hb2⟩)
        | (go_at_call 69; refine (l11Post_any _ xs _ _ ⟨o, 1, a, t⟩ _ (hr.up (by (repeat (first | exact Up.rfl' _ | (refine Up.al _ ?_) | (refine Up.dr _ ?_) | (refine Up.dr1 ?_) | (refine Up.sc ?_ (by first | exact Nat.le_refl _ | (simp; done) | omega) _) | (refine Up.step (by assumption) ?_))))) rfl hn).mono ?_; rintro e w2 ⟨v2, rfl, ho2, hb2⟩))
    go_ret2
    rw [HR.out]
    exact ⟨v2, rfl, ho2.down (by (repeat (first | exact Up.rfl' _ | (refine Up.al _ ?_) | (refine Up.dr _ ?_) | (refine Up.dr1 ?_) | (refine Up.sc ?_ (by first | exact Nat.le_refl _ | (simp; done) | omega) _) | (refine Up.step (by assumption) ?_)))), by (repeat (first | exact Up.rfl' _ | (refine Up.al _ ?_) | (refine Up.dr _ ?_) | (refine Up.dr1 ?_) | (refine Up.sc ?_ (by first | exact Nat.le_refl _ | (simp; done) | omega) _) | (refine Up.step (by assumption) ?_)))⟩
  | true =>
  cases h2 : decide (0 < sumLn xs o 1) with
  | true =>
    have HR := Lib.hid (show chargeV xs o a t = (xs, 2) by simp [chargeV, h0, h1, h2])
    go_enter Try.func45, Try.ntmps45
    go_wp2_with (first
        | (go_at_call 39; refine (areLines_spec_n _ xs _ _ _ (hr.up (by (repeat (first | exact Up.rfl' _ | (refine Up.al _ ?_) | (refine Up.dr _ ?_) | (refine Up.dr1 ?_) | (refine Up.sc ?_ (by first | exact Nat.le_refl _ | (simp; done) | omega) _) | (refine Up.step (by assumption) ?_))))) rfl hc hn).mono ?_; rintro e w1 ⟨rfl, hb1⟩)
        | (go_at_call 18; refine (isLine_spec _ _ _ _ _).mono ?_; rintro e w1 ⟨rfl, hb1⟩)
        | (go_at_call 28; refine (sumOf_spec_n _ xs _ _ _ _ _ (hr.up (by (repeat (first | exact Up.rfl' _ | (refine Up.al _ ?_) | (refine Up.dr _ ?_) | (refine Up.dr1 ?_) | (refine Up.sc ?_ (by first | exact Nat.le_refl _ | (simp; done) | omega) _) | (refine Up.step (by assumption) ?_))))) rfl hn).mono ?_; rintro e w1 ⟨rfl, hb1⟩)
        | (go_at_call 41; refine (owedFor_spec _ xs _ _ _ _ (hr.up (by (repeat (first | exact Up.rfl' _ | (refine Up.al _ ?_) | (refine Up.dr _ ?_) | (refine Up.dr1 ?_) | (refine Up.sc ?_ (by first | exact Nat.le_refl _ | (simp; done) | omega) _) | (refine Up.step (by assumption) ?_))))) rfl hc hn).mono ?_; rintro e w1 ⟨rfl, hb1⟩)
        | (go_at_call 68; refine (l11Copy_any _ xs _ _ _ (hr.up (by (repeat (first | exact Up.rfl' _ | (refine Up.al _ ?_) | (refine Up.dr _ ?_) | (refine Up.dr1 ?_) | (refine Up.sc ?_ (by first | exact Nat.le_refl _ | (simp; done) | omega) _) | (refine Up.step (by assumption) ?_))))) rfl hn).mono ?_; rintro e w2 ⟨v2, rfl, ho2, hb2⟩)
        | (go_at_call 69; refine (l11Post_any _ xs _ _ ⟨o, 1, a, t⟩ _ (hr.up (by (repeat (first | exact Up.rfl' _ | (refine Up.al _ ?_) | (refine Up.dr _ ?_) | (refine Up.dr1 ?_) | (refine Up.sc ?_ (by first | exact Nat.le_refl _ | (simp; done) | omega) _) | (refine Up.step (by assumption) ?_))))) rfl hn).mono ?_; rintro e w2 ⟨v2, rfl, ho2, hb2⟩))
    go_ret2
    rw [HR.out]
    exact ⟨v2, rfl, ho2.down (by (repeat (first | exact Up.rfl' _ | (refine Up.al _ ?_) | (refine Up.dr _ ?_) | (refine Up.dr1 ?_) | (refine Up.sc ?_ (by first | exact Nat.le_refl _ | (simp; done) | omega) _) | (refine Up.step (by assumption) ?_)))), by (repeat (first | exact Up.rfl' _ | (refine Up.al _ ?_) | (refine Up.dr _ ?_) | (refine Up.dr1 ?_) | (refine Up.sc ?_ (by first | exact Nat.le_refl _ | (simp; done) | omega) _) | (refine Up.step (by assumption) ?_)))⟩
  | false =>
  have HR := Lib.hid (show chargeV xs o a t = postV xs ⟨o, 1, a, t⟩ by simp [chargeV, h0, h1, h2])
  go_enter Try.func45, Try.ntmps45
  go_wp2_with (first
        | (go_at_call 39; refine (areLines_spec_n _ xs _ _ _ (hr.up (by (repeat (first | exact Up.rfl' _ | (refine Up.al _ ?_) | (refine Up.dr _ ?_) | (refine Up.dr1 ?_) | (refine Up.sc ?_ (by first | exact Nat.le_refl _ | (simp; done) | omega) _) | (refine Up.step (by assumption) ?_))))) rfl hc hn).mono ?_; rintro e w1 ⟨rfl, hb1⟩)
        | (go_at_call 18; refine (isLine_spec _ _ _ _ _).mono ?_; rintro e w1 ⟨rfl, hb1⟩)
        | (go_at_call 28; refine (sumOf_spec_n _ xs _ _ _ _ _ (hr.up (by (repeat (first | exact Up.rfl' _ | (refine Up.al _ ?_) | (refine Up.dr _ ?_) | (refine Up.dr1 ?_) | (refine Up.sc ?_ (by first | exact Nat.le_refl _ | (simp; done) | omega) _) | (refine Up.step (by assumption) ?_))))) rfl hn).mono ?_; rintro e w1 ⟨rfl, hb1⟩)
        | (go_at_call 41; refine (owedFor_spec _ xs _ _ _ _ (hr.up (by (repeat (first | exact Up.rfl' _ | (refine Up.al _ ?_) | (refine Up.dr _ ?_) | (refine Up.dr1 ?_) | (refine Up.sc ?_ (by first | exact Nat.le_refl _ | (simp; done) | omega) _) | (refine Up.step (by assumption) ?_))))) rfl hc hn).mono ?_; rintro e w1 ⟨rfl, hb1⟩)
        | (go_at_call 68; refine (l11Copy_any _ xs _ _ _ (hr.up (by (repeat (first | exact Up.rfl' _ | (refine Up.al _ ?_) | (refine Up.dr _ ?_) | (refine Up.dr1 ?_) | (refine Up.sc ?_ (by first | exact Nat.le_refl _ | (simp; done) | omega) _) | (refine Up.step (by assumption) ?_))))) rfl hn).mono ?_; rintro e w2 ⟨v2, rfl, ho2, hb2⟩)
        | (go_at_call 69; refine (l11Post_any _ xs _ _ ⟨o, 1, a, t⟩ _ (hr.up (by (repeat (first | exact Up.rfl' _ | (refine Up.al _ ?_) | (refine Up.dr _ ?_) | (refine Up.dr1 ?_) | (refine Up.sc ?_ (by first | exact Nat.le_refl _ | (simp; done) | omega) _) | (refine Up.step (by assumption) ?_))))) rfl hn).mono ?_; rintro e w2 ⟨v2, rfl, ho2, hb2⟩))
  go_ret2
  rw [HR.out]
  exact ⟨v2, rfl, ho2.down (by (repeat (first | exact Up.rfl' _ | (refine Up.al _ ?_) | (refine Up.dr _ ?_) | (refine Up.dr1 ?_) | (refine Up.sc ?_ (by first | exact Nat.le_refl _ | (simp; done) | omega) _) | (refine Up.step (by assumption) ?_)))), by (repeat (first | exact Up.rfl' _ | (refine Up.al _ ?_) | (refine Up.dr _ ?_) | (refine Up.dr1 ?_) | (refine Up.sc ?_ (by first | exact Nat.le_refl _ | (simp; done) | omega) _) | (refine Up.step (by assumption) ?_)))⟩
end Go.Proofs.Ytapllnlclgbbkaa
