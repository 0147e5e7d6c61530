import Derived.Test.YtapllnlclgbbkaaD4
import Derived.Test.YtapllnlclgbbkaaB4
namespace Go.Proofs.Ytapllnlclgbbkaa
set_option maxRecDepth 10000
open Go.RowKit
set_option maxHeartbeats 1000000 in
theorem refundOrder_impl (A : Option Addr) (xs : List Ln) (n c : Nat) (o du en : Int) (P : Option Addr) (ps : List Int) (pc : Nat) (t : Int) (w : World) (hr : Rd w w.heap.size A xs) (hl : n = xs.length) (hc : xs.length ≤ c) (hn : n ≤ 2000000) (hp : Rd w w.heap.size P ps) (hpn : ps.length ≤ 2000000) :
    Calls Try.prog 50 #[.slice A n c, .int .i64 o, .int .i64 du, .int .i64 en, .slice P ps.length pc, .int .i64 t] w fun e w' => ∃ v, e = .returned (.tuple #[v, .int .i64 (refundO xs o du en ps t).2]) ∧ Own w' w.heap.size 25 v (refundO xs o du en ps t).1 ∧ Up w w' := by
  subst hl
  cases h0 : linesB xs with
  | false =>
    have HR := Lib.hid (show refundO xs o du en ps t = (xs, 1) by simp [refundO, h0])
    go_enter Try.func50, Try.ntmps50
    go_wp2_with (first
        | (go_at_call 40; refine (areLines_impl_n _ xs _ _ _ (hr.up (by (repeat (first | exact Up.rfl' _ | (refine Up.al _ ?_) | (refine Up.dr _ ?_) | (refine Up.dr1 ?_) | (refine Up.sc ?_ (by first | exact Nat.le_refl _ | (simp; done) | omega) _) | (refine Up.step (by assumption) ?_))))) rfl hc hn).mono ?_; rintro e w1 ⟨rfl, hb1⟩)
        | (go_at_call 20; refine (isLine_impl _ _ _ _ _).mono ?_; rintro e w1 ⟨rfl, hb1⟩)
        | (go_at_call 30; refine (sumOf_impl_n _ xs _ _ _ _ _ (hr.up (by (repeat (first | exact Up.rfl' _ | (refine Up.al _ ?_) | (refine Up.dr _ ?_) | (refine Up.dr1 ?_) | (refine Up.sc ?_ (by first | exact Nat.le_refl _ | (simp; done) | omega) _) | (refine Up.step (by assumption) ?_))))) rfl hn).mono ?_; rintro e w1 ⟨rfl, hb1⟩)
        | (go_at_call 42; refine (owedFor_impl _ xs _ _ _ _ (hr.up (by (repeat (first | exact Up.rfl' _ | (refine Up.al _ ?_) | (refine Up.dr _ ?_) | (refine Up.dr1 ?_) | (refine Up.sc ?_ (by first | exact Nat.le_refl _ | (simp; done) | omega) _) | (refine Up.step (by assumption) ?_))))) rfl hc hn).mono ?_; rintro e w1 ⟨rfl, hb1⟩)
        | (go_at_call 70; refine (copyLines_any _ xs _ _ _ (hr.up (by (repeat (first | exact Up.rfl' _ | (refine Up.al _ ?_) | (refine Up.dr _ ?_) | (refine Up.dr1 ?_) | (refine Up.sc ?_ (by first | exact Nat.le_refl _ | (simp; done) | omega) _) | (refine Up.step (by assumption) ?_))))) rfl hn).mono ?_; rintro e w2 ⟨v2, rfl, ho2, hb2⟩)
        | (go_at_call 71; refine (addLine_any _ xs _ _ ⟨o, 3, refundV (sumLn xs o 1) du en ps, t⟩ _ (hr.up (by (repeat (first | exact Up.rfl' _ | (refine Up.al _ ?_) | (refine Up.dr _ ?_) | (refine Up.dr1 ?_) | (refine Up.sc ?_ (by first | exact Nat.le_refl _ | (simp; done) | omega) _) | (refine Up.step (by assumption) ?_))))) rfl hn).mono ?_; rintro e w2 ⟨v2, rfl, ho2, hb2⟩)
        | (go_at_call 23; refine (arePercents_impl _ _ ps _ (hp.up (by (repeat (first | exact Up.rfl' _ | (refine Up.al _ ?_) | (refine Up.dr _ ?_) | (refine Up.dr1 ?_) | (refine Up.sc ?_ (by first | exact Nat.le_refl _ | (simp; done) | omega) _) | (refine Up.step (by assumption) ?_))))) hpn).mono ?_; rintro e w1 ⟨rfl, hb1⟩)
        | (go_at_call 59; refine (within_any _ _ _ _).mono ?_; rintro e w' ⟨rfl, rfl⟩)
        | (go_at_call 26; refine (refundFor_impl _ ps _ _ _ _ _ (hp.up (by (repeat (first | exact Up.rfl' _ | (refine Up.al _ ?_) | (refine Up.dr _ ?_) | (refine Up.dr1 ?_) | (refine Up.sc ?_ (by first | exact Nat.le_refl _ | (simp; done) | omega) _) | (refine Up.step (by assumption) ?_))))) hpn).mono ?_; rintro e w1 ⟨rfl, hb1⟩))
    go_ret2
    rw [HR.out]
    exact ⟨v2, rfl, ho2.down (by (repeat (first | exact Up.rfl' _ | (refine Up.al _ ?_) | (refine Up.dr _ ?_) | (refine Up.dr1 ?_) | (refine Up.sc ?_ (by first | exact Nat.le_refl _ | (simp; done) | omega) _) | (refine Up.step (by assumption) ?_)))), by (repeat (first | exact Up.rfl' _ | (refine Up.al _ ?_) | (refine Up.dr _ ?_) | (refine Up.dr1 ?_) | (refine Up.sc ?_ (by first | exact Nat.le_refl _ | (simp; done) | omega) _) | (refine Up.step (by assumption) ?_)))⟩
  | true =>
  cases h1 : pctsB ps with
  | false =>
    have HR := Lib.hid (show refundO xs o du en ps t = (xs, 1) by simp [refundO, h0, h1])
    go_enter Try.func50, Try.ntmps50
    go_wp2_with (first
        | (go_at_call 40; refine (areLines_impl_n _ xs _ _ _ (hr.up (by (repeat (first | exact Up.rfl' _ | (refine Up.al _ ?_) | (refine Up.dr _ ?_) | (refine Up.dr1 ?_) | (refine Up.sc ?_ (by first | exact Nat.le_refl _ | (simp; done) | omega) _) | (refine Up.step (by assumption) ?_))))) rfl hc hn).mono ?_; rintro e w1 ⟨rfl, hb1⟩)
        | (go_at_call 20; refine (isLine_impl _ _ _ _ _).mono ?_; rintro e w1 ⟨rfl, hb1⟩)
        | (go_at_call 30; refine (sumOf_impl_n _ xs _ _ _ _ _ (hr.up (by (repeat (first | exact Up.rfl' _ | (refine Up.al _ ?_) | (refine Up.dr _ ?_) | (refine Up.dr1 ?_) | (refine Up.sc ?_ (by first | exact Nat.le_refl _ | (simp; done) | omega) _) | (refine Up.step (by assumption) ?_))))) rfl hn).mono ?_; rintro e w1 ⟨rfl, hb1⟩)
        | (go_at_call 42; refine (owedFor_impl _ xs _ _ _ _ (hr.up (by (repeat (first | exact Up.rfl' _ | (refine Up.al _ ?_) | (refine Up.dr _ ?_) | (refine Up.dr1 ?_) | (refine Up.sc ?_ (by first | exact Nat.le_refl _ | (simp; done) | omega) _) | (refine Up.step (by assumption) ?_))))) rfl hc hn).mono ?_; rintro e w1 ⟨rfl, hb1⟩)
        | (go_at_call 70; refine (copyLines_any _ xs _ _ _ (hr.up (by (repeat (first | exact Up.rfl' _ | (refine Up.al _ ?_) | (refine Up.dr _ ?_) | (refine Up.dr1 ?_) | (refine Up.sc ?_ (by first | exact Nat.le_refl _ | (simp; done) | omega) _) | (refine Up.step (by assumption) ?_))))) rfl hn).mono ?_; rintro e w2 ⟨v2, rfl, ho2, hb2⟩)
        | (go_at_call 71; refine (addLine_any _ xs _ _ ⟨o, 3, refundV (sumLn xs o 1) du en ps, t⟩ _ (hr.up (by (repeat (first | exact Up.rfl' _ | (refine Up.al _ ?_) | (refine Up.dr _ ?_) | (refine Up.dr1 ?_) | (refine Up.sc ?_ (by first | exact Nat.le_refl _ | (simp; done) | omega) _) | (refine Up.step (by assumption) ?_))))) rfl hn).mono ?_; rintro e w2 ⟨v2, rfl, ho2, hb2⟩)
        | (go_at_call 23; refine (arePercents_impl _ _ ps _ (hp.up (by (repeat (first | exact Up.rfl' _ | (refine Up.al _ ?_) | (refine Up.dr _ ?_) | (refine Up.dr1 ?_) | (refine Up.sc ?_ (by first | exact Nat.le_refl _ | (simp; done) | omega) _) | (refine Up.step (by assumption) ?_))))) hpn).mono ?_; rintro e w1 ⟨rfl, hb1⟩)
        | (go_at_call 59; refine (within_any _ _ _ _).mono ?_; rintro e w' ⟨rfl, rfl⟩)
        | (go_at_call 26; refine (refundFor_impl _ ps _ _ _ _ _ (hp.up (by (repeat (first | exact Up.rfl' _ | (refine Up.al _ ?_) | (refine Up.dr _ ?_) | (refine Up.dr1 ?_) | (refine Up.sc ?_ (by first | exact Nat.le_refl _ | (simp; done) | omega) _) | (refine Up.step (by assumption) ?_))))) hpn).mono ?_; rintro e w1 ⟨rfl, hb1⟩))
    go_ret2
    rw [HR.out]
    exact ⟨v2, rfl, ho2.down (by (repeat (first | exact Up.rfl' _ | (refine Up.al _ ?_) | (refine Up.dr _ ?_) | (refine Up.dr1 ?_) | (refine Up.sc ?_ (by first | exact Nat.le_refl _ | (simp; done) | omega) _) | (refine Up.step (by assumption) ?_)))), by (repeat (first | exact Up.rfl' _ | (refine Up.al _ ?_) | (refine Up.dr _ ?_) | (refine Up.dr1 ?_) | (refine Up.sc ?_ (by first | exact Nat.le_refl _ | (simp; done) | omega) _) | (refine Up.step (by assumption) ?_)))⟩
  | true =>
  cases h2 : inB o 1 9999 with
  | false =>
    have HR := Lib.hid (show refundO xs o du en ps t = (xs, 1) by simp [refundO, h0, h1, h2])
    go_enter Try.func50, Try.ntmps50
    go_wp2_with (first
        | (go_at_call 40; refine (areLines_impl_n _ xs _ _ _ (hr.up (by (repeat (first | exact Up.rfl' _ | (refine Up.al _ ?_) | (refine Up.dr _ ?_) | (refine Up.dr1 ?_) | (refine Up.sc ?_ (by first | exact Nat.le_refl _ | (simp; done) | omega) _) | (refine Up.step (by assumption) ?_))))) rfl hc hn).mono ?_; rintro e w1 ⟨rfl, hb1⟩)
        | (go_at_call 20; refine (isLine_impl _ _ _ _ _).mono ?_; rintro e w1 ⟨rfl, hb1⟩)
        | (go_at_call 30; refine (sumOf_impl_n _ xs _ _ _ _ _ (hr.up (by (repeat (first | exact Up.rfl' _ | (refine Up.al _ ?_) | (refine Up.dr _ ?_) | (refine Up.dr1 ?_) | (refine Up.sc ?_ (by first | exact Nat.le_refl _ | (simp; done) | omega) _) | (refine Up.step (by assumption) ?_))))) rfl hn).mono ?_; rintro e w1 ⟨rfl, hb1⟩)
        | (go_at_call 42; refine (owedFor_impl _ xs _ _ _ _ (hr.up (by (repeat (first | exact Up.rfl' _ | (refine Up.al _ ?_) | (refine Up.dr _ ?_) | (refine Up.dr1 ?_) | (refine Up.sc ?_ (by first | exact Nat.le_refl _ | (simp; done) | omega) _) | (refine Up.step (by assumption) ?_))))) rfl hc hn).mono ?_; rintro e w1 ⟨rfl, hb1⟩)
        | (go_at_call 70; refine (copyLines_any _ xs _ _ _ (hr.up (by (repeat (first | exact Up.rfl' _ | (refine Up.al _ ?_) | (refine Up.dr _ ?_) | (refine Up.dr1 ?_) | (refine Up.sc ?_ (by first | exact Nat.le_refl _ | (simp; done) | omega) _) | (refine Up.step (by assumption) ?_))))) rfl hn).mono ?_; rintro e w2 ⟨v2, rfl, ho2, hb2⟩)
        | (go_at_call 71; refine (addLine_any _ xs _ _ ⟨o, 3, refundV (sumLn xs o 1) du en ps, t⟩ _ (hr.up (by (repeat (first | exact Up.rfl' _ | (refine Up.al _ ?_) | (refine Up.dr _ ?_) | (refine Up.dr1 ?_) | (refine Up.sc ?_ (by first | exact Nat.le_refl _ | (simp; done) | omega) _) | (refine Up.step (by assumption) ?_))))) rfl hn).mono ?_; rintro e w2 ⟨v2, rfl, ho2, hb2⟩)
        | (go_at_call 23; refine (arePercents_impl _ _ ps _ (hp.up (by (repeat (first | exact Up.rfl' _ | (refine Up.al _ ?_) | (refine Up.dr _ ?_) | (refine Up.dr1 ?_) | (refine Up.sc ?_ (by first | exact Nat.le_refl _ | (simp; done) | omega) _) | (refine Up.step (by assumption) ?_))))) hpn).mono ?_; rintro e w1 ⟨rfl, hb1⟩)
        | (go_at_call 59; refine (within_any _ _ _ _).mono ?_; rintro e w' ⟨rfl, rfl⟩)
        | (go_at_call 26; refine (refundFor_impl _ ps _ _ _ _ _ (hp.up (by (repeat (first | exact Up.rfl' _ | (refine Up.al _ ?_) | (refine Up.dr _ ?_) | (refine Up.dr1 ?_) | (refine Up.sc ?_ (by first | exact Nat.le_refl _ | (simp; done) | omega) _) | (refine Up.step (by assumption) ?_))))) hpn).mono ?_; rintro e w1 ⟨rfl, hb1⟩))
    go_ret2
    rw [HR.out]
    exact ⟨v2, rfl, ho2.down (by (repeat (first | exact Up.rfl' _ | (refine Up.al _ ?_) | (refine Up.dr _ ?_) | (refine Up.dr1 ?_) | (refine Up.sc ?_ (by first | exact Nat.le_refl _ | (simp; done) | omega) _) | (refine Up.step (by assumption) ?_)))), by (repeat (first | exact Up.rfl' _ | (refine Up.al _ ?_) | (refine Up.dr _ ?_) | (refine Up.dr1 ?_) | (refine Up.sc ?_ (by first | exact Nat.le_refl _ | (simp; done) | omega) _) | (refine Up.step (by assumption) ?_)))⟩
  | true =>
  cases h3 : inB t 0 100000 with
  | false =>
    have HR := Lib.hid (show refundO xs o du en ps t = (xs, 1) by simp [refundO, h0, h1, h2, h3])
    go_enter Try.func50, Try.ntmps50
    go_wp2_with (first
        | (go_at_call 40; refine (areLines_impl_n _ xs _ _ _ (hr.up (by (repeat (first | exact Up.rfl' _ | (refine Up.al _ ?_) | (refine Up.dr _ ?_) | (refine Up.dr1 ?_) | (refine Up.sc ?_ (by first | exact Nat.le_refl _ | (simp; done) | omega) _) | (refine Up.step (by assumption) ?_))))) rfl hc hn).mono ?_; rintro e w1 ⟨rfl, hb1⟩)
        | (go_at_call 20; refine (isLine_impl _ _ _ _ _).mono ?_; rintro e w1 ⟨rfl, hb1⟩)
        | (go_at_call 30; refine (sumOf_impl_n _ xs _ _ _ _ _ (hr.up (by (repeat (first | exact Up.rfl' _ | (refine Up.al _ ?_) | (refine Up.dr _ ?_) | (refine Up.dr1 ?_) | (refine Up.sc ?_ (by first | exact Nat.le_refl _ | (simp; done) | omega) _) | (refine Up.step (by assumption) ?_))))) rfl hn).mono ?_; rintro e w1 ⟨rfl, hb1⟩)
        | (go_at_call 42; refine (owedFor_impl _ xs _ _ _ _ (hr.up (by (repeat (first | exact Up.rfl' _ | (refine Up.al _ ?_) | (refine Up.dr _ ?_) | (refine Up.dr1 ?_) | (refine Up.sc ?_ (by first | exact Nat.le_refl _ | (simp; done) | omega) _) | (refine Up.step (by assumption) ?_))))) rfl hc hn).mono ?_; rintro e w1 ⟨rfl, hb1⟩)
        | (go_at_call 70; refine (copyLines_any _ xs _ _ _ (hr.up (by (repeat (first | exact Up.rfl' _ | (refine Up.al _ ?_) | (refine Up.dr _ ?_) | (refine Up.dr1 ?_) | (refine Up.sc ?_ (by first | exact Nat.le_refl _ | (simp; done) | omega) _) | (refine Up.step (by assumption) ?_))))) rfl hn).mono ?_; rintro e w2 ⟨v2, rfl, ho2, hb2⟩)
        | (go_at_call 71; refine (addLine_any _ xs _ _ ⟨o, 3, refundV (sumLn xs o 1) du en ps, t⟩ _ (hr.up (by (repeat (first | exact Up.rfl' _ | (refine Up.al _ ?_) | (refine Up.dr _ ?_) | (refine Up.dr1 ?_) | (refine Up.sc ?_ (by first | exact Nat.le_refl _ | (simp; done) | omega) _) | (refine Up.step (by assumption) ?_))))) rfl hn).mono ?_; rintro e w2 ⟨v2, rfl, ho2, hb2⟩)
        | (go_at_call 23; refine (arePercents_impl _ _ ps _ (hp.up (by (repeat (first | exact Up.rfl' _ | (refine Up.al _ ?_) | (refine Up.dr _ ?_) | (refine Up.dr1 ?_) | (refine Up.sc ?_ (by first | exact Nat.le_refl _ | (simp; done) | omega) _) | (refine Up.step (by assumption) ?_))))) hpn).mono ?_; rintro e w1 ⟨rfl, hb1⟩)
        | (go_at_call 59; refine (within_any _ _ _ _).mono ?_; rintro e w' ⟨rfl, rfl⟩)
        | (go_at_call 26; refine (refundFor_impl _ ps _ _ _ _ _ (hp.up (by (repeat (first | exact Up.rfl' _ | (refine Up.al _ ?_) | (refine Up.dr _ ?_) | (refine Up.dr1 ?_) | (refine Up.sc ?_ (by first | exact Nat.le_refl _ | (simp; done) | omega) _) | (refine Up.step (by assumption) ?_))))) hpn).mono ?_; rintro e w1 ⟨rfl, hb1⟩))
    go_ret2
    rw [HR.out]
    exact ⟨v2, rfl, ho2.down (by (repeat (first | exact Up.rfl' _ | (refine Up.al _ ?_) | (refine Up.dr _ ?_) | (refine Up.dr1 ?_) | (refine Up.sc ?_ (by first | exact Nat.le_refl _ | (simp; done) | omega) _) | (refine Up.step (by assumption) ?_)))), by (repeat (first | exact Up.rfl' _ | (refine Up.al _ ?_) | (refine Up.dr _ ?_) | (refine Up.dr1 ?_) | (refine Up.sc ?_ (by first | exact Nat.le_refl _ | (simp; done) | omega) _) | (refine Up.step (by assumption) ?_)))⟩
  | true =>
  cases h4 : (sumLn xs o 1 == 0) with
  | true =>
    have HR := Lib.hid (show refundO xs o du en ps t = (xs, 3) by simp [refundO, h0, h1, h2, h3, h4])
    go_enter Try.func50, Try.ntmps50
    go_wp2_with (first
        | (go_at_call 40; refine (areLines_impl_n _ xs _ _ _ (hr.up (by (repeat (first | exact Up.rfl' _ | (refine Up.al _ ?_) | (refine Up.dr _ ?_) | (refine Up.dr1 ?_) | (refine Up.sc ?_ (by first | exact Nat.le_refl _ | (simp; done) | omega) _) | (refine Up.step (by assumption) ?_))))) rfl hc hn).mono ?_; rintro e w1 ⟨rfl, hb1⟩)
        | (go_at_call 20; refine (isLine_impl _ _ _ _ _).mono ?_; rintro e w1 ⟨rfl, hb1⟩)
        | (go_at_call 30; refine (sumOf_impl_n _ xs _ _ _ _ _ (hr.up (by (repeat (first | exact Up.rfl' _ | (refine Up.al _ ?_) | (refine Up.dr _ ?_) | (refine Up.dr1 ?_) | (refine Up.sc ?_ (by first | exact Nat.le_refl _ | (simp; done) | omega) _) | (refine Up.step (by assumption) ?_))))) rfl hn).mono ?_; rintro e w1 ⟨rfl, hb1⟩)
        | (go_at_call 42; refine (owedFor_impl _ xs _ _ _ _ (hr.up (by (repeat (first | exact Up.rfl' _ | (refine Up.al _ ?_) | (refine Up.dr _ ?_) | (refine Up.dr1 ?_) | (refine Up.sc ?_ (by first | exact Nat.le_refl _ | (simp; done) | omega) _) | (refine Up.step (by assumption) ?_))))) rfl hc hn).mono ?_; rintro e w1 ⟨rfl, hb1⟩)
        | (go_at_call 70; refine (copyLines_any _ xs _ _ _ (hr.up (by (repeat (first | exact Up.rfl' _ | (refine Up.al _ ?_) | (refine Up.dr _ ?_) | (refine Up.dr1 ?_) | (refine Up.sc ?_ (by first | exact Nat.le_refl _ | (simp; done) | omega) _) | (refine Up.step (by assumption) ?_))))) rfl hn).mono ?_; rintro e w2 ⟨v2, rfl, ho2, hb2⟩)
        | (go_at_call 71; refine (addLine_any _ xs _ _ ⟨o, 3, refundV (sumLn xs o 1) du en ps, t⟩ _ (hr.up (by (repeat (first | exact Up.rfl' _ | (refine Up.al _ ?_) | (refine Up.dr _ ?_) | (refine Up.dr1 ?_) | (refine Up.sc ?_ (by first | exact Nat.le_refl _ | (simp; done) | omega) _) | (refine Up.step (by assumption) ?_))))) rfl hn).mono ?_; rintro e w2 ⟨v2, rfl, ho2, hb2⟩)
        | (go_at_call 23; refine (arePercents_impl _ _ ps _ (hp.up (by (repeat (first | exact Up.rfl' _ | (refine Up.al _ ?_) | (refine Up.dr _ ?_) | (refine Up.dr1 ?_) | (refine Up.sc ?_ (by first | exact Nat.le_refl _ | (simp; done) | omega) _) | (refine Up.step (by assumption) ?_))))) hpn).mono ?_; rintro e w1 ⟨rfl, hb1⟩)
        | (go_at_call 59; refine (within_any _ _ _ _).mono ?_; rintro e w' ⟨rfl, rfl⟩)
        | (go_at_call 26; refine (refundFor_impl _ ps _ _ _ _ _ (hp.up (by (repeat (first | exact Up.rfl' _ | (refine Up.al _ ?_) | (refine Up.dr _ ?_) | (refine Up.dr1 ?_) | (refine Up.sc ?_ (by first | exact Nat.le_refl _ | (simp; done) | omega) _) | (refine Up.step (by assumption) ?_))))) hpn).mono ?_; rintro e w1 ⟨rfl, hb1⟩))
    go_ret2
    rw [HR.out]
    exact ⟨v2, rfl, ho2.down (by (repeat (first | exact Up.rfl' _ | (refine Up.al _ ?_) | (refine Up.dr _ ?_) | (refine Up.dr1 ?_) | (refine Up.sc ?_ (by first | exact Nat.le_refl _ | (simp; done) | omega) _) | (refine Up.step (by assumption) ?_)))), by (repeat (first | exact Up.rfl' _ | (refine Up.al _ ?_) | (refine Up.dr _ ?_) | (refine Up.dr1 ?_) | (refine Up.sc ?_ (by first | exact Nat.le_refl _ | (simp; done) | omega) _) | (refine Up.step (by assumption) ?_)))⟩
  | false =>
  cases h5 : decide (0 < owedV xs o) with
  | true =>
    have HR := Lib.hid (show refundO xs o du en ps t = (xs, 3) by simp [refundO, h0, h1, h2, h3, h4, h5])
    go_enter Try.func50, Try.ntmps50
    go_wp2_with (first
        | (go_at_call 40; refine (areLines_impl_n _ xs _ _ _ (hr.up (by (repeat (first | exact Up.rfl' _ | (refine Up.al _ ?_) | (refine Up.dr _ ?_) | (refine Up.dr1 ?_) | (refine Up.sc ?_ (by first | exact Nat.le_refl _ | (simp; done) | omega) _) | (refine Up.step (by assumption) ?_))))) rfl hc hn).mono ?_; rintro e w1 ⟨rfl, hb1⟩)
        | (go_at_call 20; refine (isLine_impl _ _ _ _ _).mono ?_; rintro e w1 ⟨rfl, hb1⟩)
        | (go_at_call 30; refine (sumOf_impl_n _ xs _ _ _ _ _ (hr.up (by (repeat (first | exact Up.rfl' _ | (refine Up.al _ ?_) | (refine Up.dr _ ?_) | (refine Up.dr1 ?_) | (refine Up.sc ?_ (by first | exact Nat.le_refl _ | (simp; done) | omega) _) | (refine Up.step (by assumption) ?_))))) rfl hn).mono ?_; rintro e w1 ⟨rfl, hb1⟩)
        | (go_at_call 42; refine (owedFor_impl _ xs _ _ _ _ (hr.up (by (repeat (first | exact Up.rfl' _ | (refine Up.al _ ?_) | (refine Up.dr _ ?_) | (refine Up.dr1 ?_) | (refine Up.sc ?_ (by first | exact Nat.le_refl _ | (simp; done) | omega) _) | (refine Up.step (by assumption) ?_))))) rfl hc hn).mono ?_; rintro e w1 ⟨rfl, hb1⟩)
        | (go_at_call 70; refine (copyLines_any _ xs _ _ _ (hr.up (by (repeat (first | exact Up.rfl' _ | (refine Up.al _ ?_) | (refine Up.dr _ ?_) | (refine Up.dr1 ?_) | (refine Up.sc ?_ (by first | exact Nat.le_refl _ | (simp; done) | omega) _) | (refine Up.step (by assumption) ?_))))) rfl hn).mono ?_; rintro e w2 ⟨v2, rfl, ho2, hb2⟩)
        | (go_at_call 71; refine (addLine_any _ xs _ _ ⟨o, 3, refundV (sumLn xs o 1) du en ps, t⟩ _ (hr.up (by (repeat (first | exact Up.rfl' _ | (refine Up.al _ ?_) | (refine Up.dr _ ?_) | (refine Up.dr1 ?_) | (refine Up.sc ?_ (by first | exact Nat.le_refl _ | (simp; done) | omega) _) | (refine Up.step (by assumption) ?_))))) rfl hn).mono ?_; rintro e w2 ⟨v2, rfl, ho2, hb2⟩)
        | (go_at_call 23; refine (arePercents_impl _ _ ps _ (hp.up (by (repeat (first | exact Up.rfl' _ | (refine Up.al _ ?_) | (refine Up.dr _ ?_) | (refine Up.dr1 ?_) | (refine Up.sc ?_ (by first | exact Nat.le_refl _ | (simp; done) | omega) _) | (refine Up.step (by assumption) ?_))))) hpn).mono ?_; rintro e w1 ⟨rfl, hb1⟩)
        | (go_at_call 59; refine (within_any _ _ _ _).mono ?_; rintro e w' ⟨rfl, rfl⟩)
        | (go_at_call 26; refine (refundFor_impl _ ps _ _ _ _ _ (hp.up (by (repeat (first | exact Up.rfl' _ | (refine Up.al _ ?_) | (refine Up.dr _ ?_) | (refine Up.dr1 ?_) | (refine Up.sc ?_ (by first | exact Nat.le_refl _ | (simp; done) | omega) _) | (refine Up.step (by assumption) ?_))))) hpn).mono ?_; rintro e w1 ⟨rfl, hb1⟩))
    go_ret2
    rw [HR.out]
    exact ⟨v2, rfl, ho2.down (by (repeat (first | exact Up.rfl' _ | (refine Up.al _ ?_) | (refine Up.dr _ ?_) | (refine Up.dr1 ?_) | (refine Up.sc ?_ (by first | exact Nat.le_refl _ | (simp; done) | omega) _) | (refine Up.step (by assumption) ?_)))), by (repeat (first | exact Up.rfl' _ | (refine Up.al _ ?_) | (refine Up.dr _ ?_) | (refine Up.dr1 ?_) | (refine Up.sc ?_ (by first | exact Nat.le_refl _ | (simp; done) | omega) _) | (refine Up.step (by assumption) ?_)))⟩
  | false =>
  cases h6 : decide (0 < sumLn xs o 3) with
  | true =>
    have HR := Lib.hid (show refundO xs o du en ps t = (xs, 2) by simp [refundO, h0, h1, h2, h3, h4, h5, h6])
    go_enter Try.func50, Try.ntmps50
    go_wp2_with (first
        | (go_at_call 40; refine (areLines_impl_n _ xs _ _ _ (hr.up (by (repeat (first | exact Up.rfl' _ | (refine Up.al _ ?_) | (refine Up.dr _ ?_) | (refine Up.dr1 ?_) | (refine Up.sc ?_ (by first | exact Nat.le_refl _ | (simp; done) | omega) _) | (refine Up.step (by assumption) ?_))))) rfl hc hn).mono ?_; rintro e w1 ⟨rfl, hb1⟩)
        | (go_at_call 20; refine (isLine_impl _ _ _ _ _).mono ?_; rintro e w1 ⟨rfl, hb1⟩)
        | (go_at_call 30; refine (sumOf_impl_n _ xs _ _ _ _ _ (hr.up (by (repeat (first | exact Up.rfl' _ | (refine Up.al _ ?_) | (refine Up.dr _ ?_) | (refine Up.dr1 ?_) | (refine Up.sc ?_ (by first | exact Nat.le_refl _ | (simp; done) | omega) _) | (refine Up.step (by assumption) ?_))))) rfl hn).mono ?_; rintro e w1 ⟨rfl, hb1⟩)
        | (go_at_call 42; refine (owedFor_impl _ xs _ _ _ _ (hr.up (by (repeat (first | exact Up.rfl' _ | (refine Up.al _ ?_) | (refine Up.dr _ ?_) | (refine Up.dr1 ?_) | (refine Up.sc ?_ (by first | exact Nat.le_refl _ | (simp; done) | omega) _) | (refine Up.step (by assumption) ?_))))) rfl hc hn).mono ?_; rintro e w1 ⟨rfl, hb1⟩)
        | (go_at_call 70; refine (copyLines_any _ xs _ _ _ (hr.up (by (repeat (first | exact Up.rfl' _ | (refine Up.al _ ?_) | (refine Up.dr _ ?_) | (refine Up.dr1 ?_) | (refine Up.sc ?_ (by first | exact Nat.le_refl _ | (simp; done) | omega) _) | (refine Up.step (by assumption) ?_))))) rfl hn).mono ?_; rintro e w2 ⟨v2, rfl, ho2, hb2⟩)
        | (go_at_call 71; refine (addLine_any _ xs _ _ ⟨o, 3, refundV (sumLn xs o 1) du en ps, t⟩ _ (hr.up (by (repeat (first | exact Up.rfl' _ | (refine Up.al _ ?_) | (refine Up.dr _ ?_) | (refine Up.dr1 ?_) | (refine Up.sc ?_ (by first | exact Nat.le_refl _ | (simp; done) | omega) _) | (refine Up.step (by assumption) ?_))))) rfl hn).mono ?_; rintro e w2 ⟨v2, rfl, ho2, hb2⟩)
        | (go_at_call 23; refine (arePercents_impl _ _ ps _ (hp.up (by (repeat (first | exact Up.rfl' _ | (refine Up.al _ ?_) | (refine Up.dr _ ?_) | (refine Up.dr1 ?_) | (refine Up.sc ?_ (by first | exact Nat.le_refl _ | (simp; done) | omega) _) | (refine Up.step (by assumption) ?_))))) hpn).mono ?_; rintro e w1 ⟨rfl, hb1⟩)
        | (go_at_call 59; refine (within_any _ _ _ _).mono ?_; rintro e w' ⟨rfl, rfl⟩)
        | (go_at_call 26; refine (refundFor_impl _ ps _ _ _ _ _ (hp.up (by (repeat (first | exact Up.rfl' _ | (refine Up.al _ ?_) | (refine Up.dr _ ?_) | (refine Up.dr1 ?_) | (refine Up.sc ?_ (by first | exact Nat.le_refl _ | (simp; done) | omega) _) | (refine Up.step (by assumption) ?_))))) hpn).mono ?_; rintro e w1 ⟨rfl, hb1⟩))
    go_ret2
    rw [HR.out]
    exact ⟨v2, rfl, ho2.down (by (repeat (first | exact Up.rfl' _ | (refine Up.al _ ?_) | (refine Up.dr _ ?_) | (refine Up.dr1 ?_) | (refine Up.sc ?_ (by first | exact Nat.le_refl _ | (simp; done) | omega) _) | (refine Up.step (by assumption) ?_)))), by (repeat (first | exact Up.rfl' _ | (refine Up.al _ ?_) | (refine Up.dr _ ?_) | (refine Up.dr1 ?_) | (refine Up.sc ?_ (by first | exact Nat.le_refl _ | (simp; done) | omega) _) | (refine Up.step (by assumption) ?_)))⟩
  | false =>
  cases h7 : (refundV (sumLn xs o 1) du en ps == 0) with
  | true =>
    have HR := Lib.hid (show refundO xs o du en ps t = (xs, 4) by simp [refundO, h0, h1, h2, h3, h4, h5, h6, h7])
    go_enter Try.func50, Try.ntmps50
    go_wp2_with (first
        | (go_at_call 40; refine (areLines_impl_n _ xs _ _ _ (hr.up (by (repeat (first | exact Up.rfl' _ | (refine Up.al _ ?_) | (refine Up.dr _ ?_) | (refine Up.dr1 ?_) | (refine Up.sc ?_ (by first | exact Nat.le_refl _ | (simp; done) | omega) _) | (refine Up.step (by assumption) ?_))))) rfl hc hn).mono ?_; rintro e w1 ⟨rfl, hb1⟩)
        | (go_at_call 20; refine (isLine_impl _ _ _ _ _).mono ?_; rintro e w1 ⟨rfl, hb1⟩)
        | (go_at_call 30; refine (sumOf_impl_n _ xs _ _ _ _ _ (hr.up (by (repeat (first | exact Up.rfl' _ | (refine Up.al _ ?_) | (refine Up.dr _ ?_) | (refine Up.dr1 ?_) | (refine Up.sc ?_ (by first | exact Nat.le_refl _ | (simp; done) | omega) _) | (refine Up.step (by assumption) ?_))))) rfl hn).mono ?_; rintro e w1 ⟨rfl, hb1⟩)
        | (go_at_call 42; refine (owedFor_impl _ xs _ _ _ _ (hr.up (by (repeat (first | exact Up.rfl' _ | (refine Up.al _ ?_) | (refine Up.dr _ ?_) | (refine Up.dr1 ?_) | (refine Up.sc ?_ (by first | exact Nat.le_refl _ | (simp; done) | omega) _) | (refine Up.step (by assumption) ?_))))) rfl hc hn).mono ?_; rintro e w1 ⟨rfl, hb1⟩)
        | (go_at_call 70; refine (copyLines_any _ xs _ _ _ (hr.up (by (repeat (first | exact Up.rfl' _ | (refine Up.al _ ?_) | (refine Up.dr _ ?_) | (refine Up.dr1 ?_) | (refine Up.sc ?_ (by first | exact Nat.le_refl _ | (simp; done) | omega) _) | (refine Up.step (by assumption) ?_))))) rfl hn).mono ?_; rintro e w2 ⟨v2, rfl, ho2, hb2⟩)
        | (go_at_call 71; refine (addLine_any _ xs _ _ ⟨o, 3, refundV (sumLn xs o 1) du en ps, t⟩ _ (hr.up (by (repeat (first | exact Up.rfl' _ | (refine Up.al _ ?_) | (refine Up.dr _ ?_) | (refine Up.dr1 ?_) | (refine Up.sc ?_ (by first | exact Nat.le_refl _ | (simp; done) | omega) _) | (refine Up.step (by assumption) ?_))))) rfl hn).mono ?_; rintro e w2 ⟨v2, rfl, ho2, hb2⟩)
        | (go_at_call 23; refine (arePercents_impl _ _ ps _ (hp.up (by (repeat (first | exact Up.rfl' _ | (refine Up.al _ ?_) | (refine Up.dr _ ?_) | (refine Up.dr1 ?_) | (refine Up.sc ?_ (by first | exact Nat.le_refl _ | (simp; done) | omega) _) | (refine Up.step (by assumption) ?_))))) hpn).mono ?_; rintro e w1 ⟨rfl, hb1⟩)
        | (go_at_call 59; refine (within_any _ _ _ _).mono ?_; rintro e w' ⟨rfl, rfl⟩)
        | (go_at_call 26; refine (refundFor_impl _ ps _ _ _ _ _ (hp.up (by (repeat (first | exact Up.rfl' _ | (refine Up.al _ ?_) | (refine Up.dr _ ?_) | (refine Up.dr1 ?_) | (refine Up.sc ?_ (by first | exact Nat.le_refl _ | (simp; done) | omega) _) | (refine Up.step (by assumption) ?_))))) hpn).mono ?_; rintro e w1 ⟨rfl, hb1⟩))
    go_ret2
    rw [HR.out]
    exact ⟨v2, rfl, ho2.down (by (repeat (first | exact Up.rfl' _ | (refine Up.al _ ?_) | (refine Up.dr _ ?_) | (refine Up.dr1 ?_) | (refine Up.sc ?_ (by first | exact Nat.le_refl _ | (simp; done) | omega) _) | (refine Up.step (by assumption) ?_)))), by (repeat (first | exact Up.rfl' _ | (refine Up.al _ ?_) | (refine Up.dr _ ?_) | (refine Up.dr1 ?_) | (refine Up.sc ?_ (by first | exact Nat.le_refl _ | (simp; done) | omega) _) | (refine Up.step (by assumption) ?_)))⟩
  | false =>
  have HR := Lib.hid (show refundO xs o du en ps t = postV xs ⟨o, 3, refundV (sumLn xs o 1) du en ps, t⟩ by simp [refundO, h0, h1, h2, h3, h4, h5, h6, h7])
  go_enter Try.func50, Try.ntmps50
  go_wp2_with (first
        | (go_at_call 40; refine (areLines_impl_n _ xs _ _ _ (hr.up (by (repeat (first | exact Up.rfl' _ | (refine Up.al _ ?_) | (refine Up.dr _ ?_) | (refine Up.dr1 ?_) | (refine Up.sc ?_ (by first | exact Nat.le_refl _ | (simp; done) | omega) _) | (refine Up.step (by assumption) ?_))))) rfl hc hn).mono ?_; rintro e w1 ⟨rfl, hb1⟩)
        | (go_at_call 20; refine (isLine_impl _ _ _ _ _).mono ?_; rintro e w1 ⟨rfl, hb1⟩)
        | (go_at_call 30; refine (sumOf_impl_n _ xs _ _ _ _ _ (hr.up (by (repeat (first | exact Up.rfl' _ | (refine Up.al _ ?_) | (refine Up.dr _ ?_) | (refine Up.dr1 ?_) | (refine Up.sc ?_ (by first | exact Nat.le_refl _ | (simp; done) | omega) _) | (refine Up.step (by assumption) ?_))))) rfl hn).mono ?_; rintro e w1 ⟨rfl, hb1⟩)
        | (go_at_call 42; refine (owedFor_impl _ xs _ _ _ _ (hr.up (by (repeat (first | exact Up.rfl' _ | (refine Up.al _ ?_) | (refine Up.dr _ ?_) | (refine Up.dr1 ?_) | (refine Up.sc ?_ (by first | exact Nat.le_refl _ | (simp; done) | omega) _) | (refine Up.step (by assumption) ?_))))) rfl hc hn).mono ?_; rintro e w1 ⟨rfl, hb1⟩)
        | (go_at_call 70; refine (copyLines_any _ xs _ _ _ (hr.up (by (repeat (first | exact Up.rfl' _ | (refine Up.al _ ?_) | (refine Up.dr _ ?_) | (refine Up.dr1 ?_) | (refine Up.sc ?_ (by first | exact Nat.le_refl _ | (simp; done) | omega) _) | (refine Up.step (by assumption) ?_))))) rfl hn).mono ?_; rintro e w2 ⟨v2, rfl, ho2, hb2⟩)
        | (go_at_call 71; refine (addLine_any _ xs _ _ ⟨o, 3, refundV (sumLn xs o 1) du en ps, t⟩ _ (hr.up (by (repeat (first | exact Up.rfl' _ | (refine Up.al _ ?_) | (refine Up.dr _ ?_) | (refine Up.dr1 ?_) | (refine Up.sc ?_ (by first | exact Nat.le_refl _ | (simp; done) | omega) _) | (refine Up.step (by assumption) ?_))))) rfl hn).mono ?_; rintro e w2 ⟨v2, rfl, ho2, hb2⟩)
        | (go_at_call 23; refine (arePercents_impl _ _ ps _ (hp.up (by (repeat (first | exact Up.rfl' _ | (refine Up.al _ ?_) | (refine Up.dr _ ?_) | (refine Up.dr1 ?_) | (refine Up.sc ?_ (by first | exact Nat.le_refl _ | (simp; done) | omega) _) | (refine Up.step (by assumption) ?_))))) hpn).mono ?_; rintro e w1 ⟨rfl, hb1⟩)
        | (go_at_call 59; refine (within_any _ _ _ _).mono ?_; rintro e w' ⟨rfl, rfl⟩)
        | (go_at_call 26; refine (refundFor_impl _ ps _ _ _ _ _ (hp.up (by (repeat (first | exact Up.rfl' _ | (refine Up.al _ ?_) | (refine Up.dr _ ?_) | (refine Up.dr1 ?_) | (refine Up.sc ?_ (by first | exact Nat.le_refl _ | (simp; done) | omega) _) | (refine Up.step (by assumption) ?_))))) hpn).mono ?_; rintro e w1 ⟨rfl, hb1⟩))
  go_ret2
  rw [HR.out]
  exact ⟨v2, rfl, ho2.down (by (repeat (first | exact Up.rfl' _ | (refine Up.al _ ?_) | (refine Up.dr _ ?_) | (refine Up.dr1 ?_) | (refine Up.sc ?_ (by first | exact Nat.le_refl _ | (simp; done) | omega) _) | (refine Up.step (by assumption) ?_)))), by (repeat (first | exact Up.rfl' _ | (refine Up.al _ ?_) | (refine Up.dr _ ?_) | (refine Up.dr1 ?_) | (refine Up.sc ?_ (by first | exact Nat.le_refl _ | (simp; done) | omega) _) | (refine Up.step (by assumption) ?_)))⟩
set_option maxHeartbeats 1000000 in
theorem refundOrder_spec (A : Option Addr) (xs : List Ln) (n c : Nat) (o du en : Int) (P : Option Addr) (ps : List Int) (pc : Nat) (t : Int) (w : World) (hr : Rd w w.heap.size A xs) (hl : n = xs.length) (hc : xs.length ≤ c) (hn : n ≤ 2000000) (hp : Rd w w.heap.size P ps) (hpn : ps.length ≤ 2000000) :
    Calls Try.prog 49 #[.slice A n c, .int .i64 o, .int .i64 du, .int .i64 en, .slice P ps.length pc, .int .i64 t] w fun e w' => ∃ v, e = .returned (.tuple #[v, .int .i64 (refundO xs o du en ps t).2]) ∧ Own w' w.heap.size 25 v (refundO xs o du en ps t).1 ∧ Up w w' := by
  subst hl
  cases h0 : linesB xs with
  | false =>
    have HR := Lib.hid (show refundO xs o du en ps t = (xs, 1) by simp [refundO, h0])
    go_enter Try.func49, Try.ntmps49
    go_wp2_with (first
        | (go_at_call 39; refine (areLines_spec_n _ xs _ _ _ (hr.up (by (repeat (first | exact Up.rfl' _ | (refine Up.al _ ?_) | (refine Up.dr _ ?_) | (refine Up.dr1 ?_) | (refine Up.sc ?_ (by first | exact Nat.le_refl _ | (simp; done) | omega) _) | (refine Up.step (by assumption) ?_))))) rfl hc hn).mono ?_; rintro e w1 ⟨rfl, hb1⟩)
        | (go_at_call 18; refine (isLine_spec _ _ _ _ _).mono ?_; rintro e w1 ⟨rfl, hb1⟩)
        | (go_at_call 28; refine (sumOf_spec_n _ xs _ _ _ _ _ (hr.up (by (repeat (first | exact Up.rfl' _ | (refine Up.al _ ?_) | (refine Up.dr _ ?_) | (refine Up.dr1 ?_) | (refine Up.sc ?_ (by first | exact Nat.le_refl _ | (simp; done) | omega) _) | (refine Up.step (by assumption) ?_))))) rfl hn).mono ?_; rintro e w1 ⟨rfl, hb1⟩)
        | (go_at_call 41; refine (owedFor_spec _ xs _ _ _ _ (hr.up (by (repeat (first | exact Up.rfl' _ | (refine Up.al _ ?_) | (refine Up.dr _ ?_) | (refine Up.dr1 ?_) | (refine Up.sc ?_ (by first | exact Nat.le_refl _ | (simp; done) | omega) _) | (refine Up.step (by assumption) ?_))))) rfl hc hn).mono ?_; rintro e w1 ⟨rfl, hb1⟩)
        | (go_at_call 68; refine (l11Copy_any _ xs _ _ _ (hr.up (by (repeat (first | exact Up.rfl' _ | (refine Up.al _ ?_) | (refine Up.dr _ ?_) | (refine Up.dr1 ?_) | (refine Up.sc ?_ (by first | exact Nat.le_refl _ | (simp; done) | omega) _) | (refine Up.step (by assumption) ?_))))) rfl hn).mono ?_; rintro e w2 ⟨v2, rfl, ho2, hb2⟩)
        | (go_at_call 69; refine (l11Post_any _ xs _ _ ⟨o, 3, refundV (sumLn xs o 1) du en ps, t⟩ _ (hr.up (by (repeat (first | exact Up.rfl' _ | (refine Up.al _ ?_) | (refine Up.dr _ ?_) | (refine Up.dr1 ?_) | (refine Up.sc ?_ (by first | exact Nat.le_refl _ | (simp; done) | omega) _) | (refine Up.step (by assumption) ?_))))) rfl hn).mono ?_; rintro e w2 ⟨v2, rfl, ho2, hb2⟩)
        | (go_at_call 21; refine (arePercents_spec _ _ ps _ (hp.up (by (repeat (first | exact Up.rfl' _ | (refine Up.al _ ?_) | (refine Up.dr _ ?_) | (refine Up.dr1 ?_) | (refine Up.sc ?_ (by first | exact Nat.le_refl _ | (simp; done) | omega) _) | (refine Up.step (by assumption) ?_))))) hpn).mono ?_; rintro e w1 ⟨rfl, hb1⟩)
        | (go_at_call 58; refine (l1In_any _ _ _ _).mono ?_; rintro e w' ⟨rfl, rfl⟩)
        | (go_at_call 25; refine (refundFor_spec _ ps _ _ _ _ _ (hp.up (by (repeat (first | exact Up.rfl' _ | (refine Up.al _ ?_) | (refine Up.dr _ ?_) | (refine Up.dr1 ?_) | (refine Up.sc ?_ (by first | exact Nat.le_refl _ | (simp; done) | omega) _) | (refine Up.step (by assumption) ?_))))) hpn).mono ?_; rintro e w1 ⟨rfl, hb1⟩)
        | (go_at_call 67; refine (l11Count_n _ xs _ _ _ _ _ (hr.up (by (repeat (first | exact Up.rfl' _ | (refine Up.al _ ?_) | (refine Up.dr _ ?_) | (refine Up.dr1 ?_) | (refine Up.sc ?_ (by first | exact Nat.le_refl _ | (simp; done) | omega) _) | (refine Up.step (by assumption) ?_))))) rfl hn).mono ?_; rintro e w1 ⟨rfl, hb1⟩))
    go_ret2
    rw [HR.out]
    exact ⟨v2, rfl, ho2.down (by (repeat (first | exact Up.rfl' _ | (refine Up.al _ ?_) | (refine Up.dr _ ?_) | (refine Up.dr1 ?_) | (refine Up.sc ?_ (by first | exact Nat.le_refl _ | (simp; done) | omega) _) | (refine Up.step (by assumption) ?_)))), by (repeat (first | exact Up.rfl' _ | (refine Up.al _ ?_) | (refine Up.dr _ ?_) | (refine Up.dr1 ?_) | (refine Up.sc ?_ (by first | exact Nat.le_refl _ | (simp; done) | omega) _) | (refine Up.step (by assumption) ?_)))⟩
  | true =>
  cases h1 : pctsB ps with
  | false =>
    have HR := Lib.hid (show refundO xs o du en ps t = (xs, 1) by simp [refundO, h0, h1])
    go_enter Try.func49, Try.ntmps49
    go_wp2_with (first
        | (go_at_call 39; refine (areLines_spec_n _ xs _ _ _ (hr.up (by (repeat (first | exact Up.rfl' _ | (refine Up.al _ ?_) | (refine Up.dr _ ?_) | (refine Up.dr1 ?_) | (refine Up.sc ?_ (by first | exact Nat.le_refl _ | (simp; done) | omega) _) | (refine Up.step (by assumption) ?_))))) rfl hc hn).mono ?_; rintro e w1 ⟨rfl, hb1⟩)
        | (go_at_call 18; refine (isLine_spec _ _ _ _ _).mono ?_; rintro e w1 ⟨rfl, hb1⟩)
        | (go_at_call 28; refine (sumOf_spec_n _ xs _ _ _ _ _ (hr.up (by (repeat (first | exact Up.rfl' _ | (refine Up.al _ ?_) | (refine Up.dr _ ?_) | (refine Up.dr1 ?_) | (refine Up.sc ?_ (by first | exact Nat.le_refl _ | (simp; done) | omega) _) | (refine Up.step (by assumption) ?_))))) rfl hn).mono ?_; rintro e w1 ⟨rfl, hb1⟩)
        | (go_at_call 41; refine (owedFor_spec _ xs _ _ _ _ (hr.up (by (repeat (first | exact Up.rfl' _ | (refine Up.al _ ?_) | (refine Up.dr _ ?_) | (refine Up.dr1 ?_) | (refine Up.sc ?_ (by first | exact Nat.le_refl _ | (simp; done) | omega) _) | (refine Up.step (by assumption) ?_))))) rfl hc hn).mono ?_; rintro e w1 ⟨rfl, hb1⟩)
        | (go_at_call 68; refine (l11Copy_any _ xs _ _ _ (hr.up (by (repeat (first | exact Up.rfl' _ | (refine Up.al _ ?_) | (refine Up.dr _ ?_) | (refine Up.dr1 ?_) | (refine Up.sc ?_ (by first | exact Nat.le_refl _ | (simp; done) | omega) _) | (refine Up.step (by assumption) ?_))))) rfl hn).mono ?_; rintro e w2 ⟨v2, rfl, ho2, hb2⟩)
        | (go_at_call 69; refine (l11Post_any _ xs _ _ ⟨o, 3, refundV (sumLn xs o 1) du en ps, t⟩ _ (hr.up (by (repeat (first | exact Up.rfl' _ | (refine Up.al _ ?_) | (refine Up.dr _ ?_) | (refine Up.dr1 ?_) | (refine Up.sc ?_ (by first | exact Nat.le_refl _ | (simp; done) | omega) _) | (refine Up.step (by assumption) ?_))))) rfl hn).mono ?_; rintro e w2 ⟨v2, rfl, ho2, hb2⟩)
        | (go_at_call 21; refine (arePercents_spec _ _ ps _ (hp.up (by (repeat (first | exact Up.rfl' _ | (refine Up.al _ ?_) | (refine Up.dr _ ?_) | (refine Up.dr1 ?_) | (refine Up.sc ?_ (by first | exact Nat.le_refl _ | (simp; done) | omega) _) | (refine Up.step (by assumption) ?_))))) hpn).mono ?_; rintro e w1 ⟨rfl, hb1⟩)
        | (go_at_call 58; refine (l1In_any _ _ _ _).mono ?_; rintro e w' ⟨rfl, rfl⟩)
        | (go_at_call 25; refine (refundFor_spec _ ps _ _ _ _ _ (hp.up (by (repeat (first | exact Up.rfl' _ | (refine Up.al _ ?_) | (refine Up.dr _ ?_) | (refine Up.dr1 ?_) | (refine Up.sc ?_ (by first | exact Nat.le_refl _ | (simp; done) | omega) _) | (refine Up.step (by assumption) ?_))))) hpn).mono ?_; rintro e w1 ⟨rfl, hb1⟩)
        | (go_at_call 67; refine (l11Count_n _ xs _ _ _ _ _ (hr.up (by (repeat (first | exact Up.rfl' _ | (refine Up.al _ ?_) | (refine Up.dr _ ?_) | (refine Up.dr1 ?_) | (refine Up.sc ?_ (by first | exact Nat.le_refl _ | (simp; done) | omega) _) | (refine Up.step (by assumption) ?_))))) rfl hn).mono ?_; rintro e w1 ⟨rfl, hb1⟩))
    go_ret2
    rw [HR.out]
    exact ⟨v2, rfl, ho2.down (by (repeat (first | exact Up.rfl' _ | (refine Up.al _ ?_) | (refine Up.dr _ ?_) | (refine Up.dr1 ?_) | (refine Up.sc ?_ (by first | exact Nat.le_refl _ | (simp; done) | omega) _) | (refine Up.step (by assumption) ?_)))), by (repeat (first | exact Up.rfl' _ | (refine Up.al _ ?_) | (refine Up.dr _ ?_) | (refine Up.dr1 ?_) | (refine Up.sc ?_ (by first | exact Nat.le_refl _ | (simp; done) | omega) _) | (refine Up.step (by assumption) ?_)))⟩
  | true =>
  cases h2 : inB o 1 9999 with
  | false =>
    have HR := Lib.hid (show refundO xs o du en ps t = (xs, 1) by simp [refundO, h0, h1, h2])
    go_enter Try.func49, Try.ntmps49
    go_wp2_with (first
        | (go_at_call 39; refine (areLines_spec_n _ xs _ _ _ (hr.up (by (repeat (first | exact Up.rfl' _ | (refine Up.al _ ?_) | (refine Up.dr _ ?_) | (refine Up.dr1 ?_) | (refine Up.sc ?_ (by first | exact Nat.le_refl _ | (simp; done) | omega) _) | (refine Up.step (by assumption) ?_))))) rfl hc hn).mono ?_; rintro e w1 ⟨rfl, hb1⟩)
        | (go_at_call 18; refine (isLine_spec _ _ _ _ _).mono ?_; rintro e w1 ⟨rfl, hb1⟩)
        | (go_at_call 28; refine (sumOf_spec_n _ xs _ _ _ _ _ (hr.up (by (repeat (first | exact Up.rfl' _ | (refine Up.al _ ?_) | (refine Up.dr _ ?_) | (refine Up.dr1 ?_) | (refine Up.sc ?_ (by first | exact Nat.le_refl _ | (simp; done) | omega) _) | (refine Up.step (by assumption) ?_))))) rfl hn).mono ?_; rintro e w1 ⟨rfl, hb1⟩)
        | (go_at_call 41; refine (owedFor_spec _ xs _ _ _ _ (hr.up (by (repeat (first | exact Up.rfl' _ | (refine Up.al _ ?_) | (refine Up.dr _ ?_) | (refine Up.dr1 ?_) | (refine Up.sc ?_ (by first | exact Nat.le_refl _ | (simp; done) | omega) _) | (refine Up.step (by assumption) ?_))))) rfl hc hn).mono ?_; rintro e w1 ⟨rfl, hb1⟩)
        | (go_at_call 68; refine (l11Copy_any _ xs _ _ _ (hr.up (by (repeat (first | exact Up.rfl' _ | (refine Up.al _ ?_) | (refine Up.dr _ ?_) | (refine Up.dr1 ?_) | (refine Up.sc ?_ (by first | exact Nat.le_refl _ | (simp; done) | omega) _) | (refine Up.step (by assumption) ?_))))) rfl hn).mono ?_; rintro e w2 ⟨v2, rfl, ho2, hb2⟩)
        | (go_at_call 69; refine (l11Post_any _ xs _ _ ⟨o, 3, refundV (sumLn xs o 1) du en ps, t⟩ _ (hr.up (by (repeat (first | exact Up.rfl' _ | (refine Up.al _ ?_) | (refine Up.dr _ ?_) | (refine Up.dr1 ?_) | (refine Up.sc ?_ (by first | exact Nat.le_refl _ | (simp; done) | omega) _) | (refine Up.step (by assumption) ?_))))) rfl hn).mono ?_; rintro e w2 ⟨v2, rfl, ho2, hb2⟩)
        | (go_at_call 21; refine (arePercents_spec _ _ ps _ (hp.up (by (repeat (first | exact Up.rfl' _ | (refine Up.al _ ?_) | (refine Up.dr _ ?_) | (refine Up.dr1 ?_) | (refine Up.sc ?_ (by first | exact Nat.le_refl _ | (simp; done) | omega) _) | (refine Up.step (by assumption) ?_))))) hpn).mono ?_; rintro e w1 ⟨rfl, hb1⟩)
        | (go_at_call 58; refine (l1In_any _ _ _ _).mono ?_; rintro e w' ⟨rfl, rfl⟩)
        | (go_at_call 25; refine (refundFor_spec _ ps _ _ _ _ _ (hp.up (by (repeat (first | exact Up.rfl' _ | (refine Up.al _ ?_) | (refine Up.dr _ ?_) | (refine Up.dr1 ?_) | (refine Up.sc ?_ (by first | exact Nat.le_refl _ | (simp; done) | omega) _) | (refine Up.step (by assumption) ?_))))) hpn).mono ?_; rintro e w1 ⟨rfl, hb1⟩)
        | (go_at_call 67; refine (l11Count_n _ xs _ _ _ _ _ (hr.up (by (repeat (first | exact Up.rfl' _ | (refine Up.al _ ?_) | (refine Up.dr _ ?_) | (refine Up.dr1 ?_) | (refine Up.sc ?_ (by first | exact Nat.le_refl _ | (simp; done) | omega) _) | (refine Up.step (by assumption) ?_))))) rfl hn).mono ?_; rintro e w1 ⟨rfl, hb1⟩))
    go_ret2
    rw [HR.out]
    exact ⟨v2, rfl, ho2.down (by (repeat (first | exact Up.rfl' _ | (refine Up.al _ ?_) | (refine Up.dr _ ?_) | (refine Up.dr1 ?_) | (refine Up.sc ?_ (by first | exact Nat.le_refl _ | (simp; done) | omega) _) | (refine Up.step (by assumption) ?_)))), by (repeat (first | exact Up.rfl' _ | (refine Up.al _ ?_) | (refine Up.dr _ ?_) | (refine Up.dr1 ?_) | (refine Up.sc ?_ (by first | exact Nat.le_refl _ | (simp; done) | omega) _) | (refine Up.step (by assumption) ?_)))⟩
  | true =>
  cases h3 : inB t 0 100000 with
  | false =>
    have HR := Lib.hid (show refundO xs o du en ps t = (xs, 1) by simp [refundO, h0, h1, h2, h3])
    go_enter Try.func49, Try.ntmps49
    go_wp2_with (first
        | (go_at_call 39; refine (areLines_spec_n _ xs _ _ _ (hr.up (by (repeat (first | exact Up.rfl' _ | (refine Up.al _ ?_) | (refine Up.dr _ ?_) | (refine Up.dr1 ?_) | (refine Up.sc ?_ (by first | exact Nat.le_refl _ | (simp; done) | omega) _) | (refine Up.step (by assumption) ?_))))) rfl hc hn).mono ?_; rintro e w1 ⟨rfl, hb1⟩)
        | (go_at_call 18; refine (isLine_spec _ _ _ _ _).mono ?_; rintro e w1 ⟨rfl, hb1⟩)
        | (go_at_call 28; refine (sumOf_spec_n _ xs _ _ _ _ _ (hr.up (by (repeat (first | exact Up.rfl' _ | (refine Up.al _ ?_) | (refine Up.dr _ ?_) | (refine Up.dr1 ?_) | (refine Up.sc ?_ (by first | exact Nat.le_refl _ | (simp; done) | omega) _) | (refine Up.step (by assumption) ?_))))) rfl hn).mono ?_; rintro e w1 ⟨rfl, hb1⟩)
        | (go_at_call 41; refine (owedFor_spec _ xs _ _ _ _ (hr.up (by (repeat (first | exact Up.rfl' _ | (refine Up.al _ ?_) | (refine Up.dr _ ?_) | (refine Up.dr1 ?_) | (refine Up.sc ?_ (by first | exact Nat.le_refl _ | (simp; done) | omega) _) | (refine Up.step (by assumption) ?_))))) rfl hc hn).mono ?_; rintro e w1 ⟨rfl, hb1⟩)
        | (go_at_call 68; refine (l11Copy_any _ xs _ _ _ (hr.up (by (repeat (first | exact Up.rfl' _ | (refine Up.al _ ?_) | (refine Up.dr _ ?_) | (refine Up.dr1 ?_) | (refine Up.sc ?_ (by first | exact Nat.le_refl _ | (simp; done) | omega) _) | (refine Up.step (by assumption) ?_))))) rfl hn).mono ?_; rintro e w2 ⟨v2, rfl, ho2, hb2⟩)
        | (go_at_call 69; refine (l11Post_any _ xs _ _ ⟨o, 3, refundV (sumLn xs o 1) du en ps, t⟩ _ (hr.up (by (repeat (first | exact Up.rfl' _ | (refine Up.al _ ?_) | (refine Up.dr _ ?_) | (refine Up.dr1 ?_) | (refine Up.sc ?_ (by first | exact Nat.le_refl _ | (simp; done) | omega) _) | (refine Up.step (by assumption) ?_))))) rfl hn).mono ?_; rintro e w2 ⟨v2, rfl, ho2, hb2⟩)
        | (go_at_call 21; refine (arePercents_spec _ _ ps _ (hp.up (by (repeat (first | exact Up.rfl' _ | (refine Up.al _ ?_) | (refine Up.dr _ ?_) | (refine Up.dr1 ?_) | (refine Up.sc ?_ (by first | exact Nat.le_refl _ | (simp; done) | omega) _) | (refine Up.step (by assumption) ?_))))) hpn).mono ?_; rintro e w1 ⟨rfl, hb1⟩)
        | (go_at_call 58; refine (l1In_any _ _ _ _).mono ?_; rintro e w' ⟨rfl, rfl⟩)
        | (go_at_call 25; refine (refundFor_spec _ ps _ _ _ _ _ (hp.up (by (repeat (first | exact Up.rfl' _ | (refine Up.al _ ?_) | (refine Up.dr _ ?_) | (refine Up.dr1 ?_) | (refine Up.sc ?_ (by first | exact Nat.le_refl _ | (simp; done) | omega) _) | (refine Up.step (by assumption) ?_))))) hpn).mono ?_; rintro e w1 ⟨rfl, hb1⟩)
        | (go_at_call 67; refine (l11Count_n _ xs _ _ _ _ _ (hr.up (by (repeat (first | exact Up.rfl' _ | (refine Up.al _ ?_) | (refine Up.dr _ ?_) | (refine Up.dr1 ?_) | (refine Up.sc ?_ (by first | exact Nat.le_refl _ | (simp; done) | omega) _) | (refine Up.step (by assumption) ?_))))) rfl hn).mono ?_; rintro e w1 ⟨rfl, hb1⟩))
    go_ret2
    rw [HR.out]
    exact ⟨v2, rfl, ho2.down (by (repeat (first | exact Up.rfl' _ | (refine Up.al _ ?_) | (refine Up.dr _ ?_) | (refine Up.dr1 ?_) | (refine Up.sc ?_ (by first | exact Nat.le_refl _ | (simp; done) | omega) _) | (refine Up.step (by assumption) ?_)))), by (repeat (first | exact Up.rfl' _ | (refine Up.al _ ?_) | (refine Up.dr _ ?_) | (refine Up.dr1 ?_) | (refine Up.sc ?_ (by first | exact Nat.le_refl _ | (simp; done) | omega) _) | (refine Up.step (by assumption) ?_)))⟩
  | true =>
  cases h4 : (sumLn xs o 1 == 0) with
  | true =>
    have HR := Lib.hid (show refundO xs o du en ps t = (xs, 3) by simp [refundO, h0, h1, h2, h3, h4])
    go_enter Try.func49, Try.ntmps49
    go_wp2_with (first
        | (go_at_call 39; refine (areLines_spec_n _ xs _ _ _ (hr.up (by (repeat (first | exact Up.rfl' _ | (refine Up.al _ ?_) | (refine Up.dr _ ?_) | (refine Up.dr1 ?_) | (refine Up.sc ?_ (by first | exact Nat.le_refl _ | (simp; done) | omega) _) | (refine Up.step (by assumption) ?_))))) rfl hc hn).mono ?_; rintro e w1 ⟨rfl, hb1⟩)
        | (go_at_call 18; refine (isLine_spec _ _ _ _ _).mono ?_; rintro e w1 ⟨rfl, hb1⟩)
        | (go_at_call 28; refine (sumOf_spec_n _ xs _ _ _ _ _ (hr.up (by (repeat (first | exact Up.rfl' _ | (refine Up.al _ ?_) | (refine Up.dr _ ?_) | (refine Up.dr1 ?_) | (refine Up.sc ?_ (by first | exact Nat.le_refl _ | (simp; done) | omega) _) | (refine Up.step (by assumption) ?_))))) rfl hn).mono ?_; rintro e w1 ⟨rfl, hb1⟩)
        | (go_at_call 41; refine (owedFor_spec _ xs _ _ _ _ (hr.up (by (repeat (first | exact Up.rfl' _ | (refine Up.al _ ?_) | (refine Up.dr _ ?_) | (refine Up.dr1 ?_) | (refine Up.sc ?_ (by first | exact Nat.le_refl _ | (simp; done) | omega) _) | (refine Up.step (by assumption) ?_))))) rfl hc hn).mono ?_; rintro e w1 ⟨rfl, hb1⟩)
        | (go_at_call 68; refine (l11Copy_any _ xs _ _ _ (hr.up (by (repeat (first | exact Up.rfl' _ | (refine Up.al _ ?_) | (refine Up.dr _ ?_) | (refine Up.dr1 ?_) | (refine Up.sc ?_ (by first | exact Nat.le_refl _ | (simp; done) | omega) _) | (refine Up.step (by assumption) ?_))))) rfl hn).mono ?_; rintro e w2 ⟨v2, rfl, ho2, hb2⟩)
        | (go_at_call 69; refine (l11Post_any _ xs _ _ ⟨o, 3, refundV (sumLn xs o 1) du en ps, t⟩ _ (hr.up (by (repeat (first | exact Up.rfl' _ | (refine Up.al _ ?_) | (refine Up.dr _ ?_) | (refine Up.dr1 ?_) | (refine Up.sc ?_ (by first | exact Nat.le_refl _ | (simp; done) | omega) _) | (refine Up.step (by assumption) ?_))))) rfl hn).mono ?_; rintro e w2 ⟨v2, rfl, ho2, hb2⟩)
        | (go_at_call 21; refine (arePercents_spec _ _ ps _ (hp.up (by (repeat (first | exact Up.rfl' _ | (refine Up.al _ ?_) | (refine Up.dr _ ?_) | (refine Up.dr1 ?_) | (refine Up.sc ?_ (by first | exact Nat.le_refl _ | (simp; done) | omega) _) | (refine Up.step (by assumption) ?_))))) hpn).mono ?_; rintro e w1 ⟨rfl, hb1⟩)
        | (go_at_call 58; refine (l1In_any _ _ _ _).mono ?_; rintro e w' ⟨rfl, rfl⟩)
        | (go_at_call 25; refine (refundFor_spec _ ps _ _ _ _ _ (hp.up (by (repeat (first | exact Up.rfl' _ | (refine Up.al _ ?_) | (refine Up.dr _ ?_) | (refine Up.dr1 ?_) | (refine Up.sc ?_ (by first | exact Nat.le_refl _ | (simp; done) | omega) _) | (refine Up.step (by assumption) ?_))))) hpn).mono ?_; rintro e w1 ⟨rfl, hb1⟩)
        | (go_at_call 67; refine (l11Count_n _ xs _ _ _ _ _ (hr.up (by (repeat (first | exact Up.rfl' _ | (refine Up.al _ ?_) | (refine Up.dr _ ?_) | (refine Up.dr1 ?_) | (refine Up.sc ?_ (by first | exact Nat.le_refl _ | (simp; done) | omega) _) | (refine Up.step (by assumption) ?_))))) rfl hn).mono ?_; rintro e w1 ⟨rfl, hb1⟩))
    go_ret2
    rw [HR.out]
    exact ⟨v2, rfl, ho2.down (by (repeat (first | exact Up.rfl' _ | (refine Up.al _ ?_) | (refine Up.dr _ ?_) | (refine Up.dr1 ?_) | (refine Up.sc ?_ (by first | exact Nat.le_refl _ | (simp; done) | omega) _) | (refine Up.step (by assumption) ?_)))), by (repeat (first | exact Up.rfl' _ | (refine Up.al _ ?_) | (refine Up.dr _ ?_) | (refine Up.dr1 ?_) | (refine Up.sc ?_ (by first | exact Nat.le_refl _ | (simp; done) | omega) _) | (refine Up.step (by assumption) ?_)))⟩
  | false =>
  cases h5 : decide (0 < owedV xs o) with
  | true =>
    have HR := Lib.hid (show refundO xs o du en ps t = (xs, 3) by simp [refundO, h0, h1, h2, h3, h4, h5])
    go_enter Try.func49, Try.ntmps49
    go_wp2_with (first
        | (go_at_call 39; refine (areLines_spec_n _ xs _ _ _ (hr.up (by (repeat (first | exact Up.rfl' _ | (refine Up.al _ ?_) | (refine Up.dr _ ?_) | (refine Up.dr1 ?_) | (refine Up.sc ?_ (by first | exact Nat.le_refl _ | (simp; done) | omega) _) | (refine Up.step (by assumption) ?_))))) rfl hc hn).mono ?_; rintro e w1 ⟨rfl, hb1⟩)
        | (go_at_call 18; refine (isLine_spec _ _ _ _ _).mono ?_; rintro e w1 ⟨rfl, hb1⟩)
        | (go_at_call 28; refine (sumOf_spec_n _ xs _ _ _ _ _ (hr.up (by (repeat (first | exact Up.rfl' _ | (refine Up.al _ ?_) | (refine Up.dr _ ?_) | (refine Up.dr1 ?_) | (refine Up.sc ?_ (by first | exact Nat.le_refl _ | (simp; done) | omega) _) | (refine Up.step (by assumption) ?_))))) rfl hn).mono ?_; rintro e w1 ⟨rfl, hb1⟩)
        | (go_at_call 41; refine (owedFor_spec _ xs _ _ _ _ (hr.up (by (repeat (first | exact Up.rfl' _ | (refine Up.al _ ?_) | (refine Up.dr _ ?_) | (refine Up.dr1 ?_) | (refine Up.sc ?_ (by first | exact Nat.le_refl _ | (simp; done) | omega) _) | (refine Up.step (by assumption) ?_))))) rfl hc hn).mono ?_; rintro e w1 ⟨rfl, hb1⟩)
        | (go_at_call 68; refine (l11Copy_any _ xs _ _ _ (hr.up (by (repeat (first | exact Up.rfl' _ | (refine Up.al _ ?_) | (refine Up.dr _ ?_) | (refine Up.dr1 ?_) | (refine Up.sc ?_ (by first | exact Nat.le_refl _ | (simp; done) | omega) _) | (refine Up.step (by assumption) ?_))))) rfl hn).mono ?_; rintro e w2 ⟨v2, rfl, ho2, hb2⟩)
        | (go_at_call 69; refine (l11Post_any _ xs _ _ ⟨o, 3, refundV (sumLn xs o 1) du en ps, t⟩ _ (hr.up (by (repeat (first | exact Up.rfl' _ | (refine Up.al _ ?_) | (refine Up.dr _ ?_) | (refine Up.dr1 ?_) | (refine Up.sc ?_ (by first | exact Nat.le_refl _ | (simp; done) | omega) _) | (refine Up.step (by assumption) ?_))))) rfl hn).mono ?_; rintro e w2 ⟨v2, rfl, ho2, hb2⟩)
        | (go_at_call 21; refine (arePercents_spec _ _ ps _ (hp.up (by (repeat (first | exact Up.rfl' _ | (refine Up.al _ ?_) | (refine Up.dr _ ?_) | (refine Up.dr1 ?_) | (refine Up.sc ?_ (by first | exact Nat.le_refl _ | (simp; done) | omega) _) | (refine Up.step (by assumption) ?_))))) hpn).mono ?_; rintro e w1 ⟨rfl, hb1⟩)
        | (go_at_call 58; refine (l1In_any _ _ _ _).mono ?_; rintro e w' ⟨rfl, rfl⟩)
        | (go_at_call 25; refine (refundFor_spec _ ps _ _ _ _ _ (hp.up (by (repeat (first | exact Up.rfl' _ | (refine Up.al _ ?_) | (refine Up.dr _ ?_) | (refine Up.dr1 ?_) | (refine Up.sc ?_ (by first | exact Nat.le_refl _ | (simp; done) | omega) _) | (refine Up.step (by assumption) ?_))))) hpn).mono ?_; rintro e w1 ⟨rfl, hb1⟩)
        | (go_at_call 67; refine (l11Count_n _ xs _ _ _ _ _ (hr.up (by (repeat (first | exact Up.rfl' _ | (refine Up.al _ ?_) | (refine Up.dr _ ?_) | (refine Up.dr1 ?_) | (refine Up.sc ?_ (by first | exact Nat.le_refl _ | (simp; done) | omega) _) | (refine Up.step (by assumption) ?_))))) rfl hn).mono ?_; rintro e w1 ⟨rfl, hb1⟩))
    go_ret2
    rw [HR.out]
    exact ⟨v2, rfl, ho2.down (by (repeat (first | exact Up.rfl' _ | (refine Up.al _ ?_) | (refine Up.dr _ ?_) | (refine Up.dr1 ?_) | (refine Up.sc ?_ (by first | exact Nat.le_refl _ | (simp; done) | omega) _) | (refine Up.step (by assumption) ?_)))), by (repeat (first | exact Up.rfl' _ | (refine Up.al _ ?_) | (refine Up.dr _ ?_) | (refine Up.dr1 ?_) | (refine Up.sc ?_ (by first | exact Nat.le_refl _ | (simp; done) | omega) _) | (refine Up.step (by assumption) ?_)))⟩
  | false =>
  cases h6 : decide (0 < sumLn xs o 3) with
  | true =>
    have HR := Lib.hid (show refundO xs o du en ps t = (xs, 2) by simp [refundO, h0, h1, h2, h3, h4, h5, h6])
    have hcs := (cnt_pos' o 3 h0).trans h6
    go_enter Try.func49, Try.ntmps49
    go_wp2_with (first
        | (go_at_call 39; refine (areLines_spec_n _ xs _ _ _ (hr.up (by (repeat (first | exact Up.rfl' _ | (refine Up.al _ ?_) | (refine Up.dr _ ?_) | (refine Up.dr1 ?_) | (refine Up.sc ?_ (by first | exact Nat.le_refl _ | (simp; done) | omega) _) | (refine Up.step (by assumption) ?_))))) rfl hc hn).mono ?_; rintro e w1 ⟨rfl, hb1⟩)
        | (go_at_call 18; refine (isLine_spec _ _ _ _ _).mono ?_; rintro e w1 ⟨rfl, hb1⟩)
        | (go_at_call 28; refine (sumOf_spec_n _ xs _ _ _ _ _ (hr.up (by (repeat (first | exact Up.rfl' _ | (refine Up.al _ ?_) | (refine Up.dr _ ?_) | (refine Up.dr1 ?_) | (refine Up.sc ?_ (by first | exact Nat.le_refl _ | (simp; done) | omega) _) | (refine Up.step (by assumption) ?_))))) rfl hn).mono ?_; rintro e w1 ⟨rfl, hb1⟩)
        | (go_at_call 41; refine (owedFor_spec _ xs _ _ _ _ (hr.up (by (repeat (first | exact Up.rfl' _ | (refine Up.al _ ?_) | (refine Up.dr _ ?_) | (refine Up.dr1 ?_) | (refine Up.sc ?_ (by first | exact Nat.le_refl _ | (simp; done) | omega) _) | (refine Up.step (by assumption) ?_))))) rfl hc hn).mono ?_; rintro e w1 ⟨rfl, hb1⟩)
        | (go_at_call 68; refine (l11Copy_any _ xs _ _ _ (hr.up (by (repeat (first | exact Up.rfl' _ | (refine Up.al _ ?_) | (refine Up.dr _ ?_) | (refine Up.dr1 ?_) | (refine Up.sc ?_ (by first | exact Nat.le_refl _ | (simp; done) | omega) _) | (refine Up.step (by assumption) ?_))))) rfl hn).mono ?_; rintro e w2 ⟨v2, rfl, ho2, hb2⟩)
        | (go_at_call 69; refine (l11Post_any _ xs _ _ ⟨o, 3, refundV (sumLn xs o 1) du en ps, t⟩ _ (hr.up (by (repeat (first | exact Up.rfl' _ | (refine Up.al _ ?_) | (refine Up.dr _ ?_) | (refine Up.dr1 ?_) | (refine Up.sc ?_ (by first | exact Nat.le_refl _ | (simp; done) | omega) _) | (refine Up.step (by assumption) ?_))))) rfl hn).mono ?_; rintro e w2 ⟨v2, rfl, ho2, hb2⟩)
        | (go_at_call 21; refine (arePercents_spec _ _ ps _ (hp.up (by (repeat (first | exact Up.rfl' _ | (refine Up.al _ ?_) | (refine Up.dr _ ?_) | (refine Up.dr1 ?_) | (refine Up.sc ?_ (by first | exact Nat.le_refl _ | (simp; done) | omega) _) | (refine Up.step (by assumption) ?_))))) hpn).mono ?_; rintro e w1 ⟨rfl, hb1⟩)
        | (go_at_call 58; refine (l1In_any _ _ _ _).mono ?_; rintro e w' ⟨rfl, rfl⟩)
        | (go_at_call 25; refine (refundFor_spec _ ps _ _ _ _ _ (hp.up (by (repeat (first | exact Up.rfl' _ | (refine Up.al _ ?_) | (refine Up.dr _ ?_) | (refine Up.dr1 ?_) | (refine Up.sc ?_ (by first | exact Nat.le_refl _ | (simp; done) | omega) _) | (refine Up.step (by assumption) ?_))))) hpn).mono ?_; rintro e w1 ⟨rfl, hb1⟩)
        | (go_at_call 67; refine (l11Count_n _ xs _ _ _ _ _ (hr.up (by (repeat (first | exact Up.rfl' _ | (refine Up.al _ ?_) | (refine Up.dr _ ?_) | (refine Up.dr1 ?_) | (refine Up.sc ?_ (by first | exact Nat.le_refl _ | (simp; done) | omega) _) | (refine Up.step (by assumption) ?_))))) rfl hn).mono ?_; rintro e w1 ⟨rfl, hb1⟩))
    go_ret2
    rw [HR.out]
    exact ⟨v2, rfl, ho2.down (by (repeat (first | exact Up.rfl' _ | (refine Up.al _ ?_) | (refine Up.dr _ ?_) | (refine Up.dr1 ?_) | (refine Up.sc ?_ (by first | exact Nat.le_refl _ | (simp; done) | omega) _) | (refine Up.step (by assumption) ?_)))), by (repeat (first | exact Up.rfl' _ | (refine Up.al _ ?_) | (refine Up.dr _ ?_) | (refine Up.dr1 ?_) | (refine Up.sc ?_ (by first | exact Nat.le_refl _ | (simp; done) | omega) _) | (refine Up.step (by assumption) ?_)))⟩
  | false =>
  cases h7 : (refundV (sumLn xs o 1) du en ps == 0) with
  | true =>
    have HR := Lib.hid (show refundO xs o du en ps t = (xs, 4) by simp [refundO, h0, h1, h2, h3, h4, h5, h6, h7])
    have hcs := (cnt_pos' o 3 h0).trans h6
    go_enter Try.func49, Try.ntmps49
    go_wp2_with (first
        | (go_at_call 39; refine (areLines_spec_n _ xs _ _ _ (hr.up (by (repeat (first | exact Up.rfl' _ | (refine Up.al _ ?_) | (refine Up.dr _ ?_) | (refine Up.dr1 ?_) | (refine Up.sc ?_ (by first | exact Nat.le_refl _ | (simp; done) | omega) _) | (refine Up.step (by assumption) ?_))))) rfl hc hn).mono ?_; rintro e w1 ⟨rfl, hb1⟩)
        | (go_at_call 18; refine (isLine_spec _ _ _ _ _).mono ?_; rintro e w1 ⟨rfl, hb1⟩)
        | (go_at_call 28; refine (sumOf_spec_n _ xs _ _ _ _ _ (hr.up (by (repeat (first | exact Up.rfl' _ | (refine Up.al _ ?_) | (refine Up.dr _ ?_) | (refine Up.dr1 ?_) | (refine Up.sc ?_ (by first | exact Nat.le_refl _ | (simp; done) | omega) _) | (refine Up.step (by assumption) ?_))))) rfl hn).mono ?_; rintro e w1 ⟨rfl, hb1⟩)
        | (go_at_call 41; refine (owedFor_spec _ xs _ _ _ _ (hr.up (by (repeat (first | exact Up.rfl' _ | (refine Up.al _ ?_) | (refine Up.dr _ ?_) | (refine Up.dr1 ?_) | (refine Up.sc ?_ (by first | exact Nat.le_refl _ | (simp; done) | omega) _) | (refine Up.step (by assumption) ?_))))) rfl hc hn).mono ?_; rintro e w1 ⟨rfl, hb1⟩)
        | (go_at_call 68; refine (l11Copy_any _ xs _ _ _ (hr.up (by (repeat (first | exact Up.rfl' _ | (refine Up.al _ ?_) | (refine Up.dr _ ?_) | (refine Up.dr1 ?_) | (refine Up.sc ?_ (by first | exact Nat.le_refl _ | (simp; done) | omega) _) | (refine Up.step (by assumption) ?_))))) rfl hn).mono ?_; rintro e w2 ⟨v2, rfl, ho2, hb2⟩)
        | (go_at_call 69; refine (l11Post_any _ xs _ _ ⟨o, 3, refundV (sumLn xs o 1) du en ps, t⟩ _ (hr.up (by (repeat (first | exact Up.rfl' _ | (refine Up.al _ ?_) | (refine Up.dr _ ?_) | (refine Up.dr1 ?_) | (refine Up.sc ?_ (by first | exact Nat.le_refl _ | (simp; done) | omega) _) | (refine Up.step (by assumption) ?_))))) rfl hn).mono ?_; rintro e w2 ⟨v2, rfl, ho2, hb2⟩)
        | (go_at_call 21; refine (arePercents_spec _ _ ps _ (hp.up (by (repeat (first | exact Up.rfl' _ | (refine Up.al _ ?_) | (refine Up.dr _ ?_) | (refine Up.dr1 ?_) | (refine Up.sc ?_ (by first | exact Nat.le_refl _ | (simp; done) | omega) _) | (refine Up.step (by assumption) ?_))))) hpn).mono ?_; rintro e w1 ⟨rfl, hb1⟩)
        | (go_at_call 58; refine (l1In_any _ _ _ _).mono ?_; rintro e w' ⟨rfl, rfl⟩)
        | (go_at_call 25; refine (refundFor_spec _ ps _ _ _ _ _ (hp.up (by (repeat (first | exact Up.rfl' _ | (refine Up.al _ ?_) | (refine Up.dr _ ?_) | (refine Up.dr1 ?_) | (refine Up.sc ?_ (by first | exact Nat.le_refl _ | (simp; done) | omega) _) | (refine Up.step (by assumption) ?_))))) hpn).mono ?_; rintro e w1 ⟨rfl, hb1⟩)
        | (go_at_call 67; refine (l11Count_n _ xs _ _ _ _ _ (hr.up (by (repeat (first | exact Up.rfl' _ | (refine Up.al _ ?_) | (refine Up.dr _ ?_) | (refine Up.dr1 ?_) | (refine Up.sc ?_ (by first | exact Nat.le_refl _ | (simp; done) | omega) _) | (refine Up.step (by assumption) ?_))))) rfl hn).mono ?_; rintro e w1 ⟨rfl, hb1⟩))
    go_ret2
    rw [HR.out]
    exact ⟨v2, rfl, ho2.down (by (repeat (first | exact Up.rfl' _ | (refine Up.al _ ?_) | (refine Up.dr _ ?_) | (refine Up.dr1 ?_) | (refine Up.sc ?_ (by first | exact Nat.le_refl _ | (simp; done) | omega) _) | (refine Up.step (by assumption) ?_)))), by (repeat (first | exact Up.rfl' _ | (refine Up.al _ ?_) | (refine Up.dr _ ?_) | (refine Up.dr1 ?_) | (refine Up.sc ?_ (by first | exact Nat.le_refl _ | (simp; done) | omega) _) | (refine Up.step (by assumption) ?_)))⟩
  | false =>
  have HR := Lib.hid (show refundO xs o du en ps t = postV xs ⟨o, 3, refundV (sumLn xs o 1) du en ps, t⟩ by simp [refundO, h0, h1, h2, h3, h4, h5, h6, h7])
  have hcs := (cnt_pos' o 3 h0).trans h6
  go_enter Try.func49, Try.ntmps49
  go_wp2_with (first
        | (go_at_call 39; refine (areLines_spec_n _ xs _ _ _ (hr.up (by (repeat (first | exact Up.rfl' _ | (refine Up.al _ ?_) | (refine Up.dr _ ?_) | (refine Up.dr1 ?_) | (refine Up.sc ?_ (by first | exact Nat.le_refl _ | (simp; done) | omega) _) | (refine Up.step (by assumption) ?_))))) rfl hc hn).mono ?_; rintro e w1 ⟨rfl, hb1⟩)
        | (go_at_call 18; refine (isLine_spec _ _ _ _ _).mono ?_; rintro e w1 ⟨rfl, hb1⟩)
        | (go_at_call 28; refine (sumOf_spec_n _ xs _ _ _ _ _ (hr.up (by (repeat (first | exact Up.rfl' _ | (refine Up.al _ ?_) | (refine Up.dr _ ?_) | (refine Up.dr1 ?_) | (refine Up.sc ?_ (by first | exact Nat.le_refl _ | (simp; done) | omega) _) | (refine Up.step (by assumption) ?_))))) rfl hn).mono ?_; rintro e w1 ⟨rfl, hb1⟩)
        | (go_at_call 41; refine (owedFor_spec _ xs _ _ _ _ (hr.up (by (repeat (first | exact Up.rfl' _ | (refine Up.al _ ?_) | (refine Up.dr _ ?_) | (refine Up.dr1 ?_) | (refine Up.sc ?_ (by first | exact Nat.le_refl _ | (simp; done) | omega) _) | (refine Up.step (by assumption) ?_))))) rfl hc hn).mono ?_; rintro e w1 ⟨rfl, hb1⟩)
        | (go_at_call 68; refine (l11Copy_any _ xs _ _ _ (hr.up (by (repeat (first | exact Up.rfl' _ | (refine Up.al _ ?_) | (refine Up.dr _ ?_) | (refine Up.dr1 ?_) | (refine Up.sc ?_ (by first | exact Nat.le_refl _ | (simp; done) | omega) _) | (refine Up.step (by assumption) ?_))))) rfl hn).mono ?_; rintro e w2 ⟨v2, rfl, ho2, hb2⟩)
        | (go_at_call 69; refine (l11Post_any _ xs _ _ ⟨o, 3, refundV (sumLn xs o 1) du en ps, t⟩ _ (hr.up (by (repeat (first | exact Up.rfl' _ | (refine Up.al _ ?_) | (refine Up.dr _ ?_) | (refine Up.dr1 ?_) | (refine Up.sc ?_ (by first | exact Nat.le_refl _ | (simp; done) | omega) _) | (refine Up.step (by assumption) ?_))))) rfl hn).mono ?_; rintro e w2 ⟨v2, rfl, ho2, hb2⟩)
        | (go_at_call 21; refine (arePercents_spec _ _ ps _ (hp.up (by (repeat (first | exact Up.rfl' _ | (refine Up.al _ ?_) | (refine Up.dr _ ?_) | (refine Up.dr1 ?_) | (refine Up.sc ?_ (by first | exact Nat.le_refl _ | (simp; done) | omega) _) | (refine Up.step (by assumption) ?_))))) hpn).mono ?_; rintro e w1 ⟨rfl, hb1⟩)
        | (go_at_call 58; refine (l1In_any _ _ _ _).mono ?_; rintro e w' ⟨rfl, rfl⟩)
        | (go_at_call 25; refine (refundFor_spec _ ps _ _ _ _ _ (hp.up (by (repeat (first | exact Up.rfl' _ | (refine Up.al _ ?_) | (refine Up.dr _ ?_) | (refine Up.dr1 ?_) | (refine Up.sc ?_ (by first | exact Nat.le_refl _ | (simp; done) | omega) _) | (refine Up.step (by assumption) ?_))))) hpn).mono ?_; rintro e w1 ⟨rfl, hb1⟩)
        | (go_at_call 67; refine (l11Count_n _ xs _ _ _ _ _ (hr.up (by (repeat (first | exact Up.rfl' _ | (refine Up.al _ ?_) | (refine Up.dr _ ?_) | (refine Up.dr1 ?_) | (refine Up.sc ?_ (by first | exact Nat.le_refl _ | (simp; done) | omega) _) | (refine Up.step (by assumption) ?_))))) rfl hn).mono ?_; rintro e w1 ⟨rfl, hb1⟩))
  go_ret2
  rw [HR.out]
  exact ⟨v2, rfl, ho2.down (by (repeat (first | exact Up.rfl' _ | (refine Up.al _ ?_) | (refine Up.dr _ ?_) | (refine Up.dr1 ?_) | (refine Up.sc ?_ (by first | exact Nat.le_refl _ | (simp; done) | omega) _) | (refine Up.step (by assumption) ?_)))), by (repeat (first | exact Up.rfl' _ | (refine Up.al _ ?_) | (refine Up.dr _ ?_) | (refine Up.dr1 ?_) | (refine Up.sc ?_ (by first | exact Nat.le_refl _ | (simp; done) | omega) _) | (refine Up.step (by assumption) ?_)))⟩
end Go.Proofs.Ytapllnlclgbbkaa
