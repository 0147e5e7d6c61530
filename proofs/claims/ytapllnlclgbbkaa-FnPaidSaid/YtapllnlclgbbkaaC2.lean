import Derived.Test.YtapllnlclgbbkaaC1
import Derived.StillTailTactics
import Derived.Deep.RegionHeld3
namespace Go.Proofs.Ytapllnlclgbbkaa
set_option maxRecDepth 10000
open Go.RowKit
theorem szLineS_any (A : Option Addr) (n c : Nat) (l : Int) (w : World) (hn : n ≤ 9223372036854775807) (h0 : 0 ≤ l) (h1 : l ≤ 1048576) :
    Calls Try.prog 27 #[.slice A n c, .int .i64 l] w fun e w' => e = .returned (.int .i64 (szTo l n)) ∧ Up w w' := by
  by_cases h : l < n
  · have HR := Lib.hid (szTo_neg h)
    go_enter Try.func27, Try.ntmps27
    go_wp2
    go_ret
    exact ⟨reti HR.out.symm, by (repeat (first | exact Up.rfl' _ | (refine Up.al _ ?_) | (refine Up.dr _ ?_) | (refine Up.dr1 ?_) | (refine Up.sc ?_ (by first | exact Nat.le_refl _ | (simp; done) | omega) _) | (refine Up.step (by assumption) ?_)))⟩
  · have HR := Lib.hid (szTo_pos h)
    go_enter Try.func27, Try.ntmps27
    go_wp2
    go_ret
    exact ⟨reti HR.out.symm, by (repeat (first | exact Up.rfl' _ | (refine Up.al _ ?_) | (refine Up.dr _ ?_) | (refine Up.dr1 ?_) | (refine Up.sc ?_ (by first | exact Nat.le_refl _ | (simp; done) | omega) _) | (refine Up.step (by assumption) ?_)))⟩
theorem eqLine_any (x y : Ln) (w : World) : Calls Try.prog 60 #[.agg #[I x.o, I x.k, I x.a, I x.t], .agg #[I y.o, I y.k, I y.a, I y.t]] w fun e w' => e = .returned (.bool (eqLn x y)) ∧ Up w w' := by
  go_enter Try.func60, Try.ntmps60
  go_wp2
  all_goals go_ret
  all_goals exact ⟨retb (by simp_all [eqLn]), by (repeat (first | exact Up.rfl' _ | (refine Up.al _ ?_) | (refine Up.dr _ ?_) | (refine Up.dr1 ?_) | (refine Up.sc ?_ (by first | exact Nat.le_refl _ | (simp; done) | omega) _) | (refine Up.step (by assumption) ?_)))⟩
theorem eqLineS_any (A A' : Option Addr) (c c' : Nat) (xs ys : List Ln) (w : World) (hx : Rd w w.heap.size A xs) (hy : Rd w w.heap.size A' ys) (hn : xs.length ≤ 2000000) (_hn : ys.length ≤ 2000000) :
    Calls Try.prog 31 #[.slice A xs.length c, .slice A' ys.length c'] w fun e w' => e = .returned (.bool (decide (xs = ys))) ∧ Up w w' := by
  by_cases hl : xs.length = ys.length
  · have hL : ((xs.length : Int) != (ys.length : Int)) = false := by simp [hl]
    have HL := Lib.hid hl
    clear hl
    go_enter Try.func31, Try.ntmps31
    go_wp2
    clear hL
    go_loopw [5] (fun i wr => ∃ j : Nat, j ≤ xs.length ∧ i = .int .i64 j ∧ Hid (xs.take j = ys.take j) ∧ Up w wr) (fun i _ => xs.length - (intOf i).toNat)
    case atStart => exact ⟨0, by omega, rfl, rfl, Below.refl _ _⟩
    case round =>
      obtain ⟨i, hi, rfl, he, hb⟩ := hrel
      by_cases hlt : i < xs.length
      · obtain ⟨x, gx⟩ := get_of_lt hlt
        obtain ⟨y, gy⟩ := get_of_lt (xs := ys) (i := i) (by rw [← HL.out]; exact hlt)
        obtain ⟨b, off, rfl, hbb, c0, c1, c2, c3⟩ := (hx.below hb).ln gx
        obtain ⟨b', off', rfl, hbb', c0', c1', c2', c3'⟩ := (hy.below hb).ln gy
        have hlt' : i < ys.length := lt_of_get gy
        have Gx := Lib.hid gx
        have Gy := Lib.hid gy
        clear gx gy hx hy
        cases hE : eqLn x y with
        | false =>
          have HE := Lib.hid (eqLn_not hE)
          go_wp2
          go_still_tail 8, (by kernel_rfl)
          change wpList _ _ _ _ _ wr.drew
          go_wp2_with (go_at_call 60; refine (eqLine_any x y _).mono ?_; rintro e w1 ⟨rfl, hb1⟩)
          go_ret
          exact ⟨retF (ne_of_get Gx.out Gy.out HE.out), by (repeat (first | exact Up.rfl' _ | (refine Up.al _ ?_) | (refine Up.dr _ ?_) | (refine Up.dr1 ?_) | (refine Up.sc ?_ (by first | exact Nat.le_refl _ | (simp; done) | omega) _) | (refine Up.step (by assumption) ?_)))⟩
        | true =>
          have HE := Lib.hid (eqLn_iff.1 hE)
          go_wp2
          go_still_tail 8, (by kernel_rfl)
          change wpList _ _ _ _ _ wr.drew
          go_wp2_with (go_at_call 60; refine (eqLine_any x y _).mono ?_; rintro e w1 ⟨rfl, hb1⟩)
          exact ⟨⟨i + 1, by omega, by go_num, take_snoc_eq he.out Gx.out Gy.out HE.out, by (repeat (first | exact Up.rfl' _ | (refine Up.al _ ?_) | (refine Up.dr _ ?_) | (refine Up.dr1 ?_) | (refine Up.sc ?_ (by first | exact Nat.le_refl _ | (simp; done) | omega) _) | (refine Up.step (by assumption) ?_)))⟩, by simp [intOf]; omega⟩
      · go_wp2
        go_ret
        exact ⟨retT (eq_of_take he.out (by omega) (by have := HL.out; omega)), hb⟩
  · have hL : ((xs.length : Int) != (ys.length : Int)) = true := by simp; omega
    have hE := Lib.hid (ne_of_len hl)
    clear hl
    go_enter Try.func31, Try.ntmps31
    go_wp2
    go_ret
    exact ⟨retF hE.out, Below.refl _ _⟩
end Go.Proofs.Ytapllnlclgbbkaa
