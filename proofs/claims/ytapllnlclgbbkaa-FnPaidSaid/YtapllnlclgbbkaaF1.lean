import Derived.Test.YtapllnlclgbbkaaD5
import Derived.Test.YtapllnlclgbbkaaD6
import Derived.Test.YtapllnlclgbbkaaD7
import Derived.Deep.AppendLies
namespace Go.Proofs.Ytapllnlclgbbkaa
set_option maxRecDepth 10000
open Go.RowKit
theorem markLineS_any (A : Option Addr) (n c B : Nat) (xs : List Ln) (w : World) (ho : Own w B 25 (.slice A n c) xs) (hl : n = xs.length) (hn : n ≤ 2000000) :
    Calls Try.prog 37 #[.slice A n c, .int .i64 1] w fun e w' => e = .returned (.int .i64 (1 + 4 * n)) ∧ Own w' B 25 (.slice A n c) (markL n) ∧ w.grownBy w' (Value.slice A n c).ownBlock := by
  subst hl
  by_cases h0 : xs.length ≤ 0
  · have hx : xs = [] := List.length_eq_zero_iff.1 (by omega)
    have HO : Hid (Own w B 25 (.slice A xs.length c) (markL xs.length)) := by subst hx; exact ho
    have HZ := Lib.hid (show (1 : Int) = 1 + 4 * (xs.length : Int) by omega)
    clear ho hx
    go_enter Try.func37, Try.ntmps37
    go_wp2
    go_loopw [5, 1] (fun i k wr => i = .int .i64 0 ∧ k = .int .i64 1 ∧ wr = w) (fun _ _ _ => 0)
    case atStart => exact ⟨rfl, rfl, rfl⟩
    case round =>
      obtain ⟨rfl, rfl, rfl⟩ := hrel
      go_wp2
      go_ret
      exact ⟨reti HZ.out, HO.out, ⟨rfl, rfl, rfl, Nat.le_refl _, fun _ _ _ => rfl⟩⟩
  · obtain ⟨g, cap, hv, hB, hlt⟩ := World.ownsRow.form ho (by omega)
    obtain ⟨rfl, rfl⟩ : A = some ⟨g, 0, none⟩ ∧ c = cap := by simpa using hv
    clear hv
    have HO := Lib.hid ho
    clear ho
    go_enter Try.func37, Try.ntmps37
    go_wp2
    go_loopw [5, 1] (fun i k wr => ∃ j : Nat, j ≤ xs.length ∧ i = .int .i64 j ∧ k = .int .i64 (1 + 4 * (j : Int)) ∧ Marking w wr B 25 4 g xs.length c (j * 4) (flat (markL xs.length))) (fun i _ _ => xs.length - (intOf i).toNat)
    case atStart => exact ⟨0, by omega, rfl, rfl, by rw [Nat.zero_mul]; exact Marking.start HO.out⟩
    case round =>
      obtain ⟨i, hi, rfl, rfl, hM⟩ := hrel
      by_cases hlt2 : i < xs.length
      · obtain ⟨y0, y1, y2, y3⟩ := flat_ln (markL_get hlt2)
        have H0 := Lib.hid y0
        have H1 := Lib.hid y1
        have H2 := Lib.hid y2
        have H3 := Lib.hid y3
        clear y0 y1 y2 y3
        obtain ⟨u0, d0⟩ := hM.cell (j := i * 4) (by omega)
        obtain ⟨u1, d1⟩ := hM.cell (j := i * 4 + 1) (by omega)
        obtain ⟨u2, d2⟩ := hM.cell (j := i * 4 + 2) (by omega)
        obtain ⟨u3, d3⟩ := hM.cell (j := i * 4 + 3) (by omega)
        have f0 := hM.frozen (i * 4)
        have f1 := hM.frozen (i * 4 + 1)
        have f2 := hM.frozen (i * 4 + 2)
        have f3 := hM.frozen (i * 4 + 3)
        have HM := Lib.hid hM
        clear hM
        go_wp2
        have hM4 := (((HM.out.set1 (by omega) H0.out).set1 (by omega) H1.out).set1 (by omega) H2.out).set1 (by omega) H3.out
        exact ⟨⟨i + 1, by omega, by go_num, by congr 1 <;> omega, (by rw [show (i + 1) * 4 = i * 4 + 1 + 1 + 1 + 1 from by omega]; exact hM4)⟩, by simp [intOf]; omega⟩
      · go_wp2
        go_ret
        obtain rfl : i = xs.length := by omega
        obtain ⟨h1, h2⟩ := hM.own (markL_len _)
        exact ⟨reti rfl, h1, h2⟩
theorem heldLineS_any (A : Option Addr) (n c : Nat) (xs : List Ln) (w : World) (hr : Rd w w.heap.size A xs) (hx : xs = markL n) (hn : n ≤ 2000000) :
    Calls Try.prog 38 #[.slice A n c, .int .i64 1] w fun e w' => e = .returned (.int .i64 (1 + 4 * n)) ∧ Up w w' := by
  subst hx
  have hl := markL_len n
  go_enter Try.func38, Try.ntmps38
  go_wp2
  go_loopw [5, 1] (fun i k wr => ∃ j : Nat, j ≤ n ∧ i = .int .i64 j ∧ k = .int .i64 (1 + 4 * (j : Int)) ∧ Up w wr) (fun i _ _ => n - (intOf i).toNat)
  case atStart => exact ⟨0, by omega, rfl, rfl, by (repeat (first | exact Up.rfl' _ | (refine Up.al _ ?_) | (refine Up.dr _ ?_) | (refine Up.dr1 ?_) | (refine Up.sc ?_ (by first | exact Nat.le_refl _ | (simp; done) | omega) _) | (refine Up.step (by assumption) ?_)))⟩
  case round =>
    obtain ⟨i, hi, rfl, rfl, hb⟩ := hrel
    by_cases hlt : i < n
    · obtain ⟨b, off, rfl, hbb, c0, c1, c2, c3⟩ := (hr.below hb).ln (markL_get hlt)
      have C0 : wr.cell? ⟨b, off + i * 4, none⟩ = some (.int .i64 (1 + 4 * (i : Int))) := c0
      have C1 : wr.cell? ⟨b, off + i * 4 + 1, none⟩ = some (.int .i64 (1 + 4 * (i : Int) + 1)) := c1
      have C2 : wr.cell? ⟨b, off + i * 4 + 2, none⟩ = some (.int .i64 (1 + 4 * (i : Int) + 1 + 1)) := c2
      have C3 : wr.cell? ⟨b, off + i * 4 + 3, none⟩ = some (.int .i64 (1 + 4 * (i : Int) + 1 + 1 + 1)) := c3
      clear c0 c1 c2 c3 hr hl
      go_wp2
      exact ⟨⟨i + 1, by omega, by go_num, by congr 1 <;> omega, by (repeat (first | exact Up.rfl' _ | (refine Up.al _ ?_) | (refine Up.dr _ ?_) | (refine Up.dr1 ?_) | (refine Up.sc ?_ (by first | exact Nat.le_refl _ | (simp; done) | omega) _) | (refine Up.step (by assumption) ?_)))⟩, by simp [intOf]; omega⟩
    · go_wp2
      go_ret
      obtain rfl : i = n := by omega
      exact ⟨reti rfl, by (repeat (first | exact Up.rfl' _ | (refine Up.al _ ?_) | (refine Up.dr _ ?_) | (refine Up.dr1 ?_) | (refine Up.sc ?_ (by first | exact Nat.le_refl _ | (simp; done) | omega) _) | (refine Up.step (by assumption) ?_)))⟩
end Go.Proofs.Ytapllnlclgbbkaa
