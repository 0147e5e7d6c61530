import Derived.Test.YtapllnlclgbbkaaA2
namespace Go.Proofs.Ytapllnlclgbbkaa
set_option maxRecDepth 10000
open Go.RowKit
theorem sumOf_impl (A : Option Addr) (xs : List Ln) (c : Nat) (o k : Int) (w : World) (hr : Rd w w.heap.size A xs) (hn : xs.length ≤ 2000000)
  : Calls Try.prog 30 #[.slice A xs.length c, .int .i64 o, .int .i64 k] w fun e w' => e = .returned (.int .i64 (sumLn xs o k)) ∧ Up w w' := by
  go_enter Try.func30, Try.ntmps30
  go_wp2
  go_loopw [7, 12] (fun n7 i wr => ∃ j : Nat, j ≤ xs.length ∧ i = .int .i64 j ∧ n7 = .int .i64 (sumLn (xs.take j) o k) ∧ Up w wr) (fun _ i _ => xs.length - (intOf i).toNat)
  case atStart => exact ⟨0, by omega, rfl, rfl, Below.refl _ _⟩
  case round =>
    obtain ⟨i, hi, rfl, rfl, hb⟩ := hrel
    by_cases hlt : i < xs.length
    · obtain ⟨x, hx⟩ := get_of_lt hlt
      obtain ⟨b, off, rfl, hbb, c0, c1, c2, c3⟩ := (hr.below hb).ln hx
      have hbs := hb.size
      have S : Hid (sumLn (xs.take (i+1)) o k = sumStep o k (sumLn (xs.take i) o k) x) := foldl_snoc hx _ _
      clear hr hx
      go_wp2
      all_goals exact ⟨⟨i + 1, by omega, by go_num, by rw [S.out]; simp [sumStep, *], by (repeat (first | exact Up.rfl' _ | (refine Up.al _ ?_) | (refine Up.dr _ ?_) | (refine Up.dr1 ?_) | (refine Up.sc ?_ (by first | exact Nat.le_refl _ | (simp; done) | omega) _) | (refine Up.step (by assumption) ?_)))⟩, by simp [intOf]; omega⟩
    · go_wp2
      go_ret
      obtain rfl : i = xs.length := by omega
      exact ⟨by simp, hb⟩
theorem sumOf_spec (A : Option Addr) (xs : List Ln) (c : Nat) (o k : Int) (w : World) (hr : Rd w w.heap.size A xs) (hn : xs.length ≤ 2000000)
  : Calls Try.prog 28 #[.slice A xs.length c, .int .i64 o, .int .i64 k] w fun e w' => e = .returned (.int .i64 (sumLn xs o k)) ∧ Up w w' := by
  go_enter Try.func28, Try.ntmps28
  go_wp2
  go_loopw [7, 8] (fun n7 i wr => ∃ j : Nat, j ≤ xs.length ∧ i = .int .i64 j ∧ n7 = .int .i64 (sumLn (xs.take j) o k) ∧ Up w wr) (fun _ i _ => xs.length - (intOf i).toNat)
  case atStart => exact ⟨0, by omega, rfl, rfl, Below.refl _ _⟩
  case round =>
    obtain ⟨i, hi, rfl, rfl, hb⟩ := hrel
    by_cases hlt : i < xs.length
    · obtain ⟨x, hx⟩ := get_of_lt hlt
      obtain ⟨b, off, rfl, hbb, c0, c1, c2, c3⟩ := (hr.below hb).ln hx
      have hbs := hb.size
      have S : Hid (sumLn (xs.take (i+1)) o k = sumStep o k (sumLn (xs.take i) o k) x) := foldl_snoc hx _ _
      clear hr hx
      go_wp2
      all_goals exact ⟨⟨i + 1, by omega, by go_num, by rw [S.out]; simp [sumStep, *], by (repeat (first | exact Up.rfl' _ | (refine Up.al _ ?_) | (refine Up.dr _ ?_) | (refine Up.dr1 ?_) | (refine Up.sc ?_ (by first | exact Nat.le_refl _ | (simp; done) | omega) _) | (refine Up.step (by assumption) ?_)))⟩, by simp [intOf]; omega⟩
    · go_wp2
      go_ret
      obtain rfl : i = xs.length := by omega
      exact ⟨by simp, hb⟩
end Go.Proofs.Ytapllnlclgbbkaa
