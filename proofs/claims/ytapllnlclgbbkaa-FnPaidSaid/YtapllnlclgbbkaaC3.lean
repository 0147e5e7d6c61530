import Derived.Test.YtapllnlclgbbkaaC2
namespace Go.Proofs.Ytapllnlclgbbkaa
set_option maxRecDepth 10000
open Go.RowKit
theorem info_implLine : (Try.prog.info? 25).map (fun i => (i.zero, i.size, i.bytes)) = some (some (.agg #[.int .i64 0, .int .i64 0, .int .i64 0, .int .i64 0]), 4, 32) := by kernel_rfl
theorem toLineS_any (A : Option Addr) (c : Nat) (xs : List Ln) (w : World) (hx : Rd w w.heap.size A xs) (hn : xs.length ≤ 2000000) :
    Calls Try.prog 29 #[.slice A xs.length c] w fun e w' => ∃ g, e = .returned (.slice (some ⟨g, 0, none⟩) xs.length xs.length) ∧ Own w' w.heap.size 25 (.slice (some ⟨g, 0, none⟩) xs.length xs.length) xs ∧ Up w w' := by
  obtain ⟨i0, hi0, hz0, hz1, hz2⟩ := info_parts info_implLine
  have hmk := run_mk (P := Try.prog) 37 25 i0 _ Try.underlying37 hi0 hz0 xs.length (by rw [hz2]; omega) (by omega)
  rw [hz1] at hmk
  have HX := Lib.hid hx
  clear hi0 hz0 hz1 hz2 hx
  go_enter Try.func29, Try.ntmps29
  go_wp2
  go_loopw [4] (fun i wr => ∃ j : Nat, j ≤ xs.length ∧ i = .int .i64 j ∧ Filling wr w.heap.size 25 1 w.heap.size (xs.length * 4) (j * 4) (flat xs) ∧ Up w wr) (fun i _ => xs.length - (intOf i).toNat)
  case atStart => exact ⟨0, by omega, rfl, Filling.start1 w _ _ _ _ _ (Nat.le_refl _) (by unfold maxLen; omega), by (repeat (first | exact Up.rfl' _ | (refine Up.al _ ?_) | (refine Up.dr _ ?_) | (refine Up.dr1 ?_) | (refine Up.sc ?_ (by first | exact Nat.le_refl _ | (simp; done) | omega) _) | (refine Up.step (by assumption) ?_)))⟩
  case round =>
    obtain ⟨i, hi, rfl, hF, hb⟩ := hrel
    clear hmk
    by_cases hlt : i < xs.length
    · obtain ⟨x, gx⟩ := get_of_lt hlt
      obtain ⟨b, off, rfl, hbb, c0, c1, c2, c3⟩ := (HX.out.below hb).ln gx
      obtain ⟨y0, y1, y2, y3⟩ := flat_ln gx
      have H0 := Lib.hid y0
      have H1 := Lib.hid y1
      have H2 := Lib.hid y2
      have H3 := Lib.hid y3
      have HF := Lib.hid hF
      clear y0 y1 y2 y3 gx hF
      go_wp2_with (go_at_call 19; refine (toLine_any _ _ _ _ _).mono ?_; rintro e w1 ⟨rfl, hb1⟩; have hF1 := HF.out.kept hb1; obtain ⟨u0, d0⟩ := hF1.cell (j := i * 4) (by omega); obtain ⟨u1, d1⟩ := hF1.cell (j := i * 4 + 1) (by omega); obtain ⟨u2, d2⟩ := hF1.cell (j := i * 4 + 2) (by omega); obtain ⟨u3, d3⟩ := hF1.cell (j := i * 4 + 3) (by omega); have f0 := hF1.frozen (i * 4); have f1 := hF1.frozen (i * 4 + 1); have f2 := hF1.frozen (i * 4 + 2); have f3 := hF1.frozen (i * 4 + 3); have HF1 := Lib.hid hF1; clear hF1)
      have hF4 := (((HF1.out.set1 (by omega) H0.out).set1 (by omega) H1.out).set1 (by omega) H2.out).set1 (by omega) H3.out
      exact ⟨⟨i + 1, by omega, by go_num, (by have e : (i + 1) * 4 = i * 4 + 1 + 1 + 1 + 1 := by omega
                                              rw [e]; exact hF4), by (repeat (first | exact Up.rfl' _ | (refine Up.al _ ?_) | (refine Up.dr _ ?_) | (refine Up.dr1 ?_) | (refine Up.sc ?_ (by first | exact Nat.le_refl _ | (simp; done) | omega) _) | (refine Up.step (by assumption) ?_)))⟩, by simp [intOf]; omega⟩
    · go_wp2
      go_ret
      obtain rfl : i = xs.length := by omega
      exact ⟨_, rfl, hF.ownk rfl rfl (by unfold maxLen; omega), hb⟩
end Go.Proofs.Ytapllnlclgbbkaa
