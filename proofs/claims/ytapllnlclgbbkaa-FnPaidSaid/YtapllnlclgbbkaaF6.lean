import Derived.Test.YtapllnlclgbbkaaF5
namespace Go.Proofs.Ytapllnlclgbbkaa
set_option maxRecDepth 10000
open Go.RowKit
def markI (k : Int) (n : Nat) : List Int := (List.range n).map fun i : Nat => k + (i : Int)
theorem markI_len (k : Int) (n : Nat) : (markI k n).length = n := by simp [markI]
theorem markI_get {k : Int} {n i : Nat} (h : i < n) : (markI k n)[i]? = some (k + (i : Int)) := by simp [markI, h]
theorem markIntS_any (A : Option Addr) (n c B : Nat) (k0 : Int) (xs : List Int) (w : World) (ho : Own w B 3 (.slice A n c) xs) (hl : n = xs.length) (hn : n ≤ 2000000) (hk0 : 0 ≤ k0) (hk1 : k0 ≤ 100000000) :
    Calls Try.prog 51 #[.slice A n c, .int .i64 k0] w fun e w' => e = .returned (.int .i64 (k0 + n)) ∧ Own w' B 3 (.slice A n c) (markI k0 n) ∧ w.grownBy w' (Value.slice A n c).ownBlock := by
  subst hl
  by_cases h0 : xs.length ≤ 0
  · have hx : xs = [] := List.length_eq_zero_iff.1 (by omega)
    have HO : Hid (Own w B 3 (.slice A xs.length c) (markI k0 xs.length)) := by subst hx; exact ho
    have HZ := Lib.hid (show k0 = k0 + (xs.length : Int) by omega)
    clear ho hx
    go_enter Try.func51, Try.ntmps51
    go_wp2
    go_loopw [5, 1] (fun i k wr => i = .int .i64 0 ∧ k = .int .i64 k0 ∧ wr = w) (fun _ _ _ => 0)
    case atStart => exact ⟨rfl, rfl, rfl⟩
    case round =>
      obtain ⟨rfl, rfl, rfl⟩ := hrel
      go_wp2
      go_ret
      exact ⟨reti HZ.out, HO.out, ⟨rfl, rfl, rfl, Nat.le_refl _, fun _ _ _ => rfl⟩⟩
  · obtain ⟨g, cap, hv, hB, hlt⟩ := World.ownsRow.form ho (by omega)
    obtain ⟨rfl, rfl⟩ : A = some ⟨g, 0, none⟩ ∧ c = cap := by simpa using hv
    clear hv
    have HO := Lib.hid ho
    clear ho
    go_enter Try.func51, Try.ntmps51
    go_wp2
    go_loopw [5, 1] (fun i k wr => ∃ j : Nat, j ≤ xs.length ∧ i = .int .i64 j ∧ k = .int .i64 (k0 + (j : Int)) ∧ Marking w wr B 3 1 g xs.length c j (flat (markI k0 xs.length))) (fun i _ _ => xs.length - (intOf i).toNat)
    case atStart => exact ⟨0, by omega, rfl, by simp, Marking.start HO.out⟩
    case round =>
      obtain ⟨i, hi, rfl, rfl, hM⟩ := hrel
      by_cases hlt2 : i < xs.length
      · have y0 := flat_int (markI_get (k := k0) hlt2)
        have H0 := Lib.hid y0
        clear y0
        obtain ⟨u0, d0⟩ := hM.cell (j := i) (by omega)
        have f0 := hM.frozen i
        have HM := Lib.hid hM
        clear hM
        go_wp2
        exact ⟨⟨i + 1, by omega, by go_num, by congr 1 <;> omega, HM.out.set1 (by omega) H0.out⟩, by simp [intOf]; omega⟩
      · go_wp2
        go_ret
        obtain rfl : i = xs.length := by omega
        have hM2 : Marking w wr B 3 (Enc.k Int) g xs.length c (xs.length * Enc.k Int) (flat (markI k0 xs.length)) := by rw [show xs.length * Enc.k Int = xs.length from Nat.mul_one _]; exact hM
        obtain ⟨h1, h2⟩ := hM2.own (markI_len _ _)
        exact ⟨reti rfl, h1, h2⟩
theorem heldIntS_any (A : Option Addr) (n c : Nat) (k0 : Int) (xs : List Int) (w : World) (hr : Rd w w.heap.size A xs) (hx : xs = markI k0 n) (hn : n ≤ 2000000) (hk0 : 0 ≤ k0) (hk1 : k0 ≤ 100000000) :
    Calls Try.prog 55 #[.slice A n c, .int .i64 k0] w fun e w' => e = .returned (.int .i64 (k0 + n)) ∧ Up w w' := by
  subst hx
  go_enter Try.func55, Try.ntmps55
  go_wp2
  go_loopw [5, 1] (fun i k wr => ∃ j : Nat, j ≤ n ∧ i = .int .i64 j ∧ k = .int .i64 (k0 + (j : Int)) ∧ Up w wr) (fun i _ _ => n - (intOf i).toNat)
  case atStart => exact ⟨0, by omega, rfl, by simp, by (repeat (first | exact Up.rfl' _ | (refine Up.al _ ?_) | (refine Up.dr _ ?_) | (refine Up.dr1 ?_) | (refine Up.sc ?_ (by first | exact Nat.le_refl _ | (simp; done) | omega) _) | (refine Up.step (by assumption) ?_)))⟩
  case round =>
    obtain ⟨i, hi, rfl, rfl, hb⟩ := hrel
    by_cases hlt : i < n
    · obtain ⟨b, off, rfl, hbb, c0⟩ := (hr.below hb).int (markI_get hlt)
      have C0 : wr.cell? ⟨b, off + i, none⟩ = some (.int .i64 (k0 + (i : Int))) := c0
      clear c0 hr
      go_wp2
      exact ⟨⟨i + 1, by omega, by go_num, by congr 1 <;> omega, by (repeat (first | exact Up.rfl' _ | (refine Up.al _ ?_) | (refine Up.dr _ ?_) | (refine Up.dr1 ?_) | (refine Up.sc ?_ (by first | exact Nat.le_refl _ | (simp; done) | omega) _) | (refine Up.step (by assumption) ?_)))⟩, by simp [intOf]; omega⟩
    · go_wp2
      go_ret
      obtain rfl : i = n := by omega
      exact ⟨reti rfl, by (repeat (first | exact Up.rfl' _ | (refine Up.al _ ?_) | (refine Up.dr _ ?_) | (refine Up.dr1 ?_) | (refine Up.sc ?_ (by first | exact Nat.le_refl _ | (simp; done) | omega) _) | (refine Up.step (by assumption) ?_)))⟩
end Go.Proofs.Ytapllnlclgbbkaa
