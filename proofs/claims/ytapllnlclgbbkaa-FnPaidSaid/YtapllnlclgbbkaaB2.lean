import Derived.Test.YtapllnlclgbbkaaB1
namespace Go.Proofs.Ytapllnlclgbbkaa
set_option maxRecDepth 10000
open Go.RowKit
theorem arePercents_impl (A : Option Addr) (c : Nat) (xs : List Int) (w : World) (hx : Rd w w.heap.size A xs) (hn : xs.length ≤ 2000000) :
    Calls Try.prog 23 #[.slice A xs.length c] w fun e w' => e = .returned (.bool (pctsB xs)) ∧ Below w.heap.size w w' := by
  go_enter Try.func23, Try.ntmps23
  go_wp2
  go_loopw [7] (fun i wr => ∃ j : Nat, j ≤ xs.length ∧ i = .int .i64 j ∧ Hid (allTo j (pctAt xs) = true) ∧ Below w.heap.size w wr) (fun i _ => xs.length - (intOf i).toNat)
  case atStart => exact ⟨0, by omega, rfl, allTo_zero _, Below.refl _ _⟩
  case round =>
    obtain ⟨i, hi, rfl, he, hb⟩ := hrel
    by_cases hlt : i < xs.length
    · obtain ⟨x, gx⟩ := get_of_lt hlt
      cases hin : inB x 0 100 with
      | false =>
        obtain ⟨b, off, rfl, hbb, c0⟩ := (hx.below hb).int gx
        have HR := Lib.hid (pctsB_false hlt (pctAt_out gx hin))
        clear gx hx
        go_wp2_with (go_at_call 59; refine (within_any _ _ _ _).mono ?_; rintro e w' ⟨rfl, rfl⟩)
        go_ret
        exact ⟨retb HR.out.symm, hb⟩
      | true =>
        rcases Nat.eq_zero_or_pos i with h0' | h0
        · have h0 : i ≤ 0 := by omega
          clear h0'
          obtain ⟨b, off, rfl, hbb, c0⟩ := (hx.below hb).int gx
          have HR := Lib.hid (pctAt_zero h0 gx hin)
          clear gx hx
          go_wp2_with (go_at_call 59; refine (within_any _ _ _ _).mono ?_; rintro e w' ⟨rfl, rfl⟩)
          exact ⟨⟨i + 1, by omega, by go_num, allTo_succ he.out HR.out, hb⟩, by simp [intOf]; omega⟩
        · obtain ⟨m, rfl⟩ : ∃ m, i = m + 1 := ⟨i - 1, by omega⟩
          obtain ⟨y, gy⟩ := get_of_lt (xs := xs) (i := m) (by omega)
          obtain ⟨b, off, rfl, hbb, c0⟩ := (hx.below hb).int gx
          obtain ⟨b', off', hA, _, c1⟩ := (hx.below hb).int gy
          obtain ⟨rfl, rfl⟩ : b = b' ∧ off = off' := by simpa using hA
          clear hA
          by_cases hlt2 : x < y
          · have HR := Lib.hid (pctsB_false hlt (pctAt_down gy gx hlt2))
            clear gx hx gy
            go_wp2_with (go_at_call 59; refine (within_any _ _ _ _).mono ?_; rintro e w' ⟨rfl, rfl⟩)
            go_ret
            exact ⟨retb HR.out.symm, hb⟩
          · have HR := Lib.hid (pctAt_up gy gx hin hlt2)
            clear gx hx gy
            go_wp2_with (go_at_call 59; refine (within_any _ _ _ _).mono ?_; rintro e w' ⟨rfl, rfl⟩)
            exact ⟨⟨m + 2, by omega, by go_num, allTo_succ he.out HR.out, hb⟩, by simp [intOf]; omega⟩
    · obtain rfl : i = xs.length := by omega
      have HR := Lib.hid (pctsB_len he.out)
      clear hx
      go_wp2_with (go_at_call 59; refine (within_any _ _ _ _).mono ?_; rintro e w' ⟨rfl, rfl⟩)
      go_ret
      exact ⟨retb HR.out.symm, hb⟩
theorem arePercents_spec (A : Option Addr) (c : Nat) (xs : List Int) (w : World) (hx : Rd w w.heap.size A xs) (hn : xs.length ≤ 2000000) :
    Calls Try.prog 21 #[.slice A xs.length c] w fun e w' => e = .returned (.bool (pctsB xs)) ∧ Below w.heap.size w w' := by
  go_enter Try.func21, Try.ntmps21
  go_wp2
  go_loopw [3] (fun i wr => ∃ j : Nat, j ≤ xs.length ∧ i = .int .i64 j ∧ Hid (allTo j (pctAt xs) = true) ∧ Below w.heap.size w wr) (fun i _ => xs.length - (intOf i).toNat)
  case atStart => exact ⟨0, by omega, rfl, allTo_zero _, Below.refl _ _⟩
  case round =>
    obtain ⟨i, hi, rfl, he, hb⟩ := hrel
    by_cases hlt : i < xs.length
    · obtain ⟨x, gx⟩ := get_of_lt hlt
      cases hin : inB x 0 100 with
      | false =>
        obtain ⟨b, off, rfl, hbb, c0⟩ := (hx.below hb).int gx
        have HR := Lib.hid (pctsB_false hlt (pctAt_out gx hin))
        clear gx hx
        go_wp2
        go_quiet ((go_at_call 58; exact quietL (l1In_any _ _ _ _)))
        go_wp2
        go_ret
        exact ⟨retb HR.out.symm, belowD hb _⟩
      | true =>
        rcases Nat.eq_zero_or_pos i with h0' | h0
        · have h0 : i ≤ 0 := by omega
          clear h0'
          obtain ⟨b, off, rfl, hbb, c0⟩ := (hx.below hb).int gx
          have HR := Lib.hid (pctAt_zero h0 gx hin)
          clear gx hx
          have d0 : decide ((0 : Int) < (i : Int)) = false := by simp; omega
          have d1 : decide (0 < i) = false := by simp; omega
          go_wp2
          go_quiet ((go_at_call 58; exact quietL (l1In_any _ _ _ _)))
          go_wp2
          exact ⟨⟨i + 1, by omega, by go_num, allTo_succ he.out HR.out, belowD hb _⟩, by simp [intOf]; omega⟩
        · obtain ⟨m, rfl⟩ : ∃ m, i = m + 1 := ⟨i - 1, by omega⟩
          obtain ⟨y, gy⟩ := get_of_lt (xs := xs) (i := m) (by omega)
          obtain ⟨b, off, rfl, hbb, c0⟩ := (hx.below hb).int gx
          obtain ⟨b', off', hA, _, c1⟩ := (hx.below hb).int gy
          obtain ⟨rfl, rfl⟩ : b = b' ∧ off = off' := by simpa using hA
          clear hA
          by_cases hlt2 : x < y
          · have HR := Lib.hid (pctsB_false hlt (pctAt_down gy gx hlt2))
            clear gx hx gy
            go_wp2
            go_quiet ((go_at_call 58; exact quietL (l1In_any _ _ _ _)))
            go_wp2
            go_ret
            exact ⟨retb HR.out.symm, belowD hb _⟩
          · have HR := Lib.hid (pctAt_up gy gx hin hlt2)
            clear gx hx gy
            go_wp2
            go_quiet ((go_at_call 58; exact quietL (l1In_any _ _ _ _)))
            go_wp2
            exact ⟨⟨m + 2, by omega, by go_num, allTo_succ he.out HR.out, belowD hb _⟩, by simp [intOf]; omega⟩
    · obtain rfl : i = xs.length := by omega
      have HR := Lib.hid (pctsB_len he.out)
      clear hx
      go_wp2_with (go_at_call 58; refine (l1In_any _ _ _ _).mono ?_; rintro e w' ⟨rfl, rfl⟩)
      go_ret
      exact ⟨retb HR.out.symm, hb⟩
end Go.Proofs.Ytapllnlclgbbkaa
