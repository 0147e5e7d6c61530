import Derived.Test.YtapllnlclgbbkaaC4
import Derived.Test.YtapllnlclgbbkaaQuiet
namespace Go.Proofs.Ytapllnlclgbbkaa
set_option maxRecDepth 10000
open Go.RowKit
theorem sumOf_impl_n (A : Option Addr) (xs : List Ln) (n c : Nat) (o k : Int) (w : World) (hr : Rd w w.heap.size A xs) (hl : n = xs.length) (hn : n ≤ 2000000)
  : Calls Try.prog 30 #[.slice A n c, .int .i64 o, .int .i64 k] w fun e w' => e = .returned (.int .i64 (sumLn xs o k)) ∧ Up w w' := by
  subst hl; exact sumOf_impl A xs c o k w hr hn
set_option maxHeartbeats 1600000 in
theorem areLines_impl (A : Option Addr) (xs : List Ln) (c : Nat) (w : World) (hr : Rd w w.heap.size A xs) (hc : xs.length ≤ c) (hn : xs.length ≤ 2000000)
  : Calls Try.prog 40 #[.slice A xs.length c] w fun e w' => e = .returned (.bool (linesB xs)) ∧ Up w w' := by
  by_cases h200 : xs.length ≤ 200
  · go_enter Try.func40, Try.ntmps40
    go_wp2
    go_loopw [12] (fun i wr => ∃ j : Nat, j ≤ xs.length ∧ i = .int .i64 j ∧ Hid (allTo j (lineAt xs) = true) ∧ Up w wr) (fun i _ => xs.length - (intOf i).toNat)
    case atStart => exact ⟨0, by omega, rfl, allTo_zero _, by (repeat (first | exact Up.rfl' _ | (refine Up.al _ ?_) | (refine Up.dr _ ?_) | (refine Up.dr1 ?_) | (refine Up.sc ?_ (by first | exact Nat.le_refl _ | (simp; done) | omega) _) | (refine Up.step (by assumption) ?_)))⟩
    case round =>
      obtain ⟨i, hi, rfl, he, hb⟩ := hrel
      by_cases hlt : i < xs.length
      · obtain ⟨x, gx⟩ := get_of_lt hlt
        obtain ⟨b, off, rfl, hbb, c0, c1, c2, c3⟩ := (hr.below hb).ln gx
        have Gx := Lib.hid gx
        clear gx
        go_wp2
        generalize hwb : wr.alloc (.cells #[I x.o, I x.k, I x.a, I x.t] 25) = wb
        have d0 : wb.cell? ⟨wr.heap.size, 0, none⟩ = some (I x.o) := by rw [← hwb]; simp [go_sem]
        have d1 : wb.cell? ⟨wr.heap.size, 1, none⟩ = some (I x.k) := by rw [← hwb]; simp [go_sem]
        have d2 : wb.cell? ⟨wr.heap.size, 2, none⟩ = some (I x.a) := by rw [← hwb]; simp [go_sem]
        have d3 : wb.cell? ⟨wr.heap.size, 3, none⟩ = some (I x.t) := by rw [← hwb]; simp [go_sem]
        have hub : Up wr wb := by rw [← hwb]; (repeat (first | exact Up.rfl' _ | (refine Up.al _ ?_) | (refine Up.dr _ ?_) | (refine Up.dr1 ?_) | (refine Up.sc ?_ (by first | exact Nat.le_refl _ | (simp; done) | omega) _) | (refine Up.step (by assumption) ?_)))
        clear hwb c0 c1 c2 c3
        go_cut [12, 34] (fun s12 s34 wx => s12 = .int .i64 i ∧ s34 = .bool (badAt xs i x) ∧ Up wb wx)
        case first =>
          cases hL : lineB x.o x.k x.a x.t with
          | false =>
            have HB := Lib.hid (bad_line (xs := xs) (i := i) hL)
            (have Ed0 := Ups.cell d0; have Ed1 := Ups.cell d1; have Ed2 := Ups.cell d2; have Ed3 := Ups.cell d3; refine wp_region_up (by kernel_rfl) (by kernel_rfl) ?_; (repeat (go_big_quiet_step ((go_at_call 20; exact Ups.call (isLine_impl _ _ _ _ _))))); refine wpQuiet_nil ?_; intro wq1 hq1; clear Ed0 Ed1 Ed2 Ed3; replace d0 := cellUp d0 hq1; replace d1 := cellUp d1 hq1; replace d2 := cellUp d2 hq1; replace d3 := cellUp d3 hq1)
            go_wp2
            go_meet
            exact ⟨rfl, by rw [HB.out], by (repeat (first | exact Up.rfl' _ | (refine Up.al _ ?_) | (refine Up.dr _ ?_) | (refine Up.dr1 ?_) | (refine Up.sc ?_ (by first | exact Nat.le_refl _ | (simp; done) | omega) _) | (refine Up.step (by assumption) ?_)))⟩
          | true =>
            rcases Nat.eq_zero_or_pos i with h0' | h0
            · have h0 : i ≤ 0 := by omega
              clear h0'
              have HB := Lib.hid (bad_first (xs := xs) hL h0)
              have t0 : decide ((0 : Int) < (i : Int)) = false := decide_eq_false (by omega)
              have t1 : decide (0 < i) = false := decide_eq_false (by omega)
              (have Ed0 := Ups.cell d0; have Ed1 := Ups.cell d1; have Ed2 := Ups.cell d2; have Ed3 := Ups.cell d3; refine wp_region_up (by kernel_rfl) (by kernel_rfl) ?_; (repeat (go_big_quiet_step ((go_at_call 20; exact Ups.call (isLine_impl _ _ _ _ _))))); refine wpQuiet_nil ?_; intro wq1 hq1; clear Ed0 Ed1 Ed2 Ed3; replace d0 := cellUp d0 hq1; replace d1 := cellUp d1 hq1; replace d2 := cellUp d2 hq1; replace d3 := cellUp d3 hq1)
              go_wp2
              go_meet
              exact ⟨rfl, by rw [HB.out], by (repeat (first | exact Up.rfl' _ | (refine Up.al _ ?_) | (refine Up.dr _ ?_) | (refine Up.dr1 ?_) | (refine Up.sc ?_ (by first | exact Nat.le_refl _ | (simp; done) | omega) _) | (refine Up.step (by assumption) ?_)))⟩
            · obtain ⟨m, rfl⟩ : ∃ m, i = m + 1 := ⟨i - 1, by omega⟩
              obtain ⟨y, gy⟩ := get_of_lt (xs := xs) (i := m) (by omega)
              obtain ⟨b', off', hA, _, _, _, _, p3⟩ := ((hr.up hb).up hub).ln gy
              obtain ⟨rfl, rfl⟩ : b = b' ∧ off = off' := by simpa using hA
              have HB := Lib.hid (bad_next (x := x) hL gy)
              clear hA gy hr
              have t0 : decide ((0 : Int) < (m : Int) + 1) = true := decide_eq_true (by omega)
              have t1 : decide (0 < m + 1) = true := by simp
              have wm : IntKind.i64.wrap (m : Int) = m := IntWalk.i64_in _ (by omega)
              have wm1 : IntKind.i64.wrap ((m : Int) + 1 - 1) = m := by rw [IntWalk.i64_in _ (by omega)]; omega
              have bm0 : (0 : Int) ≤ (m : Int) := by omega
              have bm1 : (m : Int) < (xs.length : Int) := by omega
              (have Ed0 := Ups.cell d0; have Ed1 := Ups.cell d1; have Ed2 := Ups.cell d2; have Ed3 := Ups.cell d3; have Ep3 := Ups.cell p3; refine wp_region_up (by kernel_rfl) (by kernel_rfl) ?_; (repeat (go_big_quiet_step ((go_at_call 20; exact Ups.call (isLine_impl _ _ _ _ _))))); refine wpQuiet_nil ?_; intro wq1 hq1; clear Ed0 Ed1 Ed2 Ed3 Ep3; replace d0 := cellUp d0 hq1; replace d1 := cellUp d1 hq1; replace d2 := cellUp d2 hq1; replace d3 := cellUp d3 hq1; replace p3 := cellUp p3 hq1)
              go_wp2
              go_meet
              exact ⟨by go_num, by rw [HB.out], by (repeat (first | exact Up.rfl' _ | (refine Up.al _ ?_) | (refine Up.dr _ ?_) | (refine Up.dr1 ?_) | (refine Up.sc ?_ (by first | exact Nat.le_refl _ | (simp; done) | omega) _) | (refine Up.step (by assumption) ?_)))⟩
        case rest =>
          obtain ⟨rfl, rfl, hbc⟩ := hcut
          replace d0 := cellUp d0 hbc
          replace d1 := cellUp d1 hbc
          replace d2 := cellUp d2 hbc
          replace d3 := cellUp d3 hbc
          cases hbad : badAt xs i x with
          | true =>
            have HR := Lib.hid (linesB_bad Gx.out hbad)
            go_wp2
            go_ret
            exact ⟨retb HR.out.symm, by (repeat (first | exact Up.rfl' _ | (refine Up.al _ ?_) | (refine Up.dr _ ?_) | (refine Up.dr1 ?_) | (refine Up.sc ?_ (by first | exact Nat.le_refl _ | (simp; done) | omega) _) | (refine Up.step (by assumption) ?_)))⟩
          | false =>
            have bi0 : (0 : Int) ≤ (i : Int) := by omega
            have bi1 : (i : Int) ≤ (c : Int) := by omega
            have bc0 : ¬ c = 0 := by omega
            have hrc := (hr.up (show Up w wc by (repeat (first | exact Up.rfl' _ | (refine Up.al _ ?_) | (refine Up.dr _ ?_) | (refine Up.dr1 ?_) | (refine Up.sc ?_ (by first | exact Nat.le_refl _ | (simp; done) | omega) _) | (refine Up.step (by assumption) ?_))))).take_ i
            have hli : i = (xs.take i).length := by simp; omega
            have HR := Lib.hid hrc
            have HL := Lib.hid hli
            have HK := Lib.hid (kind_of (line_of_bad hbad))
            have HBad := Lib.hid hbad
            clear hrc hli hr hbad
            go_wp2
            (have Ed0 := Ups.cell d0; have Ed1 := Ups.cell d1; have Ed2 := Ups.cell d2; have Ed3 := Ups.cell d3; refine wp_region_up (by kernel_rfl) (by kernel_rfl) ?_; (repeat (go_big_quiet_step ((go_at_call 30; exact Ups.call (sumOf_impl_n _ (xs.take i) _ _ _ _ _ (HR.out.up (Up.step (Ups.up _) (by (repeat (first | exact Up.rfl' _ | (refine Up.al _ ?_) | (refine Up.dr _ ?_) | (refine Up.dr1 ?_) | (refine Up.sc ?_ (by first | exact Nat.le_refl _ | (simp; done) | omega) _) | (refine Up.step (by assumption) ?_)))))) HL.out (by omega)))))); refine wpQuiet_nil ?_; intro wq1 hq1; clear Ed0 Ed1 Ed2 Ed3; replace d0 := cellUp d0 hq1; replace d1 := cellUp d1 hq1; replace d2 := cellUp d2 hq1; replace d3 := cellUp d3 hq1)
            go_wp2
            (have Ed0 := Ups.cell d0; have Ed1 := Ups.cell d1; have Ed2 := Ups.cell d2; have Ed3 := Ups.cell d3; refine wp_region_up (by kernel_rfl) (by kernel_rfl) ?_; (repeat (go_big_quiet_step ((go_at_call 30; exact Ups.call (sumOf_impl_n _ (xs.take i) _ _ _ _ _ (HR.out.up (Up.step (Ups.up _) (by (repeat (first | exact Up.rfl' _ | (refine Up.al _ ?_) | (refine Up.dr _ ?_) | (refine Up.dr1 ?_) | (refine Up.sc ?_ (by first | exact Nat.le_refl _ | (simp; done) | omega) _) | (refine Up.step (by assumption) ?_)))))) HL.out (by omega)))))); refine wpQuiet_nil ?_; intro wq2 hq2; clear Ed0 Ed1 Ed2 Ed3; replace d0 := cellUp d0 hq2; replace d1 := cellUp d1 hq2; replace d2 := cellUp d2 hq2; replace d3 := cellUp d3 hq2)
            rcases HK.out with hk | hk | hk
            · have k1 : (x.k == 1) = true := by simp [hk]
              have hfit := fit1 (b := xs.take i) hk
              clear hk
              cases h1 : decide (0 < sumLn (xs.take i) x.o 1) with
              | true =>
                have HF := Lib.hid (linesB_unfit Gx.out (hfit.trans (by rw [h1]; rfl)))
                clear hfit
                go_wp2
                go_ret
                exact ⟨retb HF.out.symm, by (repeat (first | exact Up.rfl' _ | (refine Up.al _ ?_) | (refine Up.dr _ ?_) | (refine Up.dr1 ?_) | (refine Up.sc ?_ (by first | exact Nat.le_refl _ | (simp; done) | omega) _) | (refine Up.step (by assumption) ?_)))⟩
              | false =>
                have HF := Lib.hid (lineAt_ok Gx.out HBad.out (hfit.trans (by rw [h1]; rfl)))
                clear hfit
                go_wp2
                exact ⟨⟨i + 1, by omega, by go_num, allTo_succ he.out HF.out, by (repeat (first | exact Up.rfl' _ | (refine Up.al _ ?_) | (refine Up.dr _ ?_) | (refine Up.dr1 ?_) | (refine Up.sc ?_ (by first | exact Nat.le_refl _ | (simp; done) | omega) _) | (refine Up.step (by assumption) ?_)))⟩, by simp [intOf]; omega⟩
            · have k1 : (x.k == 1) = false := by simp [hk]
              have k2 : (x.k == 2) = true := by simp [hk]
              have hfit := fit2 (b := xs.take i) hk
              clear hk
              cases h1 : decide (sumLn (xs.take i) x.o 1 < wrap64 (sumLn (xs.take i) x.o 2 + x.a)) with
              | true =>
                have HF := Lib.hid (linesB_unfit Gx.out (hfit.trans (by rw [h1]; rfl)))
                clear hfit
                go_wp2
                go_ret
                exact ⟨retb HF.out.symm, by (repeat (first | exact Up.rfl' _ | (refine Up.al _ ?_) | (refine Up.dr _ ?_) | (refine Up.dr1 ?_) | (refine Up.sc ?_ (by first | exact Nat.le_refl _ | (simp; done) | omega) _) | (refine Up.step (by assumption) ?_)))⟩
              | false =>
                have HF := Lib.hid (lineAt_ok Gx.out HBad.out (hfit.trans (by rw [h1]; rfl)))
                clear hfit
                go_wp2
                exact ⟨⟨i + 1, by omega, by go_num, allTo_succ he.out HF.out, by (repeat (first | exact Up.rfl' _ | (refine Up.al _ ?_) | (refine Up.dr _ ?_) | (refine Up.dr1 ?_) | (refine Up.sc ?_ (by first | exact Nat.le_refl _ | (simp; done) | omega) _) | (refine Up.step (by assumption) ?_)))⟩, by simp [intOf]; omega⟩
            · have k1 : (x.k == 1) = false := by simp [hk]
              have k2 : (x.k == 2) = false := by simp [hk]
              have k3 : (x.k == 3) = true := by simp [hk]
              have hfit := fit3 (b := xs.take i) hk
              clear hk
              cases h1 : decide (0 < sumLn (xs.take i) x.o 3) with
              | true =>
                have HF := Lib.hid (linesB_unfit Gx.out (hfit.trans (by rw [h1]; rfl)))
                clear hfit
                go_wp2
                (have Ed0 := Ups.cell d0; have Ed1 := Ups.cell d1; have Ed2 := Ups.cell d2; have Ed3 := Ups.cell d3; refine wp_region_up (by kernel_rfl) (by kernel_rfl) ?_; (repeat (go_big_quiet_step ((go_at_call 30; exact Ups.call (sumOf_impl_n _ (xs.take i) _ _ _ _ _ (HR.out.up (Up.step (Ups.up _) (by (repeat (first | exact Up.rfl' _ | (refine Up.al _ ?_) | (refine Up.dr _ ?_) | (refine Up.dr1 ?_) | (refine Up.sc ?_ (by first | exact Nat.le_refl _ | (simp; done) | omega) _) | (refine Up.step (by assumption) ?_)))))) HL.out (by omega)))))); refine wpQuiet_nil ?_; intro wq3 hq3; clear Ed0 Ed1 Ed2 Ed3; replace d0 := cellUp d0 hq3; replace d1 := cellUp d1 hq3; replace d2 := cellUp d2 hq3; replace d3 := cellUp d3 hq3)
                go_wp2
                go_ret
                exact ⟨retb HF.out.symm, by (repeat (first | exact Up.rfl' _ | (refine Up.al _ ?_) | (refine Up.dr _ ?_) | (refine Up.dr1 ?_) | (refine Up.sc ?_ (by first | exact Nat.le_refl _ | (simp; done) | omega) _) | (refine Up.step (by assumption) ?_)))⟩
              | false =>
              cases h2 : (sumLn (xs.take i) x.o 2 != sumLn (xs.take i) x.o 1) with
              | true =>
                have HF := Lib.hid (linesB_unfit Gx.out (hfit.trans (by rw [h1]; simp at h2; simp [h2])))
                clear hfit
                go_wp2
                (have Ed0 := Ups.cell d0; have Ed1 := Ups.cell d1; have Ed2 := Ups.cell d2; have Ed3 := Ups.cell d3; refine wp_region_up (by kernel_rfl) (by kernel_rfl) ?_; (repeat (go_big_quiet_step ((go_at_call 30; exact Ups.call (sumOf_impl_n _ (xs.take i) _ _ _ _ _ (HR.out.up (Up.step (Ups.up _) (by (repeat (first | exact Up.rfl' _ | (refine Up.al _ ?_) | (refine Up.dr _ ?_) | (refine Up.dr1 ?_) | (refine Up.sc ?_ (by first | exact Nat.le_refl _ | (simp; done) | omega) _) | (refine Up.step (by assumption) ?_)))))) HL.out (by omega)))))); refine wpQuiet_nil ?_; intro wq3 hq3; clear Ed0 Ed1 Ed2 Ed3; replace d0 := cellUp d0 hq3; replace d1 := cellUp d1 hq3; replace d2 := cellUp d2 hq3; replace d3 := cellUp d3 hq3)
                go_wp2
                go_ret
                exact ⟨retb HF.out.symm, by (repeat (first | exact Up.rfl' _ | (refine Up.al _ ?_) | (refine Up.dr _ ?_) | (refine Up.dr1 ?_) | (refine Up.sc ?_ (by first | exact Nat.le_refl _ | (simp; done) | omega) _) | (refine Up.step (by assumption) ?_)))⟩
              | false =>
              cases h3 : decide (sumLn (xs.take i) x.o 1 < x.a) with
              | true =>
                have HF := Lib.hid (linesB_unfit Gx.out (hfit.trans (by rw [h1, h3]; simp)))
                clear hfit
                go_wp2
                (have Ed0 := Ups.cell d0; have Ed1 := Ups.cell d1; have Ed2 := Ups.cell d2; have Ed3 := Ups.cell d3; refine wp_region_up (by kernel_rfl) (by kernel_rfl) ?_; (repeat (go_big_quiet_step ((go_at_call 30; exact Ups.call (sumOf_impl_n _ (xs.take i) _ _ _ _ _ (HR.out.up (Up.step (Ups.up _) (by (repeat (first | exact Up.rfl' _ | (refine Up.al _ ?_) | (refine Up.dr _ ?_) | (refine Up.dr1 ?_) | (refine Up.sc ?_ (by first | exact Nat.le_refl _ | (simp; done) | omega) _) | (refine Up.step (by assumption) ?_)))))) HL.out (by omega)))))); refine wpQuiet_nil ?_; intro wq3 hq3; clear Ed0 Ed1 Ed2 Ed3; replace d0 := cellUp d0 hq3; replace d1 := cellUp d1 hq3; replace d2 := cellUp d2 hq3; replace d3 := cellUp d3 hq3)
                go_wp2
                go_ret
                exact ⟨retb HF.out.symm, by (repeat (first | exact Up.rfl' _ | (refine Up.al _ ?_) | (refine Up.dr _ ?_) | (refine Up.dr1 ?_) | (refine Up.sc ?_ (by first | exact Nat.le_refl _ | (simp; done) | omega) _) | (refine Up.step (by assumption) ?_)))⟩
              | false =>
                have HF := Lib.hid (lineAt_ok Gx.out HBad.out (hfit.trans (by rw [h1, h3]; simp at h2; simp [h2])))
                clear hfit
                go_wp2
                (have Ed0 := Ups.cell d0; have Ed1 := Ups.cell d1; have Ed2 := Ups.cell d2; have Ed3 := Ups.cell d3; refine wp_region_up (by kernel_rfl) (by kernel_rfl) ?_; (repeat (go_big_quiet_step ((go_at_call 30; exact Ups.call (sumOf_impl_n _ (xs.take i) _ _ _ _ _ (HR.out.up (Up.step (Ups.up _) (by (repeat (first | exact Up.rfl' _ | (refine Up.al _ ?_) | (refine Up.dr _ ?_) | (refine Up.dr1 ?_) | (refine Up.sc ?_ (by first | exact Nat.le_refl _ | (simp; done) | omega) _) | (refine Up.step (by assumption) ?_)))))) HL.out (by omega)))))); refine wpQuiet_nil ?_; intro wq3 hq3; clear Ed0 Ed1 Ed2 Ed3; replace d0 := cellUp d0 hq3; replace d1 := cellUp d1 hq3; replace d2 := cellUp d2 hq3; replace d3 := cellUp d3 hq3)
                go_wp2
                exact ⟨⟨i + 1, by omega, by go_num, allTo_succ he.out HF.out, by (repeat (first | exact Up.rfl' _ | (refine Up.al _ ?_) | (refine Up.dr _ ?_) | (refine Up.dr1 ?_) | (refine Up.sc ?_ (by first | exact Nat.le_refl _ | (simp; done) | omega) _) | (refine Up.step (by assumption) ?_)))⟩, by simp [intOf]; omega⟩
      · obtain rfl : i = xs.length := by omega
        have HR := Lib.hid (linesB_all h200 he.out)
        go_wp2
        go_ret
        exact ⟨retb HR.out.symm, by (repeat (first | exact Up.rfl' _ | (refine Up.al _ ?_) | (refine Up.dr _ ?_) | (refine Up.dr1 ?_) | (refine Up.sc ?_ (by first | exact Nat.le_refl _ | (simp; done) | omega) _) | (refine Up.step (by assumption) ?_)))⟩
  · have HR := Lib.hid (linesB_long h200)
    go_enter Try.func40, Try.ntmps40
    go_wp2
    go_ret
    exact ⟨retb HR.out.symm, by (repeat (first | exact Up.rfl' _ | (refine Up.al _ ?_) | (refine Up.dr _ ?_) | (refine Up.dr1 ?_) | (refine Up.sc ?_ (by first | exact Nat.le_refl _ | (simp; done) | omega) _) | (refine Up.step (by assumption) ?_)))⟩
end Go.Proofs.Ytapllnlclgbbkaa
