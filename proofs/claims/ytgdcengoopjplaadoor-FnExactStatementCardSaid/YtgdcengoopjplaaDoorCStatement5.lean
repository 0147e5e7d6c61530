/- A part of the proof of the statement in the last file of this claim: texts on the language of the program and on its functions. No condition. -/
import Derived.Test.YtgdcengoopjplaaDoorCStatement4
import Derived.StillTailTactics
import Derived.Deep.RegionHeld3
namespace Go.Proofs.YtgdcengoopjplaaDoor
set_option maxRecDepth 10000
open Go.RowKit
theorem sumOf_impl_n (A : Option Addr) (xs : List Ln) (n c : Nat) (o k : Int) (w : World) (hr : Rd w w.heap.size A xs) (hl : n = xs.length) (hn : n ≤ 2000000)
  : Calls Tryd.prog 14 #[.slice A n c, .int .i64 o, .int .i64 k] w fun e w' => e = .returned (.int .i64 (sumLn xs o k)) ∧ Up w w' := by
  subst hl; exact sumOf_impl A xs c o k w hr hn
set_option maxHeartbeats 1600000 in
theorem areLines_impl (A : Option Addr) (xs : List Ln) (c : Nat) (w : World) (hr : Rd w w.heap.size A xs) (hc : xs.length ≤ c) (hn : xs.length ≤ 2000000)
  : Calls Tryd.prog 24 #[.slice A xs.length c] w fun e w' => e = .returned (.bool (linesB xs)) ∧ Up w w' := by
  by_cases h200 : xs.length ≤ 200
  · go_enter Tryd.func24, Tryd.ntmps24
    go_wp2
    go_loopw [12] (fun i wr => ∃ j : Nat, j ≤ xs.length ∧ i = .int .i64 j ∧ Hid (allTo j (lineAt xs) = true) ∧ Up w wr) (fun i _ => xs.length - (intOf i).toNat)
    case atStart => exact ⟨0, by omega, rfl, allTo_zero _, by (repeat (first | exact Up.rfl' _ | (refine Up.al _ ?_) | (refine Up.dr _ ?_) | (refine Up.dr1 ?_) | (refine Up.sc ?_ (by first | exact Nat.le_refl _ | (simp; done) | omega) _) | (refine Up.step (by assumption) ?_)))⟩
    case round =>
      obtain ⟨i, hi, rfl, he, hb⟩ := hrel
      by_cases hlt : i < xs.length
      · obtain ⟨x, gx⟩ := get_of_lt hlt
        obtain ⟨b, off, rfl, hbb, c0, c1, c2, c3⟩ := (hr.below hb).ln gx
        have Gx := Lib.hid gx
        clear gx
        go_wp2
        generalize hwb : wr.alloc (.cells #[I x.o, I x.k, I x.a, I x.t] 34) = wb
        have d0 : wb.cell? ⟨wr.heap.size, 0, none⟩ = some (I x.o) := by rw [← hwb]; simp [go_sem]
        have d1 : wb.cell? ⟨wr.heap.size, 1, none⟩ = some (I x.k) := by rw [← hwb]; simp [go_sem]
        have d2 : wb.cell? ⟨wr.heap.size, 2, none⟩ = some (I x.a) := by rw [← hwb]; simp [go_sem]
        have d3 : wb.cell? ⟨wr.heap.size, 3, none⟩ = some (I x.t) := by rw [← hwb]; simp [go_sem]
        have hub : Up wr wb := by rw [← hwb]; (repeat (first | exact Up.rfl' _ | (refine Up.al _ ?_) | (refine Up.dr _ ?_) | (refine Up.dr1 ?_) | (refine Up.sc ?_ (by first | exact Nat.le_refl _ | (simp; done) | omega) _) | (refine Up.step (by assumption) ?_)))
        clear hwb c0 c1 c2 c3
        go_cut [12, 34] (fun s12 s34 wx => s12 = .int .i64 i ∧ s34 = .bool (badAt xs i x) ∧ Up wb wx)
        case first =>
          cases hL : lineB x.o x.k x.a x.t with
          | false =>
            have HB := Lib.hid (bad_line (xs := xs) (i := i) hL)
            (have Ed0 := Ups.cell d0; have Ed1 := Ups.cell d1; have Ed2 := Ups.cell d2; have Ed3 := Ups.cell d3; refine wp_region_up (by kernel_rfl) (by kernel_rfl) ?_; (repeat (go_big_quiet_step ((go_at_call 37; exact Ups.call (isLine_impl _ _ _ _ _))))); refine wpQuiet_nil ?_; intro wq1 hq1; clear Ed0 Ed1 Ed2 Ed3; replace d0 := cellUp d0 hq1; replace d1 := cellUp d1 hq1; replace d2 := cellUp d2 hq1; replace d3 := cellUp d3 hq1)
            go_wp2
            go_meet
            exact ⟨rfl, by rw [HB.out], by (repeat (first | exact Up.rfl' _ | (refine Up.al _ ?_) | (refine Up.dr _ ?_) | (refine Up.dr1 ?_) | (refine Up.sc ?_ (by first | exact Nat.le_refl _ | (simp; done) | omega) _) | (refine Up.step (by assumption) ?_)))⟩
          | true =>
            rcases Nat.eq_zero_or_pos i with h0' | h0
            · have h0 : i ≤ 0 := by omega
              clear h0'
              have HB := Lib.hid (bad_first (xs := xs) hL h0)
              have t0 : decide ((0 : Int) < (i : Int)) = false := decide_eq_false (by omega)
              have t1 : decide (0 < i) = false := decide_eq_false (by omega)
              (have Ed0 := Ups.cell d0; have Ed1 := Ups.cell d1; have Ed2 := Ups.cell d2; have Ed3 := Ups.cell d3; refine wp_region_up (by kernel_rfl) (by kernel_rfl) ?_; (repeat (go_big_quiet_step ((go_at_call 37; exact Ups.call (isLine_impl _ _ _ _ _))))); refine wpQuiet_nil ?_; intro wq1 hq1; clear Ed0 Ed1 Ed2 Ed3; replace d0 := cellUp d0 hq1; replace d1 := cellUp d1 hq1; replace d2 := cellUp d2 hq1; replace d3 := cellUp d3 hq1)
              go_wp2
              go_meet
              exact ⟨rfl, by rw [HB.out], by (repeat (first | exact Up.rfl' _ | (refine Up.al _ ?_) | (refine Up.dr _ ?_) | (refine Up.dr1 ?_) | (refine Up.sc ?_ (by first | exact Nat.le_refl _ | (simp; done) | omega) _) | (refine Up.step (by assumption) ?_)))⟩
            · obtain ⟨m, rfl⟩ : ∃ m, i = m + 1 := ⟨i - 1, by omega⟩
              obtain ⟨y, gy⟩ := get_of_lt (xs := xs) (i := m) (by omega)
              obtain ⟨b', off', hA, _, _, _, _, p3⟩ := ((hr.up hb).up hub).ln gy
              obtain ⟨rfl, rfl⟩ : b = b' ∧ off = off' := by simpa using hA
              have HB := Lib.hid (bad_next (x := x) hL gy)
              clear hA gy hr
              have t0 : decide ((0 : Int) < (m : Int) + 1) = true := decide_eq_true (by omega)
              have t1 : decide (0 < m + 1) = true := by simp
              have wm : IntKind.i64.wrap (m : Int) = m := IntWalk.i64_in _ (by omega)
              have wm1 : IntKind.i64.wrap ((m : Int) + 1 - 1) = m := by rw [IntWalk.i64_in _ (by omega)]; omega
              have bm0 : (0 : Int) ≤ (m : Int) := by omega
              have bm1 : (m : Int) < (xs.length : Int) := by omega
              (have Ed0 := Ups.cell d0; have Ed1 := Ups.cell d1; have Ed2 := Ups.cell d2; have Ed3 := Ups.cell d3; have Ep3 := Ups.cell p3; refine wp_region_up (by kernel_rfl) (by kernel_rfl) ?_; (repeat (go_big_quiet_step ((go_at_call 37; exact Ups.call (isLine_impl _ _ _ _ _))))); refine wpQuiet_nil ?_; intro wq1 hq1; clear Ed0 Ed1 Ed2 Ed3 Ep3; replace d0 := cellUp d0 hq1; replace d1 := cellUp d1 hq1; replace d2 := cellUp d2 hq1; replace d3 := cellUp d3 hq1; replace p3 := cellUp p3 hq1)
              go_wp2
              go_meet
              exact ⟨by go_num, by rw [HB.out], by (repeat (first | exact Up.rfl' _ | (refine Up.al _ ?_) | (refine Up.dr _ ?_) | (refine Up.dr1 ?_) | (refine Up.sc ?_ (by first | exact Nat.le_refl _ | (simp; done) | omega) _) | (refine Up.step (by assumption) ?_)))⟩
        case rest =>
          obtain ⟨rfl, rfl, hbc⟩ := hcut
          replace d0 := cellUp d0 hbc
          replace d1 := cellUp d1 hbc
          replace d2 := cellUp d2 hbc
          replace d3 := cellUp d3 hbc
          cases hbad : badAt xs i x with
          | true =>
            have HR := Lib.hid (linesB_bad Gx.out hbad)
            go_wp2
            go_ret
            exact ⟨retb HR.out.symm, by (repeat (first | exact Up.rfl' _ | (refine Up.al _ ?_) | (refine Up.dr _ ?_) | (refine Up.dr1 ?_) | (refine Up.sc ?_ (by first | exact Nat.le_refl _ | (simp; done) | omega) _) | (refine Up.step (by assumption) ?_)))⟩
          | false =>
            have bi0 : (0 : Int) ≤ (i : Int) := by omega
            have bi1 : (i : Int) ≤ (c : Int) := by omega
            have bc0 : ¬ c = 0 := by omega
            have hrc := (hr.up (show Up w wc by (repeat (first | exact Up.rfl' _ | (refine Up.al _ ?_) | (refine Up.dr _ ?_) | (refine Up.dr1 ?_) | (refine Up.sc ?_ (by first | exact Nat.le_refl _ | (simp; done) | omega) _) | (refine Up.step (by assumption) ?_))))).take_ i
            have hli : i = (xs.take i).length := by simp; omega
            have HR := Lib.hid hrc
            have HL := Lib.hid hli
            have HK := Lib.hid (kind_of (line_of_bad hbad))
            have HBad := Lib.hid hbad
            clear hrc hli hr hbad
            go_wp2
            (have Ed0 := Ups.cell d0; have Ed1 := Ups.cell d1; have Ed2 := Ups.cell d2; have Ed3 := Ups.cell d3; refine wp_region_up (by kernel_rfl) (by kernel_rfl) ?_; (repeat (go_big_quiet_step ((go_at_call 14; exact Ups.call (sumOf_impl_n _ (xs.take i) _ _ _ _ _ (HR.out.up (Up.step (Ups.up _) (by (repeat (first | exact Up.rfl' _ | (refine Up.al _ ?_) | (refine Up.dr _ ?_) | (refine Up.dr1 ?_) | (refine Up.sc ?_ (by first | exact Nat.le_refl _ | (simp; done) | omega) _) | (refine Up.step (by assumption) ?_)))))) HL.out (by omega)))))); refine wpQuiet_nil ?_; intro wq1 hq1; clear Ed0 Ed1 Ed2 Ed3; replace d0 := cellUp d0 hq1; replace d1 := cellUp d1 hq1; replace d2 := cellUp d2 hq1; replace d3 := cellUp d3 hq1)
            go_wp2
            (have Ed0 := Ups.cell d0; have Ed1 := Ups.cell d1; have Ed2 := Ups.cell d2; have Ed3 := Ups.cell d3; refine wp_region_up (by kernel_rfl) (by kernel_rfl) ?_; (repeat (go_big_quiet_step ((go_at_call 14; exact Ups.call (sumOf_impl_n _ (xs.take i) _ _ _ _ _ (HR.out.up (Up.step (Ups.up _) (by (repeat (first | exact Up.rfl' _ | (refine Up.al _ ?_) | (refine Up.dr _ ?_) | (refine Up.dr1 ?_) | (refine Up.sc ?_ (by first | exact Nat.le_refl _ | (simp; done) | omega) _) | (refine Up.step (by assumption) ?_)))))) HL.out (by omega)))))); refine wpQuiet_nil ?_; intro wq2 hq2; clear Ed0 Ed1 Ed2 Ed3; replace d0 := cellUp d0 hq2; replace d1 := cellUp d1 hq2; replace d2 := cellUp d2 hq2; replace d3 := cellUp d3 hq2)
            rcases HK.out with hk | hk | hk
            · have k1 : (x.k == 1) = true := by simp [hk]
              have hfit := fit1 (b := xs.take i) hk
              clear hk
              cases h1 : decide (0 < sumLn (xs.take i) x.o 1) with
              | true =>
                have HF := Lib.hid (linesB_unfit Gx.out (hfit.trans (by rw [h1]; rfl)))
                clear hfit
                go_wp2
                go_ret
                exact ⟨retb HF.out.symm, by (repeat (first | exact Up.rfl' _ | (refine Up.al _ ?_) | (refine Up.dr _ ?_) | (refine Up.dr1 ?_) | (refine Up.sc ?_ (by first | exact Nat.le_refl _ | (simp; done) | omega) _) | (refine Up.step (by assumption) ?_)))⟩
              | false =>
                have HF := Lib.hid (lineAt_ok Gx.out HBad.out (hfit.trans (by rw [h1]; rfl)))
                clear hfit
                go_wp2
                exact ⟨⟨i + 1, by omega, by go_num, allTo_succ he.out HF.out, by (repeat (first | exact Up.rfl' _ | (refine Up.al _ ?_) | (refine Up.dr _ ?_) | (refine Up.dr1 ?_) | (refine Up.sc ?_ (by first | exact Nat.le_refl _ | (simp; done) | omega) _) | (refine Up.step (by assumption) ?_)))⟩, by simp [intOf]; omega⟩
            · have k1 : (x.k == 1) = false := by simp [hk]
              have k2 : (x.k == 2) = true := by simp [hk]
              have hfit := fit2 (b := xs.take i) hk
              clear hk
              cases h1 : decide (sumLn (xs.take i) x.o 1 < wrap64 (sumLn (xs.take i) x.o 2 + x.a)) with
              | true =>
                have HF := Lib.hid (linesB_unfit Gx.out (hfit.trans (by rw [h1]; rfl)))
                clear hfit
                go_wp2
                go_ret
                exact ⟨retb HF.out.symm, by (repeat (first | exact Up.rfl' _ | (refine Up.al _ ?_) | (refine Up.dr _ ?_) | (refine Up.dr1 ?_) | (refine Up.sc ?_ (by first | exact Nat.le_refl _ | (simp; done) | omega) _) | (refine Up.step (by assumption) ?_)))⟩
              | false =>
                have HF := Lib.hid (lineAt_ok Gx.out HBad.out (hfit.trans (by rw [h1]; rfl)))
                clear hfit
                go_wp2
                exact ⟨⟨i + 1, by omega, by go_num, allTo_succ he.out HF.out, by (repeat (first | exact Up.rfl' _ | (refine Up.al _ ?_) | (refine Up.dr _ ?_) | (refine Up.dr1 ?_) | (refine Up.sc ?_ (by first | exact Nat.le_refl _ | (simp; done) | omega) _) | (refine Up.step (by assumption) ?_)))⟩, by simp [intOf]; omega⟩
            · have k1 : (x.k == 1) = false := by simp [hk]
              have k2 : (x.k == 2) = false := by simp [hk]
              have k3 : (x.k == 3) = true := by simp [hk]
              have hfit := fit3 (b := xs.take i) hk
              clear hk
              cases h1 : decide (0 < sumLn (xs.take i) x.o 3) with
              | true =>
                have HF := Lib.hid (linesB_unfit Gx.out (hfit.trans (by rw [h1]; rfl)))
                clear hfit
                go_wp2
                (have Ed0 := Ups.cell d0; have Ed1 := Ups.cell d1; have Ed2 := Ups.cell d2; have Ed3 := Ups.cell d3; refine wp_region_up (by kernel_rfl) (by kernel_rfl) ?_; (repeat (go_big_quiet_step ((go_at_call 14; exact Ups.call (sumOf_impl_n _ (xs.take i) _ _ _ _ _ (HR.out.up (Up.step (Ups.up _) (by (repeat (first | exact Up.rfl' _ | (refine Up.al _ ?_) | (refine Up.dr _ ?_) | (refine Up.dr1 ?_) | (refine Up.sc ?_ (by first | exact Nat.le_refl _ | (simp; done) | omega) _) | (refine Up.step (by assumption) ?_)))))) HL.out (by omega)))))); refine wpQuiet_nil ?_; intro wq3 hq3; clear Ed0 Ed1 Ed2 Ed3; replace d0 := cellUp d0 hq3; replace d1 := cellUp d1 hq3; replace d2 := cellUp d2 hq3; replace d3 := cellUp d3 hq3)
                go_wp2
                go_ret
                exact ⟨retb HF.out.symm, by (repeat (first | exact Up.rfl' _ | (refine Up.al _ ?_) | (refine Up.dr _ ?_) | (refine Up.dr1 ?_) | (refine Up.sc ?_ (by first | exact Nat.le_refl _ | (simp; done) | omega) _) | (refine Up.step (by assumption) ?_)))⟩
              | false =>
              cases h2 : (sumLn (xs.take i) x.o 2 != sumLn (xs.take i) x.o 1) with
              | true =>
                have HF := Lib.hid (linesB_unfit Gx.out (hfit.trans (by rw [h1]; simp at h2; simp [h2])))
                clear hfit
                go_wp2
                (have Ed0 := Ups.cell d0; have Ed1 := Ups.cell d1; have Ed2 := Ups.cell d2; have Ed3 := Ups.cell d3; refine wp_region_up (by kernel_rfl) (by kernel_rfl) ?_; (repeat (go_big_quiet_step ((go_at_call 14; exact Ups.call (sumOf_impl_n _ (xs.take i) _ _ _ _ _ (HR.out.up (Up.step (Ups.up _) (by (repeat (first | exact Up.rfl' _ | (refine Up.al _ ?_) | (refine Up.dr _ ?_) | (refine Up.dr1 ?_) | (refine Up.sc ?_ (by first | exact Nat.le_refl _ | (simp; done) | omega) _) | (refine Up.step (by assumption) ?_)))))) HL.out (by omega)))))); refine wpQuiet_nil ?_; intro wq3 hq3; clear Ed0 Ed1 Ed2 Ed3; replace d0 := cellUp d0 hq3; replace d1 := cellUp d1 hq3; replace d2 := cellUp d2 hq3; replace d3 := cellUp d3 hq3)
                go_wp2
                go_ret
                exact ⟨retb HF.out.symm, by (repeat (first | exact Up.rfl' _ | (refine Up.al _ ?_) | (refine Up.dr _ ?_) | (refine Up.dr1 ?_) | (refine Up.sc ?_ (by first | exact Nat.le_refl _ | (simp; done) | omega) _) | (refine Up.step (by assumption) ?_)))⟩
              | false =>
              cases h3 : decide (sumLn (xs.take i) x.o 1 < x.a) with
              | true =>
                have HF := Lib.hid (linesB_unfit Gx.out (hfit.trans (by rw [h1, h3]; simp)))
                clear hfit
                go_wp2
                (have Ed0 := Ups.cell d0; have Ed1 := Ups.cell d1; have Ed2 := Ups.cell d2; have Ed3 := Ups.cell d3; refine wp_region_up (by kernel_rfl) (by kernel_rfl) ?_; (repeat (go_big_quiet_step ((go_at_call 14; exact Ups.call (sumOf_impl_n _ (xs.take i) _ _ _ _ _ (HR.out.up (Up.step (Ups.up _) (by (repeat (first | exact Up.rfl' _ | (refine Up.al _ ?_) | (refine Up.dr _ ?_) | (refine Up.dr1 ?_) | (refine Up.sc ?_ (by first | exact Nat.le_refl _ | (simp; done) | omega) _) | (refine Up.step (by assumption) ?_)))))) HL.out (by omega)))))); refine wpQuiet_nil ?_; intro wq3 hq3; clear Ed0 Ed1 Ed2 Ed3; replace d0 := cellUp d0 hq3; replace d1 := cellUp d1 hq3; replace d2 := cellUp d2 hq3; replace d3 := cellUp d3 hq3)
                go_wp2
                go_ret
                exact ⟨retb HF.out.symm, by (repeat (first | exact Up.rfl' _ | (refine Up.al _ ?_) | (refine Up.dr _ ?_) | (refine Up.dr1 ?_) | (refine Up.sc ?_ (by first | exact Nat.le_refl _ | (simp; done) | omega) _) | (refine Up.step (by assumption) ?_)))⟩
              | false =>
                have HF := Lib.hid (lineAt_ok Gx.out HBad.out (hfit.trans (by rw [h1, h3]; simp at h2; simp [h2])))
                clear hfit
                go_wp2
                (have Ed0 := Ups.cell d0; have Ed1 := Ups.cell d1; have Ed2 := Ups.cell d2; have Ed3 := Ups.cell d3; refine wp_region_up (by kernel_rfl) (by kernel_rfl) ?_; (repeat (go_big_quiet_step ((go_at_call 14; exact Ups.call (sumOf_impl_n _ (xs.take i) _ _ _ _ _ (HR.out.up (Up.step (Ups.up _) (by (repeat (first | exact Up.rfl' _ | (refine Up.al _ ?_) | (refine Up.dr _ ?_) | (refine Up.dr1 ?_) | (refine Up.sc ?_ (by first | exact Nat.le_refl _ | (simp; done) | omega) _) | (refine Up.step (by assumption) ?_)))))) HL.out (by omega)))))); refine wpQuiet_nil ?_; intro wq3 hq3; clear Ed0 Ed1 Ed2 Ed3; replace d0 := cellUp d0 hq3; replace d1 := cellUp d1 hq3; replace d2 := cellUp d2 hq3; replace d3 := cellUp d3 hq3)
                go_wp2
                exact ⟨⟨i + 1, by omega, by go_num, allTo_succ he.out HF.out, by (repeat (first | exact Up.rfl' _ | (refine Up.al _ ?_) | (refine Up.dr _ ?_) | (refine Up.dr1 ?_) | (refine Up.sc ?_ (by first | exact Nat.le_refl _ | (simp; done) | omega) _) | (refine Up.step (by assumption) ?_)))⟩, by simp [intOf]; omega⟩
      · obtain rfl : i = xs.length := by omega
        have HR := Lib.hid (linesB_all h200 he.out)
        go_wp2
        go_ret
        exact ⟨retb HR.out.symm, by (repeat (first | exact Up.rfl' _ | (refine Up.al _ ?_) | (refine Up.dr _ ?_) | (refine Up.dr1 ?_) | (refine Up.sc ?_ (by first | exact Nat.le_refl _ | (simp; done) | omega) _) | (refine Up.step (by assumption) ?_)))⟩
  · have HR := Lib.hid (linesB_long h200)
    go_enter Tryd.func24, Tryd.ntmps24
    go_wp2
    go_ret
    exact ⟨retb HR.out.symm, by (repeat (first | exact Up.rfl' _ | (refine Up.al _ ?_) | (refine Up.dr _ ?_) | (refine Up.dr1 ?_) | (refine Up.sc ?_ (by first | exact Nat.le_refl _ | (simp; done) | omega) _) | (refine Up.step (by assumption) ?_)))⟩
theorem sumOf_spec_n (A : Option Addr) (xs : List Ln) (n c : Nat) (o k : Int) (w : World) (hr : Rd w w.heap.size A xs) (hl : n = xs.length) (hn : n ≤ 2000000)
  : Calls Tryd.prog 31 #[.slice A n c, .int .i64 o, .int .i64 k] w fun e w' => e = .returned (.int .i64 (sumLn xs o k)) ∧ Up w w' := by
  subst hl; exact sumOf_spec A xs c o k w hr hn
theorem l11Count_any (A : Option Addr) (xs : List Ln) (c : Nat) (o k : Int) (w : World) (hr : Rd w w.heap.size A xs) (hn : xs.length ≤ 2000000)
  : Calls Tryd.prog 32 #[.slice A xs.length c, .int .i64 o, .int .i64 k] w fun e w' => e = .returned (.int .i64 (cntLn xs o k)) ∧ Up w w' := by
  go_enter Tryd.func32, Tryd.ntmps32
  go_wp2
  go_loopw [7, 8] (fun n7 i wr => ∃ j : Nat, j ≤ xs.length ∧ i = .int .i64 j ∧ n7 = .int .i64 (cntLn (xs.take j) o k) ∧ Up w wr) (fun _ i _ => xs.length - (intOf i).toNat)
  case atStart => exact ⟨0, by omega, rfl, rfl, Below.refl _ _⟩
  case round =>
    obtain ⟨i, hi, rfl, rfl, hb⟩ := hrel
    by_cases hlt : i < xs.length
    · obtain ⟨x, hx⟩ := get_of_lt hlt
      obtain ⟨b, off, rfl, hbb, c0, c1, c2, c3⟩ := (hr.below hb).ln hx
      have S : Hid (cntLn (xs.take (i+1)) o k = cntStep o k (cntLn (xs.take i) o k) x) := foldl_snoc hx _ _
      clear hr hx
      go_wp2
      all_goals exact ⟨⟨i + 1, by omega, by go_num, by rw [S.out]; simp [cntStep, *], by (repeat (first | exact Up.rfl' _ | (refine Up.al _ ?_) | (refine Up.dr _ ?_) | (refine Up.dr1 ?_) | (refine Up.sc ?_ (by first | exact Nat.le_refl _ | (simp; done) | omega) _) | (refine Up.step (by assumption) ?_)))⟩, by simp [intOf]; omega⟩
    · go_wp2
      go_ret
      obtain rfl : i = xs.length := by omega
      exact ⟨by simp, hb⟩
theorem l11Count_n (A : Option Addr) (xs : List Ln) (n c : Nat) (o k : Int) (w : World) (hr : Rd w w.heap.size A xs) (hl : n = xs.length) (hn : n ≤ 2000000)
  : Calls Tryd.prog 32 #[.slice A n c, .int .i64 o, .int .i64 k] w fun e w' => e = .returned (.int .i64 (cntLn xs o k)) ∧ Up w w' := by
  subst hl; exact l11Count_any A xs c o k w hr hn
set_option maxHeartbeats 1600000 in
theorem areLines_spec (A : Option Addr) (xs : List Ln) (c : Nat) (w : World) (hr : Rd w w.heap.size A xs) (hc : xs.length ≤ c) (hn : xs.length ≤ 2000000)
  : Calls Tryd.prog 16 #[.slice A xs.length c] w fun e w' => e = .returned (.bool (linesB xs)) ∧ Up w w' := by
  by_cases h200 : xs.length ≤ 200
  · go_enter Tryd.func16, Tryd.ntmps16
    go_wp2
    go_loopw [3] (fun i wr => ∃ j : Nat, j ≤ xs.length ∧ i = .int .i64 j ∧ Hid (allTo j (lineAt xs) = true) ∧ Up w wr) (fun i _ => xs.length - (intOf i).toNat)
    case atStart => exact ⟨0, by omega, rfl, allTo_zero _, by (repeat (first | exact Up.rfl' _ | (refine Up.al _ ?_) | (refine Up.dr _ ?_) | (refine Up.dr1 ?_) | (refine Up.sc ?_ (by first | exact Nat.le_refl _ | (simp; done) | omega) _) | (refine Up.step (by assumption) ?_)))⟩
    case round =>
      obtain ⟨i, hi, rfl, he, hb⟩ := hrel
      by_cases hlt : i < xs.length
      · obtain ⟨x, gx⟩ := get_of_lt hlt
        obtain ⟨b, off, rfl, hbb, c0, c1, c2, c3⟩ := (hr.below hb).ln gx
        have Gx := Lib.hid gx
        clear gx
        go_wp2
        generalize hwb : wr.alloc (.cells #[I x.o, I x.k, I x.a, I x.t] 34) = wb
        have d0 : wb.cell? ⟨wr.heap.size, 0, none⟩ = some (I x.o) := by rw [← hwb]; simp [go_sem]
        have d1 : wb.cell? ⟨wr.heap.size, 1, none⟩ = some (I x.k) := by rw [← hwb]; simp [go_sem]
        have d2 : wb.cell? ⟨wr.heap.size, 2, none⟩ = some (I x.a) := by rw [← hwb]; simp [go_sem]
        have d3 : wb.cell? ⟨wr.heap.size, 3, none⟩ = some (I x.t) := by rw [← hwb]; simp [go_sem]
        have hub : Up wr wb := by rw [← hwb]; (repeat (first | exact Up.rfl' _ | (refine Up.al _ ?_) | (refine Up.dr _ ?_) | (refine Up.dr1 ?_) | (refine Up.sc ?_ (by first | exact Nat.le_refl _ | (simp; done) | omega) _) | (refine Up.step (by assumption) ?_)))
        clear hwb c0 c1 c2 c3
        go_cut [3, 37] (fun s12 s34 wx => s12 = .int .i64 i ∧ s34 = .bool (badAt xs i x) ∧ Up wb wx)
        case first =>
          cases hL : lineB x.o x.k x.a x.t with
          | false =>
            have HB := Lib.hid (bad_line (xs := xs) (i := i) hL)
            (have Ed0 := Ups.cell d0; have Ed1 := Ups.cell d1; have Ed2 := Ups.cell d2; have Ed3 := Ups.cell d3; refine wp_region_up (by kernel_rfl) (by kernel_rfl) ?_; (repeat (go_big_quiet_step ((go_at_call 30; exact Ups.call (isLine_spec _ _ _ _ _))))); refine wpQuiet_nil ?_; intro wq1 hq1; clear Ed0 Ed1 Ed2 Ed3; replace d0 := cellUp d0 hq1; replace d1 := cellUp d1 hq1; replace d2 := cellUp d2 hq1; replace d3 := cellUp d3 hq1)
            go_wp2
            go_meet
            exact ⟨rfl, by rw [HB.out], by (repeat (first | exact Up.rfl' _ | (refine Up.al _ ?_) | (refine Up.dr _ ?_) | (refine Up.dr1 ?_) | (refine Up.sc ?_ (by first | exact Nat.le_refl _ | (simp; done) | omega) _) | (refine Up.step (by assumption) ?_)))⟩
          | true =>
            rcases Nat.eq_zero_or_pos i with h0' | h0
            · have h0 : i ≤ 0 := by omega
              clear h0'
              have HB := Lib.hid (bad_first (xs := xs) hL h0)
              have t0 : decide ((0 : Int) < (i : Int)) = false := decide_eq_false (by omega)
              have t1 : decide (0 < i) = false := decide_eq_false (by omega)
              (have Ed0 := Ups.cell d0; have Ed1 := Ups.cell d1; have Ed2 := Ups.cell d2; have Ed3 := Ups.cell d3; refine wp_region_up (by kernel_rfl) (by kernel_rfl) ?_; (repeat (go_big_quiet_step ((go_at_call 30; exact Ups.call (isLine_spec _ _ _ _ _))))); refine wpQuiet_nil ?_; intro wq1 hq1; clear Ed0 Ed1 Ed2 Ed3; replace d0 := cellUp d0 hq1; replace d1 := cellUp d1 hq1; replace d2 := cellUp d2 hq1; replace d3 := cellUp d3 hq1)
              go_wp2
              go_meet
              exact ⟨rfl, by rw [HB.out], by (repeat (first | exact Up.rfl' _ | (refine Up.al _ ?_) | (refine Up.dr _ ?_) | (refine Up.dr1 ?_) | (refine Up.sc ?_ (by first | exact Nat.le_refl _ | (simp; done) | omega) _) | (refine Up.step (by assumption) ?_)))⟩
            · obtain ⟨m, rfl⟩ : ∃ m, i = m + 1 := ⟨i - 1, by omega⟩
              obtain ⟨y, gy⟩ := get_of_lt (xs := xs) (i := m) (by omega)
              obtain ⟨b', off', hA, _, _, _, _, p3⟩ := ((hr.up hb).up hub).ln gy
              obtain ⟨rfl, rfl⟩ : b = b' ∧ off = off' := by simpa using hA
              have HB := Lib.hid (bad_next (x := x) hL gy)
              clear hA gy hr
              have t0 : decide ((0 : Int) < (m : Int) + 1) = true := decide_eq_true (by omega)
              have t1 : decide (0 < m + 1) = true := by simp
              have wm : IntKind.i64.wrap (m : Int) = m := IntWalk.i64_in _ (by omega)
              have wm1 : IntKind.i64.wrap ((m : Int) + 1 - 1) = m := by rw [IntWalk.i64_in _ (by omega)]; omega
              have bm0 : (0 : Int) ≤ (m : Int) := by omega
              have bm1 : (m : Int) < (xs.length : Int) := by omega
              (have Ed0 := Ups.cell d0; have Ed1 := Ups.cell d1; have Ed2 := Ups.cell d2; have Ed3 := Ups.cell d3; have Ep3 := Ups.cell p3; refine wp_region_up (by kernel_rfl) (by kernel_rfl) ?_; (repeat (go_big_quiet_step ((go_at_call 30; exact Ups.call (isLine_spec _ _ _ _ _))))); refine wpQuiet_nil ?_; intro wq1 hq1; clear Ed0 Ed1 Ed2 Ed3 Ep3; replace d0 := cellUp d0 hq1; replace d1 := cellUp d1 hq1; replace d2 := cellUp d2 hq1; replace d3 := cellUp d3 hq1; replace p3 := cellUp p3 hq1)
              go_wp2
              go_meet
              exact ⟨by go_num, by rw [HB.out], by (repeat (first | exact Up.rfl' _ | (refine Up.al _ ?_) | (refine Up.dr _ ?_) | (refine Up.dr1 ?_) | (refine Up.sc ?_ (by first | exact Nat.le_refl _ | (simp; done) | omega) _) | (refine Up.step (by assumption) ?_)))⟩
        case rest =>
          obtain ⟨rfl, rfl, hbc⟩ := hcut
          replace d0 := cellUp d0 hbc
          replace d1 := cellUp d1 hbc
          replace d2 := cellUp d2 hbc
          replace d3 := cellUp d3 hbc
          cases hbad : badAt xs i x with
          | true =>
            have HR := Lib.hid (linesB_bad Gx.out hbad)
            go_wp2
            go_ret
            exact ⟨retb HR.out.symm, by (repeat (first | exact Up.rfl' _ | (refine Up.al _ ?_) | (refine Up.dr _ ?_) | (refine Up.dr1 ?_) | (refine Up.sc ?_ (by first | exact Nat.le_refl _ | (simp; done) | omega) _) | (refine Up.step (by assumption) ?_)))⟩
          | false =>
            have bi0 : (0 : Int) ≤ (i : Int) := by omega
            have bi1 : (i : Int) ≤ (c : Int) := by omega
            have bc0 : ¬ c = 0 := by omega
            have hrc := (hr.up (show Up w wc by (repeat (first | exact Up.rfl' _ | (refine Up.al _ ?_) | (refine Up.dr _ ?_) | (refine Up.dr1 ?_) | (refine Up.sc ?_ (by first | exact Nat.le_refl _ | (simp; done) | omega) _) | (refine Up.step (by assumption) ?_))))).take_ i
            have hli : i = (xs.take i).length := by simp; omega
            have HR := Lib.hid hrc
            have HL := Lib.hid hli
            have HK := Lib.hid (kind_of (line_of_bad hbad))
            have HBad := Lib.hid hbad
            clear hrc hli hr hbad
            rcases HK.out with hk | hk | hk
            · have k1 : (x.k == 1) = true := by simp [hk]
              have hfit := fit1 (b := xs.take i) hk
              clear hk
              cases h1 : decide (0 < sumLn (xs.take i) x.o 1) with
              | true =>
                have HF := Lib.hid (linesB_unfit Gx.out (hfit.trans (by rw [h1]; rfl)))
                clear hfit
                go_wp2_with (go_at_call 31; refine (sumOf_spec_n _ (xs.take i) _ _ _ _ _ (HR.out.up (by (repeat (first | exact Up.rfl' _ | (refine Up.al _ ?_) | (refine Up.dr _ ?_) | (refine Up.dr1 ?_) | (refine Up.sc ?_ (by first | exact Nat.le_refl _ | (simp; done) | omega) _) | (refine Up.step (by assumption) ?_))))) HL.out (by omega)).mono ?_; rintro e w1 ⟨rfl, hb1⟩; replace d0 := cellUp d0 hb1; replace d1 := cellUp d1 hb1; replace d2 := cellUp d2 hb1; replace d3 := cellUp d3 hb1)
                go_ret
                exact ⟨retb HF.out.symm, by (repeat (first | exact Up.rfl' _ | (refine Up.al _ ?_) | (refine Up.dr _ ?_) | (refine Up.dr1 ?_) | (refine Up.sc ?_ (by first | exact Nat.le_refl _ | (simp; done) | omega) _) | (refine Up.step (by assumption) ?_)))⟩
              | false =>
                have HF := Lib.hid (lineAt_ok Gx.out HBad.out (hfit.trans (by rw [h1]; rfl)))
                clear hfit
                go_wp2_with (go_at_call 31; refine (sumOf_spec_n _ (xs.take i) _ _ _ _ _ (HR.out.up (by (repeat (first | exact Up.rfl' _ | (refine Up.al _ ?_) | (refine Up.dr _ ?_) | (refine Up.dr1 ?_) | (refine Up.sc ?_ (by first | exact Nat.le_refl _ | (simp; done) | omega) _) | (refine Up.step (by assumption) ?_))))) HL.out (by omega)).mono ?_; rintro e w1 ⟨rfl, hb1⟩; replace d0 := cellUp d0 hb1; replace d1 := cellUp d1 hb1; replace d2 := cellUp d2 hb1; replace d3 := cellUp d3 hb1)
                exact ⟨⟨i + 1, by omega, by go_num, allTo_succ he.out HF.out, by (repeat (first | exact Up.rfl' _ | (refine Up.al _ ?_) | (refine Up.dr _ ?_) | (refine Up.dr1 ?_) | (refine Up.sc ?_ (by first | exact Nat.le_refl _ | (simp; done) | omega) _) | (refine Up.step (by assumption) ?_)))⟩, by simp [intOf]; omega⟩
            · have k1 : (x.k == 1) = false := by simp [hk]
              have k2 : (x.k == 2) = true := by simp [hk]
              have hfit := fit2 (b := xs.take i) hk
              clear hk
              cases h1 : decide (sumLn (xs.take i) x.o 1 < wrap64 (sumLn (xs.take i) x.o 2 + x.a)) with
              | true =>
                have HF := Lib.hid (linesB_unfit Gx.out (hfit.trans (by rw [h1]; rfl)))
                clear hfit
                go_wp2_with (go_at_call 31; refine (sumOf_spec_n _ (xs.take i) _ _ _ _ _ (HR.out.up (by (repeat (first | exact Up.rfl' _ | (refine Up.al _ ?_) | (refine Up.dr _ ?_) | (refine Up.dr1 ?_) | (refine Up.sc ?_ (by first | exact Nat.le_refl _ | (simp; done) | omega) _) | (refine Up.step (by assumption) ?_))))) HL.out (by omega)).mono ?_; rintro e w1 ⟨rfl, hb1⟩; replace d0 := cellUp d0 hb1; replace d1 := cellUp d1 hb1; replace d2 := cellUp d2 hb1; replace d3 := cellUp d3 hb1)
                (have Ed0 := Ups.cell d0; have Ed1 := Ups.cell d1; have Ed2 := Ups.cell d2; have Ed3 := Ups.cell d3; refine wp_region_up (by kernel_rfl) (by kernel_rfl) ?_; (repeat (go_big_quiet_step ((go_at_call 31; exact Ups.call (sumOf_spec_n _ (xs.take i) _ _ _ _ _ (HR.out.up (Up.step (Ups.up _) (by (repeat (first | exact Up.rfl' _ | (refine Up.al _ ?_) | (refine Up.dr _ ?_) | (refine Up.dr1 ?_) | (refine Up.sc ?_ (by first | exact Nat.le_refl _ | (simp; done) | omega) _) | (refine Up.step (by assumption) ?_)))))) HL.out (by omega)))))); refine wpQuiet_nil ?_; intro wq3 hq3; clear Ed0 Ed1 Ed2 Ed3; replace d0 := cellUp d0 hq3; replace d1 := cellUp d1 hq3; replace d2 := cellUp d2 hq3; replace d3 := cellUp d3 hq3)
                go_wp2
                go_ret
                exact ⟨retb HF.out.symm, by (repeat (first | exact Up.rfl' _ | (refine Up.al _ ?_) | (refine Up.dr _ ?_) | (refine Up.dr1 ?_) | (refine Up.sc ?_ (by first | exact Nat.le_refl _ | (simp; done) | omega) _) | (refine Up.step (by assumption) ?_)))⟩
              | false =>
                have HF := Lib.hid (lineAt_ok Gx.out HBad.out (hfit.trans (by rw [h1]; rfl)))
                clear hfit
                go_wp2_with (go_at_call 31; refine (sumOf_spec_n _ (xs.take i) _ _ _ _ _ (HR.out.up (by (repeat (first | exact Up.rfl' _ | (refine Up.al _ ?_) | (refine Up.dr _ ?_) | (refine Up.dr1 ?_) | (refine Up.sc ?_ (by first | exact Nat.le_refl _ | (simp; done) | omega) _) | (refine Up.step (by assumption) ?_))))) HL.out (by omega)).mono ?_; rintro e w1 ⟨rfl, hb1⟩; replace d0 := cellUp d0 hb1; replace d1 := cellUp d1 hb1; replace d2 := cellUp d2 hb1; replace d3 := cellUp d3 hb1)
                (have Ed0 := Ups.cell d0; have Ed1 := Ups.cell d1; have Ed2 := Ups.cell d2; have Ed3 := Ups.cell d3; refine wp_region_up (by kernel_rfl) (by kernel_rfl) ?_; (repeat (go_big_quiet_step ((go_at_call 31; exact Ups.call (sumOf_spec_n _ (xs.take i) _ _ _ _ _ (HR.out.up (Up.step (Ups.up _) (by (repeat (first | exact Up.rfl' _ | (refine Up.al _ ?_) | (refine Up.dr _ ?_) | (refine Up.dr1 ?_) | (refine Up.sc ?_ (by first | exact Nat.le_refl _ | (simp; done) | omega) _) | (refine Up.step (by assumption) ?_)))))) HL.out (by omega)))))); refine wpQuiet_nil ?_; intro wq3 hq3; clear Ed0 Ed1 Ed2 Ed3; replace d0 := cellUp d0 hq3; replace d1 := cellUp d1 hq3; replace d2 := cellUp d2 hq3; replace d3 := cellUp d3 hq3)
                go_wp2
                exact ⟨⟨i + 1, by omega, by go_num, allTo_succ he.out HF.out, by (repeat (first | exact Up.rfl' _ | (refine Up.al _ ?_) | (refine Up.dr _ ?_) | (refine Up.dr1 ?_) | (refine Up.sc ?_ (by first | exact Nat.le_refl _ | (simp; done) | omega) _) | (refine Up.step (by assumption) ?_)))⟩, by simp [intOf]; omega⟩
            · have k1 : (x.k == 1) = false := by simp [hk]
              have k2 : (x.k == 2) = false := by simp [hk]
              have k3 : (x.k == 3) = true := by simp [hk]
              have hfit := fit3 (b := xs.take i) hk
              clear hk
              have hcs := cnt_pos x.o 3 he.out (by omega)
              cases h1 : decide (0 < sumLn (xs.take i) x.o 3) with
              | true =>
                have HF := Lib.hid (linesB_unfit Gx.out (hfit.trans (by rw [h1]; rfl)))
                have h4 := hcs.trans h1
                clear hcs h1
                clear hfit
                go_wp2_with (first | (go_at_call 32; refine (l11Count_n _ (xs.take i) _ _ _ _ _ (HR.out.up (by (repeat (first | exact Up.rfl' _ | (refine Up.al _ ?_) | (refine Up.dr _ ?_) | (refine Up.dr1 ?_) | (refine Up.sc ?_ (by first | exact Nat.le_refl _ | (simp; done) | omega) _) | (refine Up.step (by assumption) ?_))))) HL.out (by omega)).mono ?_; rintro e w9 ⟨rfl, hb9⟩; replace d0 := cellUp d0 hb9; replace d1 := cellUp d1 hb9; replace d2 := cellUp d2 hb9; replace d3 := cellUp d3 hb9) | (go_at_call 31; refine (sumOf_spec_n _ (xs.take i) _ _ _ _ _ (HR.out.up (by (repeat (first | exact Up.rfl' _ | (refine Up.al _ ?_) | (refine Up.dr _ ?_) | (refine Up.dr1 ?_) | (refine Up.sc ?_ (by first | exact Nat.le_refl _ | (simp; done) | omega) _) | (refine Up.step (by assumption) ?_))))) HL.out (by omega)).mono ?_; rintro e w8 ⟨rfl, hb8⟩; replace d0 := cellUp d0 hb8; replace d1 := cellUp d1 hb8; replace d2 := cellUp d2 hb8; replace d3 := cellUp d3 hb8))
                go_ret
                exact ⟨retb HF.out.symm, by (repeat (first | exact Up.rfl' _ | (refine Up.al _ ?_) | (refine Up.dr _ ?_) | (refine Up.dr1 ?_) | (refine Up.sc ?_ (by first | exact Nat.le_refl _ | (simp; done) | omega) _) | (refine Up.step (by assumption) ?_)))⟩
              | false =>
              cases h2 : (sumLn (xs.take i) x.o 2 != sumLn (xs.take i) x.o 1) with
              | true =>
                cases h3 : decide (sumLn (xs.take i) x.o 1 < x.a) with
                | true =>
                    have HF := Lib.hid (linesB_unfit Gx.out (hfit.trans (by rw [h1]; simp at h2; simp [h2])))
                    have h4 := hcs.trans h1
                    clear hcs h1
                    clear hfit
                    go_wp2_with (first | (go_at_call 32; refine (l11Count_n _ (xs.take i) _ _ _ _ _ (HR.out.up (by (repeat (first | exact Up.rfl' _ | (refine Up.al _ ?_) | (refine Up.dr _ ?_) | (refine Up.dr1 ?_) | (refine Up.sc ?_ (by first | exact Nat.le_refl _ | (simp; done) | omega) _) | (refine Up.step (by assumption) ?_))))) HL.out (by omega)).mono ?_; rintro e w9 ⟨rfl, hb9⟩; replace d0 := cellUp d0 hb9; replace d1 := cellUp d1 hb9; replace d2 := cellUp d2 hb9; replace d3 := cellUp d3 hb9) | (go_at_call 31; refine (sumOf_spec_n _ (xs.take i) _ _ _ _ _ (HR.out.up (by (repeat (first | exact Up.rfl' _ | (refine Up.al _ ?_) | (refine Up.dr _ ?_) | (refine Up.dr1 ?_) | (refine Up.sc ?_ (by first | exact Nat.le_refl _ | (simp; done) | omega) _) | (refine Up.step (by assumption) ?_))))) HL.out (by omega)).mono ?_; rintro e w8 ⟨rfl, hb8⟩; replace d0 := cellUp d0 hb8; replace d1 := cellUp d1 hb8; replace d2 := cellUp d2 hb8; replace d3 := cellUp d3 hb8))
                    go_ret
                    exact ⟨retb HF.out.symm, by (repeat (first | exact Up.rfl' _ | (refine Up.al _ ?_) | (refine Up.dr _ ?_) | (refine Up.dr1 ?_) | (refine Up.sc ?_ (by first | exact Nat.le_refl _ | (simp; done) | omega) _) | (refine Up.step (by assumption) ?_)))⟩
                | false =>
                    have HF := Lib.hid (linesB_unfit Gx.out (hfit.trans (by rw [h1]; simp at h2; simp [h2])))
                    have h4 := hcs.trans h1
                    clear hcs h1
                    clear hfit
                    go_wp2_with (first | (go_at_call 32; refine (l11Count_n _ (xs.take i) _ _ _ _ _ (HR.out.up (by (repeat (first | exact Up.rfl' _ | (refine Up.al _ ?_) | (refine Up.dr _ ?_) | (refine Up.dr1 ?_) | (refine Up.sc ?_ (by first | exact Nat.le_refl _ | (simp; done) | omega) _) | (refine Up.step (by assumption) ?_))))) HL.out (by omega)).mono ?_; rintro e w9 ⟨rfl, hb9⟩; replace d0 := cellUp d0 hb9; replace d1 := cellUp d1 hb9; replace d2 := cellUp d2 hb9; replace d3 := cellUp d3 hb9) | (go_at_call 31; refine (sumOf_spec_n _ (xs.take i) _ _ _ _ _ (HR.out.up (by (repeat (first | exact Up.rfl' _ | (refine Up.al _ ?_) | (refine Up.dr _ ?_) | (refine Up.dr1 ?_) | (refine Up.sc ?_ (by first | exact Nat.le_refl _ | (simp; done) | omega) _) | (refine Up.step (by assumption) ?_))))) HL.out (by omega)).mono ?_; rintro e w8 ⟨rfl, hb8⟩; replace d0 := cellUp d0 hb8; replace d1 := cellUp d1 hb8; replace d2 := cellUp d2 hb8; replace d3 := cellUp d3 hb8))
                    go_ret
                    exact ⟨retb HF.out.symm, by (repeat (first | exact Up.rfl' _ | (refine Up.al _ ?_) | (refine Up.dr _ ?_) | (refine Up.dr1 ?_) | (refine Up.sc ?_ (by first | exact Nat.le_refl _ | (simp; done) | omega) _) | (refine Up.step (by assumption) ?_)))⟩
              | false =>
              cases h3 : decide (sumLn (xs.take i) x.o 1 < x.a) with
              | true =>
                have HF := Lib.hid (linesB_unfit Gx.out (hfit.trans (by rw [h1, h3]; simp)))
                have h4 := hcs.trans h1
                clear hcs h1
                clear hfit
                go_wp2_with (first | (go_at_call 32; refine (l11Count_n _ (xs.take i) _ _ _ _ _ (HR.out.up (by (repeat (first | exact Up.rfl' _ | (refine Up.al _ ?_) | (refine Up.dr _ ?_) | (refine Up.dr1 ?_) | (refine Up.sc ?_ (by first | exact Nat.le_refl _ | (simp; done) | omega) _) | (refine Up.step (by assumption) ?_))))) HL.out (by omega)).mono ?_; rintro e w9 ⟨rfl, hb9⟩; replace d0 := cellUp d0 hb9; replace d1 := cellUp d1 hb9; replace d2 := cellUp d2 hb9; replace d3 := cellUp d3 hb9) | (go_at_call 31; refine (sumOf_spec_n _ (xs.take i) _ _ _ _ _ (HR.out.up (by (repeat (first | exact Up.rfl' _ | (refine Up.al _ ?_) | (refine Up.dr _ ?_) | (refine Up.dr1 ?_) | (refine Up.sc ?_ (by first | exact Nat.le_refl _ | (simp; done) | omega) _) | (refine Up.step (by assumption) ?_))))) HL.out (by omega)).mono ?_; rintro e w8 ⟨rfl, hb8⟩; replace d0 := cellUp d0 hb8; replace d1 := cellUp d1 hb8; replace d2 := cellUp d2 hb8; replace d3 := cellUp d3 hb8))
                go_ret
                exact ⟨retb HF.out.symm, by (repeat (first | exact Up.rfl' _ | (refine Up.al _ ?_) | (refine Up.dr _ ?_) | (refine Up.dr1 ?_) | (refine Up.sc ?_ (by first | exact Nat.le_refl _ | (simp; done) | omega) _) | (refine Up.step (by assumption) ?_)))⟩
              | false =>
                have HF := Lib.hid (lineAt_ok Gx.out HBad.out (hfit.trans (by rw [h1, h3]; simp at h2; simp [h2])))
                have h4 := hcs.trans h1
                clear hcs h1
                clear hfit
                go_wp2_with (first | (go_at_call 32; refine (l11Count_n _ (xs.take i) _ _ _ _ _ (HR.out.up (by (repeat (first | exact Up.rfl' _ | (refine Up.al _ ?_) | (refine Up.dr _ ?_) | (refine Up.dr1 ?_) | (refine Up.sc ?_ (by first | exact Nat.le_refl _ | (simp; done) | omega) _) | (refine Up.step (by assumption) ?_))))) HL.out (by omega)).mono ?_; rintro e w9 ⟨rfl, hb9⟩; replace d0 := cellUp d0 hb9; replace d1 := cellUp d1 hb9; replace d2 := cellUp d2 hb9; replace d3 := cellUp d3 hb9) | (go_at_call 31; refine (sumOf_spec_n _ (xs.take i) _ _ _ _ _ (HR.out.up (by (repeat (first | exact Up.rfl' _ | (refine Up.al _ ?_) | (refine Up.dr _ ?_) | (refine Up.dr1 ?_) | (refine Up.sc ?_ (by first | exact Nat.le_refl _ | (simp; done) | omega) _) | (refine Up.step (by assumption) ?_))))) HL.out (by omega)).mono ?_; rintro e w8 ⟨rfl, hb8⟩; replace d0 := cellUp d0 hb8; replace d1 := cellUp d1 hb8; replace d2 := cellUp d2 hb8; replace d3 := cellUp d3 hb8))
                exact ⟨⟨i + 1, by omega, by go_num, allTo_succ he.out HF.out, by (repeat (first | exact Up.rfl' _ | (refine Up.al _ ?_) | (refine Up.dr _ ?_) | (refine Up.dr1 ?_) | (refine Up.sc ?_ (by first | exact Nat.le_refl _ | (simp; done) | omega) _) | (refine Up.step (by assumption) ?_)))⟩, by simp [intOf]; omega⟩
      · obtain rfl : i = xs.length := by omega
        have HR := Lib.hid (linesB_all h200 he.out)
        go_wp2
        go_ret
        exact ⟨retb HR.out.symm, by (repeat (first | exact Up.rfl' _ | (refine Up.al _ ?_) | (refine Up.dr _ ?_) | (refine Up.dr1 ?_) | (refine Up.sc ?_ (by first | exact Nat.le_refl _ | (simp; done) | omega) _) | (refine Up.step (by assumption) ?_)))⟩
  · have HR := Lib.hid (linesB_long h200)
    go_enter Tryd.func16, Tryd.ntmps16
    go_wp2
    go_ret
    exact ⟨retb HR.out.symm, by (repeat (first | exact Up.rfl' _ | (refine Up.al _ ?_) | (refine Up.dr _ ?_) | (refine Up.dr1 ?_) | (refine Up.sc ?_ (by first | exact Nat.le_refl _ | (simp; done) | omega) _) | (refine Up.step (by assumption) ?_)))⟩
set_option linter.unusedVariables false
set_option linter.unusedSimpArgs false
def lnOf (x : YLine) : Ln := ⟨x.order, x.kind, x.amount, x.at_⟩
instance : FlatAs cLine lnOf := ⟨fun x => rfl, fun x j p h => by
  match j, h with
  | 0, h => obtain rfl : vi x.order = p := by simpa using h
            exact ⟨_, rfl, rfl⟩
  | 1, h => obtain rfl : vi x.kind = p := by simpa using h
            exact ⟨_, rfl, rfl⟩
  | 2, h => obtain rfl : vi x.amount = p := by simpa using h
            exact ⟨_, rfl, rfl⟩
  | 3, h => obtain rfl : vi x.at_ = p := by simpa using h
            exact ⟨_, rfl, rfl⟩
  | j + 4, h => simp at h⟩
def m_impl_AreLines (l : List YLine) : Option Bool := if l.length ≤ 2000000 then some (linesB (l.map lnOf)) else none
theorem ok_impl_AreLines (l : List YLine) {r : Bool} (H : m_impl_AreLines l = some r) : CallM Tryd.prog 24 [.sl (l.map cLine)] [] (vb r) [] := by
  unfold m_impl_AreLines at H
  split at H
  case isFalse => cases H
  rename_i hn
  obtain rfl := Option.some.inj H
  refine callM_v rfl fun S β w vs hsz hl ha => ?_
  obtain ⟨x, hx, hr⟩ := ha 0 _ rfl
  obtain rfl := arrV1 hl hx
  obtain ⟨A, c, rfl, hcap, _, hrd⟩ := rd_flat lnOf hsz (rep_sl hr)
  have := areLines_impl A (l.map lnOf) c w hrd (by simpa using hcap) (by simpa using hn)
  rwa [List.length_map] at this
instance (l : List YLine) : CT Tryd.prog (m_impl_AreLines l) := ⟨24, [.sl (l.map cLine)], [], fun r => vb r, fun r => [], ok_impl_AreLines l⟩
def m_impl_SumOf (l : List YLine) (order kind : Int) : Option Int := if l.length ≤ 2000000 then some (sumLn (l.map lnOf) order kind) else none
theorem ok_impl_SumOf (l : List YLine) (order kind : Int) {r : Int} (H : m_impl_SumOf l order kind = some r) : CallM Tryd.prog 14 [.sl (l.map cLine), vi order, vi kind] [] (vi r) [] := by
  unfold m_impl_SumOf at H
  split at H
  case isFalse => cases H
  rename_i hn
  obtain rfl := Option.some.inj H
  refine callM_v rfl fun S β w vs hsz hl ha => ?_
  obtain ⟨x, hx, hr⟩ := ha 0 _ rfl
  obtain ⟨x1, hx1, hr1⟩ := ha 1 _ rfl
  obtain ⟨x2, hx2, hr2⟩ := ha 2 _ rfl
  obtain rfl := arrV3 hl hx hx1 hx2
  obtain rfl := rep_v1 hr1
  obtain rfl := rep_v1 hr2
  obtain ⟨A, c, rfl, hcap, _, hrd⟩ := rd_flat lnOf hsz (rep_sl hr)
  have := sumOf_impl A (l.map lnOf) c order kind w hrd (by simpa using hn)
  rwa [List.length_map] at this
instance (l : List YLine) (order kind : Int) : CT Tryd.prog (m_impl_SumOf l order kind) := ⟨14, [.sl (l.map cLine), vi order, vi kind], [], fun r => vi r, fun r => [], ok_impl_SumOf l order kind⟩
def m_spec_ArePercents (l : List Int) : Option Bool := if l.length ≤ 2000000 then some (pctsB l) else none
theorem ok_spec_ArePercents (l : List Int) {r : Bool} (H : m_spec_ArePercents l = some r) : CallM Tryd.prog 61 [.sl (l.map cInt)] [] (vb r) [] := by
  unfold m_spec_ArePercents at H
  split at H
  case isFalse => cases H
  rename_i hn
  obtain rfl := Option.some.inj H
  refine callM_v rfl fun S β w vs hsz hl ha => ?_
  obtain ⟨x, hx, hr⟩ := ha 0 _ rfl
  obtain rfl := arrV1 hl hx
  obtain ⟨A, c, rfl, hcap, _, hrd⟩ := rd_flat (id : Int → Int) hsz (rep_sl hr)
  rw [List.map_id] at hrd
  exact arePercents_spec A c l w hrd hn
instance (l : List Int) : CT Tryd.prog (m_spec_ArePercents l) := ⟨61, [.sl (l.map cInt)], [], fun r => vb r, fun r => [], ok_spec_ArePercents l⟩
def m_spec_AreLines (l : List YLine) : Option Bool := if l.length ≤ 2000000 then some (linesB (l.map lnOf)) else none
theorem ok_spec_AreLines (l : List YLine) {r : Bool} (H : m_spec_AreLines l = some r) : CallM Tryd.prog 16 [.sl (l.map cLine)] [] (vb r) [] := by
  unfold m_spec_AreLines at H
  split at H
  case isFalse => cases H
  rename_i hn
  obtain rfl := Option.some.inj H
  refine callM_v rfl fun S β w vs hsz hl ha => ?_
  obtain ⟨x, hx, hr⟩ := ha 0 _ rfl
  obtain rfl := arrV1 hl hx
  obtain ⟨A, c, rfl, hcap, _, hrd⟩ := rd_flat lnOf hsz (rep_sl hr)
  have := areLines_spec A (l.map lnOf) c w hrd (by simpa using hcap) (by simpa using hn)
  rwa [List.length_map] at this
instance (l : List YLine) : CT Tryd.prog (m_spec_AreLines l) := ⟨16, [.sl (l.map cLine)], [], fun r => vb r, fun r => [], ok_spec_AreLines l⟩
def m_spec_SumOf (l : List YLine) (order kind : Int) : Option Int := if l.length ≤ 2000000 then some (sumLn (l.map lnOf) order kind) else none
theorem ok_spec_SumOf (l : List YLine) (order kind : Int) {r : Int} (H : m_spec_SumOf l order kind = some r) : CallM Tryd.prog 31 [.sl (l.map cLine), vi order, vi kind] [] (vi r) [] := by
  unfold m_spec_SumOf at H
  split at H
  case isFalse => cases H
  rename_i hn
  obtain rfl := Option.some.inj H
  refine callM_v rfl fun S β w vs hsz hl ha => ?_
  obtain ⟨x, hx, hr⟩ := ha 0 _ rfl
  obtain ⟨x1, hx1, hr1⟩ := ha 1 _ rfl
  obtain ⟨x2, hx2, hr2⟩ := ha 2 _ rfl
  obtain rfl := arrV3 hl hx hx1 hx2
  obtain rfl := rep_v1 hr1
  obtain rfl := rep_v1 hr2
  obtain ⟨A, c, rfl, hcap, _, hrd⟩ := rd_flat lnOf hsz (rep_sl hr)
  have := sumOf_spec A (l.map lnOf) c order kind w hrd (by simpa using hn)
  rwa [List.length_map] at this
instance (l : List YLine) (order kind : Int) : CT Tryd.prog (m_spec_SumOf l order kind) := ⟨31, [.sl (l.map cLine), vi order, vi kind], [], fun r => vi r, fun r => [], ok_spec_SumOf l order kind⟩
set_option maxHeartbeats 16000000
def m_impl_OwedFor (l : List YLine) (order : Int) : Option Int :=
 (m_impl_AreLines l).bind fun y1 =>
 cond (!y1)
 (some 0)
 ((m_impl_SumOf l order 1).bind fun y2 =>
 (m_impl_SumOf l order 2).bind fun y3 =>
 some (w64 (y2 - y3)))
instance (l : List YLine) (order : Int) : CT Tryd.prog (m_impl_OwedFor l order) := ⟨15, [.sl (l.map cLine), vi order], [], fun r => vi r, fun r => [], fun H => by replace H := H0 H; unfold m_impl_OwedFor at H; exact callM_of Tryd.func15 rfl Tryd.ntmps15 Tryd.results15 fun Q hQ hQn => wk3⟩
def m_impl_clock (minute : Int) : Option ByteArray :=
 (m_impl_padded (IntKind.i64.wrap (Int.tdiv minute 60)) 2).bind fun y1 =>
 (chk (strOk y1 (⟨#[58]⟩))).bind fun _ =>
 (m_impl_padded (Int.tmod minute 60) 2).bind fun y2 =>
 (chk (strOk (y1 ++ ⟨#[58]⟩) y2)).bind fun _ =>
 some ((y1 ++ ⟨#[58]⟩) ++ y2)
instance (minute : Int) : CT Tryd.prog (m_impl_clock minute) := ⟨39, [vi minute], [], fun r => vs r, fun r => [], fun H => by replace H := H0 H; unfold m_impl_clock at H; exact callM_of Tryd.func39 rfl Tryd.ntmps39 Tryd.results39 fun Q hQ hQn => wk3⟩
def m_impl_within (n : Int) (low : Int) (high : Int) : Option Bool :=
 cond (decide (low ≤ n))
 (some (decide (n ≤ high)))
 (some false)
instance (n : Int) (low : Int) (high : Int) : CT Tryd.prog (m_impl_within n low high) := ⟨38, [vi n, vi low, vi high], [], fun r => vb r, fun r => [], fun H => by replace H := H0 H; unfold m_impl_within at H; exact callM_of Tryd.func38 rfl Tryd.ntmps38 Tryd.results38 fun Q hQ hQn => wk3⟩
def m_impl_FormatTime (t : Int) : Option ByteArray :=
 (m_impl_within t 0 100000).bind fun y1 =>
 cond (!y1)
 (some (⟨#[]⟩))
 ((m_impl_FormatInt (IntKind.i64.wrap (Int.tdiv t 1440))).bind fun y2 =>
 (chk (strOk y2 (⟨#[32]⟩))).bind fun _ =>
 (m_impl_clock (Int.tmod t 1440)).bind fun y3 =>
 (chk (strOk (y2 ++ ⟨#[32]⟩) y3)).bind fun _ =>
 some ((y2 ++ ⟨#[32]⟩) ++ y3))
instance (t : Int) : CT Tryd.prog (m_impl_FormatTime t) := ⟨25, [vi t], [], fun r => vs r, fun r => [], fun H => by replace H := H0 H; unfold m_impl_FormatTime at H; exact callM_of Tryd.func25 rfl Tryd.ntmps25 Tryd.results25 fun Q hQ hQn => wk3⟩
def m_impl_LinesOf_b0 (l : List YLine) (order : Int) (s0 : Int × (List YLine)) : Option ((Int × (List YLine)) ⊕ (List YLine)) :=
 cond (decide (s0.1 < (l.length : Int)))
 ((jn 4 7 (
 (getI l s0.1).bind fun y1 =>
 cond (decide (y1.order = order))
 ((chk (appOk ((s0.2 : List YLine).length + ([y1] : List YLine).length) 32)).bind fun _ =>
 some (.inl ((s0.2 : List YLine) ++ [y1])))
 (some (.inl s0.2)) : Option ((List YLine) ⊕ Empty)) (fun z2 => (.un :: vi order :: (U 3 (.ms 0 :: (U 3 (.sl (l.map cLine) :: vi (l.length : Int) :: vi s0.1 :: (U 13 []))))))) (fun z2 => [some ⟨.of 34, 4, z2.map cLine⟩])).bind (selim (fun z2 =>
 some (.inl ((w64 (s0.1 + 1)), z2))) (fun r => nomatch r)))
 (some (.inr s0.2))
instance (l : List YLine) (order : Int) : LoopE (m_impl_LinesOf_b0 l order) := ⟨fun s0 => (.un :: vi order :: (U 3 (.ms 0 :: (U 3 (.sl (l.map cLine) :: vi (l.length : Int) :: vi s0.1 :: (U 13 [])))))), fun s0 => [some ⟨.of 34, 4, s0.2.map cLine⟩]⟩
def m_impl_LinesOf (l : List YLine) (order : Int) : Option (List YLine) :=
 (iterF (m_impl_LinesOf_b0 l order) NN (0, ([] : List YLine))).bind (fun o0 =>
 some o0)
instance (l : List YLine) (order : Int) : CT Tryd.prog (m_impl_LinesOf l order) := ⟨13, [.sl (l.map cLine), vi order], [], fun r => .ms 0, fun r => [some ⟨.of 34, 4, r.map cLine⟩], fun H => by replace H := H0 H; unfold m_impl_LinesOf at H; exact callM_of Tryd.func13 rfl Tryd.ntmps13 Tryd.results13 fun Q hQ hQn => wk3⟩
def m_impl_Statement_b0 (l : List YLine) (order : Int) (y2 : (List YLine)) (s0 : ByteArray × Int) : Option ((ByteArray × Int) ⊕ ByteArray) :=
 cond (decide (s0.2 < (y2.length : Int)))
 ((getI y2 s0.2).bind fun y3 =>
 (m_impl_FormatTime y3.at_).bind fun y4 =>
 (chk (strOk s0.1 y4)).bind fun _ =>
 (chk (strOk (s0.1 ++ y4) (⟨#[32]⟩))).bind fun _ =>
 (getI ([⟨#[99, 104, 97, 114, 103, 101]⟩, ⟨#[112, 97, 121, 109, 101, 110, 116]⟩, ⟨#[114, 101, 102, 117, 110, 100]⟩] : List ByteArray) (w64 (y3.kind - 1))).bind fun y5 =>
 (chk (strOk ((s0.1 ++ y4) ++ ⟨#[32]⟩) y5)).bind fun _ =>
 (chk (strOk (((s0.1 ++ y4) ++ ⟨#[32]⟩) ++ y5) (⟨#[32]⟩))).bind fun _ =>
 (m_impl_FormatInt y3.amount).bind fun y6 =>
 (chk (strOk ((((s0.1 ++ y4) ++ ⟨#[32]⟩) ++ y5) ++ ⟨#[32]⟩) y6)).bind fun _ =>
 (chk (strOk (((((s0.1 ++ y4) ++ ⟨#[32]⟩) ++ y5) ++ ⟨#[32]⟩) ++ y6) (⟨#[10]⟩))).bind fun _ =>
 some (.inl (((((((s0.1 ++ y4) ++ ⟨#[32]⟩) ++ y5) ++ ⟨#[32]⟩) ++ y6) ++ ⟨#[10]⟩), (w64 (s0.2 + 1)))))
 (some (.inr s0.1))
instance (l : List YLine) (order : Int) (y2 : (List YLine)) : LoopE (m_impl_Statement_b0 l order y2) := ⟨fun s0 => (.sl (l.map cLine) :: vi order :: (U 3 (vs s0.1 :: (U 7 (.ms 0 :: vi (y2.length : Int) :: vi s0.2 :: (U 31 [])))))), fun s0 => [some ⟨.of 34, 4, y2.map cLine⟩]⟩
def m_impl_Statement (l : List YLine) (order : Int) : Option ByteArray :=
 (m_impl_AreLines l).bind fun y1 =>
 cond (!y1)
 (some (⟨#[]⟩))
 ((m_impl_LinesOf l order).bind fun y2 =>
 (iterF (m_impl_Statement_b0 l order y2) NN (⟨#[]⟩, 0)).bind (fun o0 =>
 (chk (strOk o0 (⟨#[111, 119, 101, 100, 32]⟩))).bind fun _ =>
 (m_impl_OwedFor l order).bind fun y7 =>
 (m_impl_FormatInt y7).bind fun y8 =>
 (chk (strOk (o0 ++ ⟨#[111, 119, 101, 100, 32]⟩) y8)).bind fun _ =>
 (chk (strOk ((o0 ++ ⟨#[111, 119, 101, 100, 32]⟩) ++ y8) (⟨#[10]⟩))).bind fun _ =>
 some (((o0 ++ ⟨#[111, 119, 101, 100, 32]⟩) ++ y8) ++ ⟨#[10]⟩)))
instance (l : List YLine) (order : Int) : CT Tryd.prog (m_impl_Statement l order) := ⟨8, [.sl (l.map cLine), vi order], [], fun r => vs r, fun r => [], fun H => by replace H := H0 H; unfold m_impl_Statement at H; exact callM_of Tryd.func8 rfl Tryd.ntmps8 Tryd.results8 fun Q hQ hQn => wk3⟩
def m_spec_OwedFor (l : List YLine) (order : Int) : Option Int :=
 (m_spec_AreLines l).bind fun y1 =>
 cond (!y1)
 (some 0)
 ((m_spec_SumOf l order 1).bind fun y2 =>
 (m_spec_SumOf l order 2).bind fun y3 =>
 some (w64 (y2 - y3)))
instance (l : List YLine) (order : Int) : CT Tryd.prog (m_spec_OwedFor l order) := ⟨22, [.sl (l.map cLine), vi order], [], fun r => vi r, fun r => [], fun H => by replace H := H0 H; unfold m_spec_OwedFor at H; exact callM_of Tryd.func22 rfl Tryd.ntmps22 Tryd.results22 fun Q hQ hQn => wk3⟩
def m_spec_l1Padded_b0 (digits : Int) (s0 : ByteArray) : Option (ByteArray ⊕ ByteArray) :=
 cond (decide ((s0.size : Int) < digits))
 ((chk (strOk (⟨#[48]⟩) s0)).bind fun _ =>
 some (.inl (⟨#[48]⟩ ++ s0)))
 (some (.inr s0))
instance (digits : Int) : LoopE (m_spec_l1Padded_b0 digits) := ⟨fun s0 => (.un :: vi digits :: (U 3 (vs s0 :: (U 9 [])))), fun s0 => []⟩
def m_spec_l1Padded (n : Int) (digits : Int) : Option ByteArray :=
 (m_spec_FormatInt n).bind fun y1 =>
 (iterF (m_spec_l1Padded_b0 digits) NN y1).bind (fun o0 =>
 some o0)
instance (n : Int) (digits : Int) : CT Tryd.prog (m_spec_l1Padded n digits) := ⟨46, [vi n, vi digits], [], fun r => vs r, fun r => [], fun H => by replace H := H0 H; unfold m_spec_l1Padded at H; exact callM_of Tryd.func46 rfl Tryd.ntmps46 Tryd.results46 fun Q hQ hQn => wk3⟩
def m_spec_l3Clock (m : Int) : Option ByteArray :=
 (m_spec_l1Padded (IntKind.i64.wrap (Int.tdiv m 60)) 2).bind fun y1 =>
 (chk (strOk y1 (⟨#[58]⟩))).bind fun _ =>
 (m_spec_l1Padded (Int.tmod m 60) 2).bind fun y2 =>
 (chk (strOk (y1 ++ ⟨#[58]⟩) y2)).bind fun _ =>
 some ((y1 ++ ⟨#[58]⟩) ++ y2)
instance (m : Int) : CT Tryd.prog (m_spec_l3Clock m) := ⟨36, [vi m], [], fun r => vs r, fun r => [], fun H => by replace H := H0 H; unfold m_spec_l3Clock at H; exact callM_of Tryd.func36 rfl Tryd.ntmps36 Tryd.results36 fun Q hQ hQn => wk3⟩
def m_spec_l1In (x : Int) (least : Int) (most : Int) : Option Bool :=
 cond (decide (least ≤ x))
 (some (decide (x ≤ most)))
 (some false)
instance (x : Int) (least : Int) (most : Int) : CT Tryd.prog (m_spec_l1In x least most) := ⟨35, [vi x, vi least, vi most], [], fun r => vb r, fun r => [], fun H => by replace H := H0 H; unfold m_spec_l1In at H; exact callM_of Tryd.func35 rfl Tryd.ntmps35 Tryd.results35 fun Q hQ hQn => wk3⟩
def m_spec_FormatTime (t : Int) : Option ByteArray :=
 (m_spec_l1In t 0 100000).bind fun y1 =>
 cond (!y1)
 (some (⟨#[]⟩))
 ((m_spec_FormatInt (IntKind.i64.wrap (Int.tdiv t 1440))).bind fun y2 =>
 (chk (strOk y2 (⟨#[32]⟩))).bind fun _ =>
 (m_spec_l3Clock (Int.tmod t 1440)).bind fun y3 =>
 (chk (strOk (y2 ++ ⟨#[32]⟩) y3)).bind fun _ =>
 some ((y2 ++ ⟨#[32]⟩) ++ y3))
instance (t : Int) : CT Tryd.prog (m_spec_FormatTime t) := ⟨20, [vi t], [], fun r => vs r, fun r => [], fun H => by replace H := H0 H; unfold m_spec_FormatTime at H; exact callM_of Tryd.func20 rfl Tryd.ntmps20 Tryd.results20 fun Q hQ hQn => wk3⟩
def m_spec_LinesOf_b0 (l : List YLine) (order : Int) (s0 : Int × (List YLine)) : Option ((Int × (List YLine)) ⊕ (List YLine)) :=
 cond (decide (s0.1 < (l.length : Int)))
 ((jn 5 4 (
 (getI l s0.1).bind fun y1 =>
 cond (decide (y1.order = order))
 ((getI l s0.1).bind fun y2 =>
 (chk (appOk ((s0.2 : List YLine).length + ([y2] : List YLine).length) 32)).bind fun _ =>
 some (.inl ((s0.2 : List YLine) ++ [y2])))
 (some (.inl s0.2)) : Option ((List YLine) ⊕ Empty)) (fun z3 => (.sl (l.map cLine) :: vi order :: (U 3 (.ms 0 :: vi s0.1 :: (U 22 []))))) (fun z3 => [some ⟨.of 34, 4, z3.map cLine⟩])).bind (selim (fun z3 =>
 some (.inl ((w64 (s0.1 + 1)), z3))) (fun r => nomatch r)))
 (some (.inr s0.2))
instance (l : List YLine) (order : Int) : LoopE (m_spec_LinesOf_b0 l order) := ⟨fun s0 => (.sl (l.map cLine) :: vi order :: (U 3 (.ms 0 :: vi s0.1 :: (U 22 [])))), fun s0 => [some ⟨.of 34, 4, s0.2.map cLine⟩]⟩
def m_spec_LinesOf (l : List YLine) (order : Int) : Option (List YLine) :=
 (iterF (m_spec_LinesOf_b0 l order) NN (0, ([] : List YLine))).bind (fun o0 =>
 some o0)
instance (l : List YLine) (order : Int) : CT Tryd.prog (m_spec_LinesOf l order) := ⟨19, [.sl (l.map cLine), vi order], [], fun r => .ms 0, fun r => [some ⟨.of 34, 4, r.map cLine⟩], fun H => by replace H := H0 H; unfold m_spec_LinesOf at H; exact callM_of Tryd.func19 rfl Tryd.ntmps19 Tryd.results19 fun Q hQ hQn => wk3⟩
def m_spec_Statement_b0 (l : List YLine) (order : Int) (y2 : (List YLine)) (s0 : ByteArray × Int) : Option ((ByteArray × Int) ⊕ ByteArray) :=
 cond (decide (s0.2 < (y2.length : Int)))
 ((jn 9 14 (
 (getI y2 s0.2).bind fun y3 =>
 cond (decide (y3.kind = 1))
 (some (.inl (⟨#[99, 104, 97, 114, 103, 101, 32]⟩)))
 (cond (decide (y3.kind = 2))
 (some (.inl (⟨#[112, 97, 121, 109, 101, 110, 116, 32]⟩)))
 (some (.inl (⟨#[114, 101, 102, 117, 110, 100, 32]⟩)))) : Option (ByteArray ⊕ Empty)) (fun z4 => (.sl (l.map cLine) :: vi order :: (U 3 (vs s0.1 :: .ms 0 :: vi s0.2 :: vs z4 :: (U 48 []))))) (fun z4 => [some ⟨.of 34, 4, y2.map cLine⟩])).bind (selim (fun z4 =>
 (getI y2 s0.2).bind fun y5 =>
 (m_spec_FormatTime y5.at_).bind fun y6 =>
 (chk (strOk s0.1 y6)).bind fun _ =>
 (chk (strOk (s0.1 ++ y6) (⟨#[32]⟩))).bind fun _ =>
 (chk (strOk ((s0.1 ++ y6) ++ ⟨#[32]⟩) z4)).bind fun _ =>
 (getI y2 s0.2).bind fun y7 =>
 (m_spec_FormatInt y7.amount).bind fun y8 =>
 (chk (strOk (((s0.1 ++ y6) ++ ⟨#[32]⟩) ++ z4) y8)).bind fun _ =>
 (chk (strOk ((((s0.1 ++ y6) ++ ⟨#[32]⟩) ++ z4) ++ y8) (⟨#[10]⟩))).bind fun _ =>
 some (.inl ((((((s0.1 ++ y6) ++ ⟨#[32]⟩) ++ z4) ++ y8) ++ ⟨#[10]⟩), (w64 (s0.2 + 1))))) (fun r => nomatch r)))
 (some (.inr s0.1))
instance (l : List YLine) (order : Int) (y2 : (List YLine)) : LoopE (m_spec_Statement_b0 l order y2) := ⟨fun s0 => (.sl (l.map cLine) :: vi order :: (U 3 (vs s0.1 :: .ms 0 :: vi s0.2 :: (U 49 [])))), fun s0 => [some ⟨.of 34, 4, y2.map cLine⟩]⟩
def m_spec_Statement (l : List YLine) (order : Int) : Option ByteArray :=
 (m_spec_AreLines l).bind fun y1 =>
 cond (!y1)
 (some (⟨#[]⟩))
 ((m_spec_LinesOf l order).bind fun y2 =>
 (iterF (m_spec_Statement_b0 l order y2) NN (⟨#[]⟩, 0)).bind (fun o0 =>
 (chk (strOk o0 (⟨#[111, 119, 101, 100, 32]⟩))).bind fun _ =>
 (m_spec_OwedFor l order).bind fun y9 =>
 (m_spec_FormatInt y9).bind fun y10 =>
 (chk (strOk (o0 ++ ⟨#[111, 119, 101, 100, 32]⟩) y10)).bind fun _ =>
 (chk (strOk ((o0 ++ ⟨#[111, 119, 101, 100, 32]⟩) ++ y10) (⟨#[10]⟩))).bind fun _ =>
 some (((o0 ++ ⟨#[111, 119, 101, 100, 32]⟩) ++ y10) ++ ⟨#[10]⟩)))
instance (l : List YLine) (order : Int) : CT Tryd.prog (m_spec_Statement l order) := ⟨6, [.sl (l.map cLine), vi order], [], fun r => vs r, fun r => [], fun H => by replace H := H0 H; unfold m_spec_Statement at H; exact callM_of Tryd.func6 rfl Tryd.ntmps6 Tryd.results6 fun Q hQ hQn => wk3⟩
end Go.Proofs.YtgdcengoopjplaaDoor
namespace Go.Proofs.YtgdcengoopjplaaDoor
set_option maxRecDepth 10000
open Go.RowKit Go.Sort
set_option linter.unusedVariables false
set_option linter.unusedSimpArgs false
set_option maxHeartbeats 2000000
def B60 : Nat := 1152921504606846976
theorem txt_app (a b : List UInt8) : txt a ++ txt b = txt (a ++ b) := by
  apply ByteArray.ext
  rw [ByteArray.data_append]
  simp [txt]
theorem strOk_s {a b : ByteArray} (h : a.size + b.size ≤ B60) : strOk a b = true := by
  unfold strOk
  unfold B60 at h
  exact decide_eq_true (by omega)
theorem repl_cons (k : Nat) (l : List UInt8) : (48 : UInt8) :: (List.replicate k 48 ++ l) = List.replicate (k + 1) 48 ++ l := by rw [List.replicate_succ]; rfl
theorem itoa_len {n : Int} (h : in64 n) : (Lib.itoa n).length ≤ 21 := Lib.itoa_length_le n h.1 h.2
theorem padded_spec {n : Int} {d : Nat} (h : in64 n) (hd : d ≤ 20) : m_spec_l1Padded n (d : Int) = some (txt (padL n d)) := by
  have hl := itoa_len h
  unfold m_spec_l1Padded
  have hF : m_spec_FormatInt n = some (txt (Lib.itoa n)) := by unfold m_spec_FormatInt; rw [if_pos h]
  rw [hF, Option.bind_some]
  have key : ∀ (k N c : Nat), k = d - ((Lib.itoa n).length + c) → k < N → iterF (m_spec_l1Padded_b0 (d : Int)) N (txt (List.replicate c 48 ++ Lib.itoa n)) = some (txt (List.replicate (c + k) 48 ++ Lib.itoa n)) := by
    intro k
    induction k with
    | zero =>
      intro N c hk hN
      cases N with
      | zero => omega
      | succ N =>
        simp only [iterF, m_spec_l1Padded_b0, txt_size, List.length_append, List.length_replicate]
        rw [decide_eq_false (by omega)]
        rfl
    | succ k ih =>
      intro N c hk hN
      cases N with
      | zero => omega
      | succ N =>
        have e1 : (⟨#[48]⟩ : ByteArray) ++ txt (List.replicate c 48 ++ Lib.itoa n) = txt (List.replicate (c + 1) 48 ++ Lib.itoa n) := by
          rw [← repl_cons]; exact txt_app [48] _
        simp only [iterF, m_spec_l1Padded_b0]
        rw [e1, strOk_s (by rw [txt_size]; simp [ByteArray.size]; unfold B60; omega), txt_size]
        rw [decide_eq_true (by simp; omega)]
        have := ih N (c + 1) (by omega) (by omega)
        rw [show c + 1 + k = c + (k + 1) by omega] at this
        exact this
  have := key (d - (Lib.itoa n).length) NN 0 (by omega) (by unfold NN; omega)
  simp only [List.replicate_zero, List.nil_append, Nat.zero_add] at this
  rw [this]
  rfl
theorem padded_im {n : Int} {d : Nat} (h : in64 n) (hd : d ≤ 20) : m_impl_padded n (d : Int) = some (txt (padL n d)) := by
  unfold m_impl_padded
  rw [if_pos ⟨h, by omega, by omega⟩]
  rfl
theorem padL_len {n : Int} {d : Nat} (h : in64 n) (hd : d ≤ 20) : (padL n d).length ≤ 21 := by
  have := itoa_len h
  unfold padL
  simp
  omega
theorem bOk {a b : ByteArray} (ha : a.size + b.size ≤ 100000000) : chk (strOk a b) = some () := chk_t (strOk_s (by unfold B60; omega))
theorem fI {n : Int} (h : in64 n) : m_impl_FormatInt n = some (txt (Lib.itoa n)) := by unfold m_impl_FormatInt; rw [if_pos h]
theorem fS {n : Int} (h : in64 n) : m_spec_FormatInt n = some (txt (Lib.itoa n)) := by unfold m_spec_FormatInt; rw [if_pos h]
def clockL (m : Int) : List UInt8 := padL (m / 60) 2 ++ [58] ++ padL (m % 60) 2
def timeL (t : Int) : List UInt8 := Lib.itoa (t / 1440) ++ [32] ++ clockL (t % 1440)
theorem in_s {n : Int} (h : 0 ≤ n ∧ n ≤ 1000000) : in64 n := ⟨by omega, by omega⟩
theorem clock_len {m : Int} (h : 0 ≤ m ∧ m ≤ 1440) : (clockL m).length ≤ 43 := by
  have h1 := padL_len (n := m / 60) (d := 2) (in_s (by omega)) (by omega)
  have h2 := padL_len (n := m % 60) (d := 2) (in_s (by omega)) (by omega)
  unfold clockL
  simp only [List.length_append, List.length_cons, List.length_nil]
  omega
theorem clock_both {m : Int} (h : 0 ≤ m ∧ m ≤ 1440) : m_impl_clock m = some (txt (clockL m)) ∧ m_spec_l3Clock m = some (txt (clockL m)) := by
  have e1 : IntKind.i64.wrap (Int.tdiv m 60) = m / 60 := by rw [Int.tdiv_eq_ediv_of_nonneg h.1]; exact w64_in ⟨by omega, by omega⟩
  have e2 : Int.tmod m 60 = m % 60 := Int.tmod_eq_emod_of_nonneg h.1
  have h1 := padL_len (n := m / 60) (d := 2) (in_s (by omega)) (by omega)
  have h2 := padL_len (n := m % 60) (d := 2) (in_s (by omega)) (by omega)
  have p1 := padded_im (n := m / 60) (d := 2) (in_s (by omega)) (by omega)
  have p2 := padded_im (n := m % 60) (d := 2) (in_s (by omega)) (by omega)
  have q1 := padded_spec (n := m / 60) (d := 2) (in_s (by omega)) (by omega)
  have q2 := padded_spec (n := m % 60) (d := 2) (in_s (by omega)) (by omega)
  have ec : (⟨#[58]⟩ : ByteArray) = txt [58] := rfl
  unfold m_impl_clock m_spec_l3Clock clockL
  rw [e1, e2]
  rw [show (2 : Int) = ((2 : Nat) : Int) from rfl, p1, p2, q1, q2]
  simp only [Option.bind_some, ec, txt_app]
  rw [bOk (by simp only [txt_size, List.length_append, List.length_cons, List.length_nil]; omega), Option.bind_some, bOk (by simp only [txt_size, List.length_append, List.length_cons, List.length_nil]; omega), Option.bind_some]
  exact ⟨rfl, rfl⟩
theorem time_len {t : Int} (h : 0 ≤ t ∧ t ≤ 100000) : (timeL t).length ≤ 70 := by
  have h1 := itoa_len (n := t / 1440) (in_s (by omega))
  have h2 := clock_len (m := t % 1440) (by omega)
  unfold timeL
  simp only [List.length_append, List.length_cons, List.length_nil]
  omega
theorem time_both {t : Int} (h : 0 ≤ t ∧ t ≤ 100000) : m_impl_FormatTime t = some (txt (timeL t)) ∧ m_spec_FormatTime t = some (txt (timeL t)) := by
  have e1 : IntKind.i64.wrap (Int.tdiv t 1440) = t / 1440 := by rw [Int.tdiv_eq_ediv_of_nonneg h.1]; exact w64_in ⟨by omega, by omega⟩
  have e2 : Int.tmod t 1440 = t % 1440 := Int.tmod_eq_emod_of_nonneg h.1
  have h1 := itoa_len (n := t / 1440) (in_s (by omega))
  have h2 := clock_len (m := t % 1440) (by omega)
  obtain ⟨c1, c2⟩ := clock_both (m := t % 1440) (by omega)
  have w1 : m_impl_within t 0 100000 = some true := by unfold m_impl_within; rw [decide_eq_true h.1, decide_eq_true h.2]; rfl
  have w2 : m_spec_l1In t 0 100000 = some true := by unfold m_spec_l1In; rw [decide_eq_true h.1, decide_eq_true h.2]; rfl
  have es : (⟨#[32]⟩ : ByteArray) = txt [32] := rfl
  unfold m_impl_FormatTime m_spec_FormatTime timeL
  rw [w1, w2, e1, e2, c1, c2, fI (in_s (by omega)), fS (in_s (by omega))]
  simp only [Option.bind_some, Bool.not_true, cond_false, es, txt_app]
  rw [bOk (by simp only [txt_size, List.length_append, List.length_cons, List.length_nil]; omega), Option.bind_some, bOk (by simp only [txt_size, List.length_append, List.length_cons, List.length_nil]; omega), Option.bind_some]
  exact ⟨rfl, rfl⟩
def wordL (k : Int) : List UInt8 := if k = 1 then [99, 104, 97, 114, 103, 101] else if k = 2 then [112, 97, 121, 109, 101, 110, 116] else [114, 101, 102, 117, 110, 100]
theorem word_len (k : Int) : (wordL k).length ≤ 7 := by
  unfold wordL
  split
  · simp
  · split <;> simp
theorem word_get {k : Int} (h : 1 ≤ k ∧ k ≤ 3) : getI ([⟨#[99, 104, 97, 114, 103, 101]⟩, ⟨#[112, 97, 121, 109, 101, 110, 116]⟩, ⟨#[114, 101, 102, 117, 110, 100]⟩] : List ByteArray) (w64 (k - 1)) = some (txt (wordL k)) := by
  rw [show w64 (k - 1) = k - 1 from w64_in ⟨by omega, by omega⟩]
  have : k = 1 ∨ k = 2 ∨ k = 3 := by omega
  rcases this with rfl | rfl | rfl <;> rfl
def StLn (x : YLine) : Prop := (1 ≤ x.kind ∧ x.kind ≤ 3) ∧ (1 ≤ x.amount ∧ x.amount ≤ 100000) ∧ (0 ≤ x.at_ ∧ x.at_ ≤ 100000)
def lineL (x : YLine) : List UInt8 := timeL x.at_ ++ [32] ++ wordL x.kind ++ [32] ++ Lib.itoa x.amount ++ [10]
theorem line_len {x : YLine} (h : StLn x) : (lineL x).length ≤ 110 := by
  have h1 := time_len h.2.2
  have h2 := word_len x.kind
  have h3 := itoa_len (n := x.amount) (in_s (by have := h.2.1; omega))
  unfold lineL
  simp only [List.length_append, List.length_cons, List.length_nil]
  omega
theorem lines_len {l : List YLine} (h : ∀ x ∈ l, StLn x) : (l.flatMap lineL).length ≤ 110 * l.length := by
  induction l with
  | nil => simp
  | cons a l ih =>
    have h1 := line_len (h a (by simp))
    have h2 := ih fun x hx => h x (by simp [hx])
    rw [List.flatMap_cons, List.length_append, List.length_cons]
    omega
theorem lines_ok {l : List YLine} (h : linesB (l.map lnOf) = true) : l.length ≤ 200 ∧ ∀ x ∈ l, StLn x := by
  refine ⟨?_, fun x hx => ?_⟩
  · unfold linesB at h
    rw [Bool.and_eq_true] at h
    have := of_decide_eq_true h.1
    simpa using this
  · obtain ⟨i, hi⟩ := List.getElem?_of_mem hx
    have hg : (l.map lnOf)[i]? = some (lnOf x) := by rw [List.getElem?_map, hi]; rfl
    cases hb : badAt (l.map lnOf) i (lnOf x) with
    | true => rw [linesB_bad hg hb] at h; cases h
    | false =>
      unfold badAt at hb
      rw [Bool.or_eq_false_iff] at hb
      have hl : lineB (lnOf x).o (lnOf x).k (lnOf x).a (lnOf x).t = true := by
        have := hb.1
        cases hh : lineB (lnOf x).o (lnOf x).k (lnOf x).a (lnOf x).t with
        | true => rfl
        | false => rw [hh] at this; cases this
      simp only [lineB, inB, Bool.and_eq_true, lnOf] at hl
      exact ⟨⟨of_decide_eq_true hl.1.1.2.1, of_decide_eq_true hl.1.1.2.2⟩, ⟨of_decide_eq_true hl.1.2.1, of_decide_eq_true hl.1.2.2⟩, ⟨of_decide_eq_true hl.2.1, of_decide_eq_true hl.2.2⟩⟩
theorem linesOf_both {l : List YLine} (hl : l.length ≤ 200) (o : Int) : m_impl_LinesOf l o = some (l.filter fun x => decide (x.order = o)) ∧ m_spec_LinesOf l o = some (l.filter fun x => decide (x.order = o)) := by
  have key : ∀ (body : Int × List YLine → Option ((Int × List YLine) ⊕ List YLine)), (∀ (i : Nat) (out : List YLine) x, l[i]? = some x → out.length ≤ i → body ((i : Int), out) = some (.inl (((i + 1 : Nat) : Int), if x.order = o then out ++ [x] else out))) → (∀ out, body ((l.length : Int), out) = some (.inr out)) →
      ∀ (k N i : Nat), i + k = l.length → k < N → iterF body N ((i : Int), (l.take i).filter fun x => decide (x.order = o)) = some (l.filter fun x => decide (x.order = o)) := by
    intro body h1 h2 k
    induction k with
    | zero =>
      intro N i hi hN
      cases N with
      | zero => omega
      | succ N =>
        obtain rfl : i = l.length := by omega
        simp only [iterF, h2, List.take_length]
        rfl
    | succ k ih =>
      intro N i hi hN
      cases N with
      | zero => omega
      | succ N =>
        obtain ⟨x, hx⟩ : ∃ x, l[i]? = some x := ⟨_, List.getElem?_eq_getElem (by omega)⟩
        have hb := h1 i ((l.take i).filter fun x => decide (x.order = o)) x hx (Nat.le_trans (List.length_filter_le _ _) (by rw [List.length_take]; omega))
        simp only [iterF, hb]
        have e : (if x.order = o then ((l.take i).filter fun x => decide (x.order = o)) ++ [x] else (l.take i).filter fun x => decide (x.order = o)) = (l.take (i + 1)).filter fun x => decide (x.order = o) := by
          rw [List.take_add_one, hx, List.filter_append]
          by_cases h : x.order = o
          · simp [h]
          · simp [h]
        rw [e]
        exact ih N (i + 1) (by omega) (by omega)
  have app : ∀ (out : List YLine) (x : YLine), out.length ≤ 200 → chk (appOk (out.length + ([x] : List YLine).length) 32) = some () := fun out x h => chk_t (decide_eq_true ⟨by simp; omega, by simp; omega⟩)
  have k1 := key (m_impl_LinesOf_b0 l o) (fun i out x hx ho => by
    have hi : i < l.length := (List.getElem?_eq_some_iff.1 hx).1
    have hw : w64 ((i : Int) + 1) = ((i + 1 : Nat) : Int) := w64_nat hi (by omega)
    simp only [m_impl_LinesOf_b0, jn, getI_nat, hx, Option.bind_some, hw, app out x (by omega)]
    rw [decide_eq_true (show (i : Int) < (l.length : Int) by omega)]
    by_cases h : x.order = o
    · rw [decide_eq_true h, if_pos h]; rfl
    · rw [decide_eq_false h, if_neg h]; rfl) (fun out => by
    simp only [m_impl_LinesOf_b0]
    rw [decide_eq_false (by omega)]; rfl) l.length NN 0 (by omega) (by unfold NN; omega)
  have k2 := key (m_spec_LinesOf_b0 l o) (fun i out x hx ho => by
    have hi : i < l.length := (List.getElem?_eq_some_iff.1 hx).1
    have hw : w64 ((i : Int) + 1) = ((i + 1 : Nat) : Int) := w64_nat hi (by omega)
    simp only [m_spec_LinesOf_b0, jn, getI_nat, hx, Option.bind_some, hw, app out x (by omega)]
    rw [decide_eq_true (show (i : Int) < (l.length : Int) by omega)]
    by_cases h : x.order = o
    · rw [decide_eq_true h, if_pos h]; rfl
    · rw [decide_eq_false h, if_neg h]; rfl) (fun out => by
    simp only [m_spec_LinesOf_b0]
    rw [decide_eq_false (by omega)]; rfl) l.length NN 0 (by omega) (by unfold NN; omega)
  unfold m_impl_LinesOf m_spec_LinesOf
  simp only [List.take_zero, List.filter_nil] at k1 k2
  rw [show (0 : Int) = ((0 : Nat) : Int) from rfl, k1, k2]
  exact ⟨rfl, rfl⟩
theorem stmt_loop {l L : List YLine} {o : Int} (hL : L.length ≤ 200) (hok : ∀ x ∈ L, StLn x) :
    iterF (m_impl_Statement_b0 l o L) NN (⟨#[]⟩, 0) = some (txt (L.flatMap lineL)) ∧ iterF (m_spec_Statement_b0 l o L) NN (⟨#[]⟩, 0) = some (txt (L.flatMap lineL)) := by
  have key : ∀ (body : ByteArray × Int → Option ((ByteArray × Int) ⊕ ByteArray)), (∀ (i : Nat) (a : List UInt8) x, L[i]? = some x → a.length ≤ 110 * i → body (txt a, (i : Int)) = some (.inl (txt (a ++ lineL x), ((i + 1 : Nat) : Int)))) → (∀ a, body (a, (L.length : Int)) = some (.inr a)) →
      ∀ (k N i : Nat), i + k = L.length → k < N → iterF body N (txt ((L.take i).flatMap lineL), (i : Int)) = some (txt (L.flatMap lineL)) := by
    intro body h1 h2 k
    induction k with
    | zero =>
      intro N i hi hN
      cases N with
      | zero => omega
      | succ N =>
        obtain rfl : i = L.length := by omega
        simp only [iterF, h2, List.take_length]
        rfl
    | succ k ih =>
      intro N i hi hN
      cases N with
      | zero => omega
      | succ N =>
        obtain ⟨x, hx⟩ : ∃ x, L[i]? = some x := ⟨_, List.getElem?_eq_getElem (by omega)⟩
        have hlen := lines_len (l := L.take i) fun x hx => hok x (List.mem_of_mem_take hx)
        rw [List.length_take] at hlen
        have hb := h1 i ((L.take i).flatMap lineL) x hx (by omega)
        simp only [iterF, hb]
        have e : ((L.take i).flatMap lineL) ++ lineL x = (L.take (i + 1)).flatMap lineL := by
          rw [List.take_add_one, hx, List.flatMap_append]
          simp
        rw [e]
        exact ih N (i + 1) (by omega) (by omega)
  have es : (⟨#[32]⟩ : ByteArray) = txt [32] := rfl
  have en : (⟨#[10]⟩ : ByteArray) = txt [10] := rfl
  have ew1 : (⟨#[99, 104, 97, 114, 103, 101, 32]⟩ : ByteArray) = txt [99, 104, 97, 114, 103, 101, 32] := rfl
  have ew2 : (⟨#[112, 97, 121, 109, 101, 110, 116, 32]⟩ : ByteArray) = txt [112, 97, 121, 109, 101, 110, 116, 32] := rfl
  have ew3 : (⟨#[114, 101, 102, 117, 110, 100, 32]⟩ : ByteArray) = txt [114, 101, 102, 117, 110, 100, 32] := rfl
  have k1 := key (m_impl_Statement_b0 l o L) (fun i a x hx ha => by
    have hi : i < L.length := (List.getElem?_eq_some_iff.1 hx).1
    have hw : w64 ((i : Int) + 1) = ((i + 1 : Nat) : Int) := w64_nat hi (by omega)
    have hx' := hok x (List.mem_of_getElem? hx)
    have t1 := time_len hx'.2.2
    have t2 := word_len x.kind
    have t3 := itoa_len (n := x.amount) (in_s (by have := hx'.2.1; omega))
    simp only [m_impl_Statement_b0, getI_nat, hx, Option.bind_some, hw, (time_both hx'.2.2).1, word_get hx'.1, fI (in_s (show 0 ≤ x.amount ∧ x.amount ≤ 1000000 by have := hx'.2.1; omega)), es, en, txt_app]
    rw [decide_eq_true (show (i : Int) < (L.length : Int) by omega)]
    repeat rw [bOk (by simp only [txt_size, List.length_append, List.length_cons, List.length_nil]; omega), Option.bind_some]
    simp only [cond_true, lineL, List.append_assoc]) (fun a => by
    simp only [m_impl_Statement_b0]
    rw [decide_eq_false (by omega)]; rfl) L.length NN 0 (by omega) (by unfold NN; omega)
  have k2 := key (m_spec_Statement_b0 l o L) (fun i a x hx ha => by
    have hi : i < L.length := (List.getElem?_eq_some_iff.1 hx).1
    have hw : w64 ((i : Int) + 1) = ((i + 1 : Nat) : Int) := w64_nat hi (by omega)
    have hx' := hok x (List.mem_of_getElem? hx)
    have t1 := time_len hx'.2.2
    have t3 := itoa_len (n := x.amount) (in_s (by have := hx'.2.1; omega))
    simp only [m_spec_Statement_b0, jn, getI_nat, hx, Option.bind_some, hw, (time_both hx'.2.2).2, fS (in_s (show 0 ≤ x.amount ∧ x.amount ≤ 1000000 by have := hx'.2.1; omega)), es, en, ew1, ew2, ew3]
    rw [decide_eq_true (show (i : Int) < (L.length : Int) by omega)]
    have hk : x.kind = 1 ∨ x.kind = 2 ∨ x.kind = 3 := by have := hx'.1; omega
    rcases hk with h | h | h
    all_goals
      simp only [h, lineL, wordL]
      simp only [decide_true, decide_false, cond_true, cond_false, Option.bind_some, selim, txt_app, List.append_assoc, show ¬ ((2 : Int) = 1) by omega, show ¬ ((3 : Int) = 1) by omega, show ¬ ((3 : Int) = 2) by omega, if_true, if_false]
      repeat rw [bOk (by simp only [txt_size, List.length_append, List.length_cons, List.length_nil]; omega), Option.bind_some]
      simp only [List.cons_append, List.nil_append, List.append_assoc]) (fun a => by
    simp only [m_spec_Statement_b0]
    rw [decide_eq_false (by omega)]; rfl) L.length NN 0 (by omega) (by unfold NN; omega)
  simp only [List.take_zero, List.flatMap_nil] at k1 k2
  exact ⟨k1, k2⟩
theorem in64_w (x : Int) : in64 (w64 x) := by
  show -9223372036854775808 ≤ IntKind.i64.wrap x ∧ IntKind.i64.wrap x ≤ 9223372036854775807
  rw [IntKind.wrap_i64]
  omega
theorem stmt_both {l : List YLine} (hl : l.length ≤ 1048576) (o : Int) : ∃ r, m_impl_Statement l o = some r ∧ m_spec_Statement l o = some r := by
  have a1 : m_impl_AreLines l = some (linesB (l.map lnOf)) := by unfold m_impl_AreLines; rw [if_pos (by omega)]
  have a2 : m_spec_AreLines l = some (linesB (l.map lnOf)) := by unfold m_spec_AreLines; rw [if_pos (by omega)]
  cases hb : linesB (l.map lnOf) with
  | false =>
    refine ⟨⟨#[]⟩, ?_, ?_⟩
    · unfold m_impl_Statement; rw [a1, hb]; rfl
    · unfold m_spec_Statement; rw [a2, hb]; rfl
  | true =>
    obtain ⟨h200, hok⟩ := lines_ok hb
    obtain ⟨o1, o2⟩ := linesOf_both h200 o
    have hL : (l.filter fun x => decide (x.order = o)).length ≤ 200 := Nat.le_trans (List.length_filter_le _ _) h200
    have hLo : ∀ x ∈ l.filter fun x => decide (x.order = o), StLn x := fun x hx => hok x ((List.mem_filter.1 hx).1)
    obtain ⟨s1, s2⟩ := stmt_loop (l := l) (o := o) hL hLo
    have hlen := lines_len hLo
    have su : ∀ k, m_impl_SumOf l o k = some (sumLn (l.map lnOf) o k) := fun k => by unfold m_impl_SumOf; rw [if_pos (by omega)]
    have sp : ∀ k, m_spec_SumOf l o k = some (sumLn (l.map lnOf) o k) := fun k => by unfold m_spec_SumOf; rw [if_pos (by omega)]
    have w1 : m_impl_OwedFor l o = some (w64 (sumLn (l.map lnOf) o 1 - sumLn (l.map lnOf) o 2)) := by unfold m_impl_OwedFor; rw [a1, hb, su, su]; rfl
    have w2 : m_spec_OwedFor l o = some (w64 (sumLn (l.map lnOf) o 1 - sumLn (l.map lnOf) o 2)) := by unfold m_spec_OwedFor; rw [a2, hb, sp, sp]; rfl
    have hin := in64_w (sumLn (l.map lnOf) o 1 - sumLn (l.map lnOf) o 2)
    have hil := itoa_len hin
    have eo : (⟨#[111, 119, 101, 100, 32]⟩ : ByteArray) = txt [111, 119, 101, 100, 32] := rfl
    have en : (⟨#[10]⟩ : ByteArray) = txt [10] := rfl
    refine ⟨txt (((l.filter fun x => decide (x.order = o)).flatMap lineL) ++ [111, 119, 101, 100, 32] ++ Lib.itoa (w64 (sumLn (l.map lnOf) o 1 - sumLn (l.map lnOf) o 2)) ++ [10]), ?_, ?_⟩
    · unfold m_impl_Statement
      rw [a1, hb]
      simp only [Option.bind_some, Bool.not_true, cond_false, o1, s1, w1, fI hin, eo, en, txt_app]
      repeat rw [bOk (by simp only [txt_size, List.length_append, List.length_cons, List.length_nil]; omega), Option.bind_some]
    · unfold m_spec_Statement
      rw [a2, hb]
      simp only [Option.bind_some, Bool.not_true, cond_false, o2, s2, w2, fS hin, eo, en, txt_app]
      repeat rw [bOk (by simp only [txt_size, List.length_append, List.length_cons, List.length_nil]; omega), Option.bind_some]
end Go.Proofs.YtgdcengoopjplaaDoor
namespace Go.Proofs.YtgdcengoopjplaaDoor
set_option maxRecDepth 10000
open Go.RowKit
set_option linter.unusedVariables false
set_option maxHeartbeats 16000000
def m_laws_eqLine (a : YLine) (b : YLine) : Option Bool :=
 cond (!decide (a.order = b.order))
 (some false)
 (cond (!decide (a.kind = b.kind))
 (some false)
 (cond (!decide (a.amount = b.amount))
 (some false)
 (cond (!decide (a.at_ = b.at_))
 (some false)
 (some true))))
instance (a : YLine) (b : YLine) : CT Tryd.prog (m_laws_eqLine a b) := ⟨27, [.ag (cLine a), .ag (cLine b)], [], fun r => vb r, fun r => [], fun H => by replace H := H0 H; unfold m_laws_eqLine at H; exact callM_of Tryd.func27 rfl Tryd.ntmps27 Tryd.results27 fun Q hQ hQn => wk3⟩
def m_laws_toLine (a : YLine) : Option YLine :=
 some a
instance (a : YLine) : CT Tryd.prog (m_laws_toLine a) := ⟨23, [.ag (cLine a)], [], fun r => .ag [vi r.order, vi r.kind, vi r.amount, vi r.at_], fun r => [], fun H => by replace H := H0 H; unfold m_laws_toLine at H; exact callM_of Tryd.func23 rfl Tryd.ntmps23 Tryd.results23 fun Q hQ hQn => wk3⟩
def m_laws_eqLineS_b0 (a : List YLine) (b : List YLine) (s0 : Int) : Option (Int ⊕ (Unit ⊕ Bool)) :=
 cond (decide (s0 < (a.length : Int)))
 ((getI a s0).bind fun y1 =>
 (getI b s0).bind fun y2 =>
 (m_laws_eqLine y1 y2).bind fun y3 =>
 cond (!y3)
 (some (.inr (.inr false)))
 (some (.inl (w64 (s0 + 1)))))
 (some (.inr (.inl ())))
instance (a : List YLine) (b : List YLine) : LoopE (m_laws_eqLineS_b0 a b) := ⟨fun s0 => (.sl (a.map cLine) :: .sl (b.map cLine) :: (U 3 (vi s0 :: (U 21 [])))), fun s0 => []⟩
def m_laws_eqLineS (a : List YLine) (b : List YLine) : Option Bool :=
 cond (!decide ((a.length : Int) = (b.length : Int)))
 (some false)
 ((iterF (m_laws_eqLineS_b0 a b) NN 0).bind (selim (fun o0 =>
 some true) (fun r => some r)))
instance (a : List YLine) (b : List YLine) : CT Tryd.prog (m_laws_eqLineS a b) := ⟨9, [.sl (a.map cLine), .sl (b.map cLine)], [], fun r => vb r, fun r => [], fun H => by replace H := H0 H; unfold m_laws_eqLineS at H; exact callM_of Tryd.func9 rfl Tryd.ntmps9 Tryd.results9 fun Q hQ hQn => wk3⟩
def m_laws_toLineS_b0 (a : List YLine) (s0 : Int × (List YLine)) : Option ((Int × (List YLine)) ⊕ (List YLine)) :=
 cond (decide (s0.1 < (a.length : Int)))
 ((getI a s0.1).bind fun y1 =>
 (m_laws_toLine y1).bind fun y2 =>
 (getI s0.2 s0.1).bind fun y3 =>
 some (.inl ((w64 (s0.1 + 1)), (s0.2.set (Int.toNat s0.1) y2))))
 (some (.inr s0.2))
instance (a : List YLine) : LoopE (m_laws_toLineS_b0 a) := ⟨fun s0 => (.sl (a.map cLine) :: .un :: .un :: .ms 0 :: vi s0.1 :: (U 18 [])), fun s0 => [some ⟨.of 34, 4, s0.2.map cLine⟩]⟩
def m_laws_toLineS (a : List YLine) : Option (List YLine) :=
 (chk (mkOk (a.length : Int) 32)).bind fun _ =>
 (iterF (m_laws_toLineS_b0 a) NN (0, (List.replicate (Int.toNat (a.length : Int)) (⟨0, 0, 0, 0⟩ : YLine)))).bind (fun o0 =>
 some o0)
instance (a : List YLine) : CT Tryd.prog (m_laws_toLineS a) := ⟨7, [.sl (a.map cLine)], [], fun r => .ms 0, fun r => [some ⟨.of 34, 4, r.map cLine⟩], fun H => by replace H := H0 H; unfold m_laws_toLineS at H; exact callM_of Tryd.func7 rfl Tryd.ntmps7 Tryd.results7 fun Q hQ hQn => wk3⟩
def m_laws_szLineS (a : List YLine) (left : Int) : Option Int :=
 cond (decide ((w64 (left - (a.length : Int))) < 0))
 (some (-1))
 (some (w64 (left - (a.length : Int))))
instance (a : List YLine) (left : Int) : CT Tryd.prog (m_laws_szLineS a left) := ⟨5, [.sl (a.map cLine), vi left], [], fun r => vi r, fun r => [], fun H => by replace H := H0 H; unfold m_laws_szLineS at H; exact callM_of Tryd.func5 rfl Tryd.ntmps5 Tryd.results5 fun Q hQ hQn => wk3⟩
set_option linter.unusedSimpArgs false
theorem mkOk_of {n : Nat} {b : Int} (h : n ≤ 1048576) (hb : 0 ≤ b) (hb2 : b ≤ 134217728) : mkOk (n : Int) b = true := by
  refine decide_eq_true ⟨by omega, by omega, ?_⟩
  have : b * (n : Int) ≤ 134217728 * 1048576 := Int.mul_le_mul hb2 (by omega) (by omega) (by omega)
  omega
theorem szTo_nn {l : Int} {n : Nat} (h : ¬ szTo l n < 0) (h0 : 0 ≤ l) : (n : Int) ≤ l ∧ szTo l n = l - n := by
  rcases szTo_spec l n with ⟨_, e⟩ | ⟨h1, e⟩
  · rw [e] at h; omega
  · exact ⟨h1, e⟩
theorem eqr_Line (x : YLine) : m_laws_eqLine x x = some true := by
  simp [m_laws_eqLine]
theorem cpy_Line (x : YLine) : m_laws_toLine x = some x := by
  simp [m_laws_toLine]
theorem eqr_LineS (a : List YLine) (hl : a.length ≤ 1048576) (he : ∀ x ∈ a, m_laws_eqLine x x = some true) : m_laws_eqLineS a a = some true := by
  have e : iterF (m_laws_eqLineS_b0 a a) NN 0 = some (.inl ()) := by
    refine iter_pass (xs := a) (fun i x hx => ?_) ?_ (by unfold NN; omega)
    · obtain ⟨hi, rfl⟩ := List.getElem?_eq_some_iff.1 hx
      have hw := w64_nat hi (by omega)
      have hx2 := he _ (List.mem_of_getElem? hx)
      simp [m_laws_eqLineS_b0, getI_nat, hx, hi, hw, hx2]
    · simp [m_laws_eqLineS_b0]
  unfold m_laws_eqLineS; simp [e]
theorem cpy_LineS (a : List YLine) (hl : a.length ≤ 1048576) (he : ∀ x ∈ a, m_laws_toLine x = some x) : m_laws_toLineS a = some a := by
  have e : ∀ z, iterF (m_laws_toLineS_b0 a) NN (0, List.replicate a.length z) = some a := by
    intro z
    refine iter_copy (fun i out x hx ho => ?_) (fun out => ?_) (by unfold NN; omega)
    · obtain ⟨hi, rfl⟩ := List.getElem?_eq_some_iff.1 hx
      have hw := w64_nat hi (by omega)
      have hx3 : out[i]? = some out[i] := List.getElem?_eq_getElem (by omega)
      have hx2 := he _ (List.mem_of_getElem? hx)
      simp [m_laws_toLineS_b0, getI_nat, hx, hx3, hi, hw, hx2]
    · simp [m_laws_toLineS_b0]
  unfold m_laws_toLineS; rw [chk_t (mkOk_of hl (by decide) (by decide))]; simp [e]
theorem sz_LineS (a : List YLine) {left : Int} (h0 : 0 ≤ left) (h1 : left ≤ 1048576) (hl : a.length ≤ maxLen) : m_laws_szLineS a left = some (szTo left a.length) := by
  unfold maxLen at hl
  unfold m_laws_szLineS
  rw [w64_in (by omega)]
  rcases szTo_spec left a.length with ⟨h, e⟩ | ⟨h, e⟩
  · rw [e, decide_eq_true (by omega)]; rfl
  · rw [e, decide_eq_false (by omega)]; rfl
def m_laws_FnExactStatement (aL : List YLine) (aOrder : Int) : Option Bool :=
 (m_laws_szLineS aL 1048576).bind fun y1 =>
 cond (decide (y1 < 0))
 (some true)
 ((m_laws_toLineS aL).bind fun y2 =>
 (m_spec_Statement y2 aOrder).bind fun y3 =>
 (m_laws_toLineS aL).bind fun y4 =>
 (m_impl_Statement y4 aOrder).bind fun y5 =>
 cond (!decide (y5 = y3))
 (some false)
 ((m_laws_toLineS aL).bind fun y6 =>
 (m_laws_eqLineS y4 y6).bind fun y7 =>
 cond (!y7)
 (some false)
 (some true)))
theorem ok_laws_FnExactStatement (aL : List YLine) (aOrder : Int) {r : Bool} (H : m_laws_FnExactStatement aL aOrder = some r) : CallM Tryd.prog 3 [.sl (aL.map cLine), vi aOrder] [] (vb r) [] := by
  replace H := H0 H
  unfold m_laws_FnExactStatement at H
  refine callM_of Tryd.func3 rfl Tryd.ntmps3 Tryd.results3 fun Q hQ hQn => ?_
  exact wk3
instance (aL : List YLine) (aOrder : Int) : CT Tryd.prog (m_laws_FnExactStatement aL aOrder) := ⟨3, [.sl (aL.map cLine), vi aOrder], [], fun r => vb r, fun r => [], ok_laws_FnExactStatement aL aOrder⟩
end Go.Proofs.YtgdcengoopjplaaDoor
