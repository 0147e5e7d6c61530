import Derived.Test.YtapllnlclgbbkaaD3
namespace Go.Proofs.Ytapllnlclgbbkaa
set_option maxRecDepth 10000
open Go.RowKit
set_option maxHeartbeats 1000000 in
theorem addLine_any (A : Option Addr) (xs : List Ln) (n c : Nat) (x : Ln) (w : World) (hr : Rd w w.heap.size A xs) (hl : n = xs.length) (hn : n ≤ 2000000) :
    Calls Try.prog 71 #[.slice A n c, .agg #[I x.o, I x.k, I x.a, I x.t]] w fun e w' => ∃ v, e = .returned (.tuple #[v, .int .i64 (postV xs x).2]) ∧ Own w' w.heap.size 25 v (postV xs x).1 ∧ Up w w' := by
  subst hl
  by_cases hf : 200 ≤ xs.length
  · have HR := Lib.hid (postV_full (x := x) hf)
    go_enter Try.func71, Try.ntmps71
    go_wp2_with (go_at_call 70; refine (copyLines_any _ xs _ _ _ (hr.up (by (repeat (first | exact Up.rfl' _ | (refine Up.al _ ?_) | (refine Up.dr _ ?_) | (refine Up.dr1 ?_) | (refine Up.sc ?_ (by first | exact Nat.le_refl _ | (simp; done) | omega) _) | (refine Up.step (by assumption) ?_))))) rfl hn).mono ?_; rintro e w1 ⟨v1, rfl, ho1, hb1⟩)
    go_ret2
    rw [HR.out]
    exact ⟨v1, rfl, ho1.down (by (repeat (first | exact Up.rfl' _ | (refine Up.al _ ?_) | (refine Up.dr _ ?_) | (refine Up.dr1 ?_) | (refine Up.sc ?_ (by first | exact Nat.le_refl _ | (simp; done) | omega) _) | (refine Up.step (by assumption) ?_)))), by (repeat (first | exact Up.rfl' _ | (refine Up.al _ ?_) | (refine Up.dr _ ?_) | (refine Up.dr1 ?_) | (refine Up.sc ?_ (by first | exact Nat.le_refl _ | (simp; done) | omega) _) | (refine Up.step (by assumption) ?_)))⟩
  · go_enter Try.func71, Try.ntmps71
    go_wp2
    generalize hwb : w.alloc (.cells #[I x.o, I x.k, I x.a, I x.t] 25) = wb
    have d0 : wb.cell? ⟨w.heap.size, 0, none⟩ = some (I x.o) := by rw [← hwb]; simp [go_sem]
    have d1 : wb.cell? ⟨w.heap.size, 1, none⟩ = some (I x.k) := by rw [← hwb]; simp [go_sem]
    have d2 : wb.cell? ⟨w.heap.size, 2, none⟩ = some (I x.a) := by rw [← hwb]; simp [go_sem]
    have d3 : wb.cell? ⟨w.heap.size, 3, none⟩ = some (I x.t) := by rw [← hwb]; simp [go_sem]
    have hub : Up w wb := by rw [← hwb]; (repeat (first | exact Up.rfl' _ | (refine Up.al _ ?_) | (refine Up.dr _ ?_) | (refine Up.dr1 ?_) | (refine Up.sc ?_ (by first | exact Nat.le_refl _ | (simp; done) | omega) _) | (refine Up.step (by assumption) ?_)))
    have hzb : w.heap.size < wb.heap.size := by rw [← hwb]; simp
    clear hwb
    have z0 : wb.heap.size ≠ w.heap.size := by omega
    go_cut [6] (fun s6 wx => Own wx wb.heap.size 25 s6 (xs ++ [x]) ∧ Up wb wx)
    case first =>
      go_region_held3 (fun w' => w'.cell? ⟨w.heap.size, 0, none⟩ = some (I x.o) ∧ w'.cell? ⟨w.heap.size, 1, none⟩ = some (I x.k) ∧ w'.cell? ⟨w.heap.size, 2, none⟩ = some (I x.a) ∧ w'.cell? ⟨w.heap.size, 3, none⟩ = some (I x.t))
        (first | go_keep | exact ⟨cellUp d0 (by (repeat (first | exact Up.rfl' _ | (refine Up.al _ ?_) | (refine Up.dr _ ?_) | (refine Up.dr1 ?_) | (refine Up.sc ?_ (by first | exact Nat.le_refl _ | (simp; done) | omega) _) | (refine Up.step (by assumption) ?_)))), cellUp d1 (by (repeat (first | exact Up.rfl' _ | (refine Up.al _ ?_) | (refine Up.dr _ ?_) | (refine Up.dr1 ?_) | (refine Up.sc ?_ (by first | exact Nat.le_refl _ | (simp; done) | omega) _) | (refine Up.step (by assumption) ?_)))), cellUp d2 (by (repeat (first | exact Up.rfl' _ | (refine Up.al _ ?_) | (refine Up.dr _ ?_) | (refine Up.dr1 ?_) | (refine Up.sc ?_ (by first | exact Nat.le_refl _ | (simp; done) | omega) _) | (refine Up.step (by assumption) ?_)))), cellUp d3 (by (repeat (first | exact Up.rfl' _ | (refine Up.al _ ?_) | (refine Up.dr _ ?_) | (refine Up.dr1 ?_) | (refine Up.sc ?_ (by first | exact Nat.le_refl _ | (simp; done) | omega) _) | (refine Up.step (by assumption) ?_))))⟩)
        (first
          | (go_at_call 70; refine (copyLines_any _ xs _ _ _ (hr.up (by (repeat (first | exact Up.rfl' _ | (refine Up.al _ ?_) | (refine Up.dr _ ?_) | (refine Up.dr1 ?_) | (refine Up.sc ?_ (by first | exact Nat.le_refl _ | (simp; done) | omega) _) | (refine Up.step (by assumption) ?_))))) rfl hn).mono ?_; rintro e w1 ⟨v1, rfl, ho1, hb1⟩)
          | (have h_ := ho1; refine step_append_rd el_line (by rfl) (.tmp 13) (.tmp 15) (by rfl) (base := wb.heap.size) (ys := xs) (xs := [x]) (by rfl) ((ho1.down (by (repeat (first | exact Up.rfl' _ | (refine Up.al _ ?_) | (refine Up.dr _ ?_) | (refine Up.dr1 ?_) | (refine Up.sc ?_ (by first | exact Nat.le_refl _ | (simp; done) | omega) _) | (refine Up.step (by assumption) ?_))))).up (by (repeat (first | exact Up.rfl' _ | (refine Up.al _ ?_) | (refine Up.dr _ ?_) | (refine Up.dr1 ?_) | (refine Up.sc ?_ (by first | exact Nat.le_refl _ | (simp; done) | omega) _) | (refine Up.step (by assumption) ?_))))) 1 (by rfl) rfl (by first | exact Rd.one _ _ x _ (Nat.lt_succ_self _) | exact (Rd.one _ _ x _ (by simp)).up (by (repeat (first | exact Up.rfl' _ | (refine Up.al _ ?_) | (refine Up.dr _ ?_) | (refine Up.dr1 ?_) | (refine Up.sc ?_ (by first | exact Nat.le_refl _ | (simp; done) | omega) _) | (refine Up.step (by assumption) ?_))))) (by simp; omega) (by unfold maxLen; simp; omega) (Up.le (by (repeat (first | exact Up.rfl' _ | (refine Up.al _ ?_) | (refine Up.dr _ ?_) | (refine Up.dr1 ?_) | (refine Up.sc ?_ (by first | exact Nat.le_refl _ | (simp; done) | omega) _) | (refine Up.step (by assumption) ?_))))) ?_; intro v' w2 ho2 hg2 _ hu2; have hb2 : Up wb w2 := hu2 wb (Nat.le_refl _) (by (repeat (first | exact Up.rfl' _ | (refine Up.al _ ?_) | (refine Up.dr _ ?_) | (refine Up.dr1 ?_) | (refine Up.sc ?_ (by first | exact Nat.le_refl _ | (simp; done) | omega) _) | (refine Up.step (by assumption) ?_))))))
      all_goals go_wp2
      all_goals go_meet
      all_goals exact ⟨ho2, hb2⟩
    case rest =>
      obtain ⟨ho2, hb2⟩ := hcut
      obtain ⟨A2, c2, rfl, hc2, _⟩ := ho2.form
      have hlen : xs.length + 1 = (xs ++ [x]).length := by simp
      rw [← hlen] at ho2 hc2
      have HL := Lib.hid hlen
      have HC := Lib.hid hc2
      clear hlen hc2
      cases hL : linesB (xs ++ [x]) with
      | false =>
        have HR := Lib.hid (postV_bad hf hL)
        go_wp2_with (first
          | (go_at_call 40; refine (areLines_impl_n _ (xs ++ [x]) _ _ _ ho2.rd HL.out (by have h_ := HL.out; have h1_ := HC.out; omega) (by omega)).mono ?_; rintro e w3 ⟨rfl, hb3⟩)
          | (go_at_call 70; refine (copyLines_any _ xs _ _ _ (hr.up (by (repeat (first | exact Up.rfl' _ | (refine Up.al _ ?_) | (refine Up.dr _ ?_) | (refine Up.dr1 ?_) | (refine Up.sc ?_ (by first | exact Nat.le_refl _ | (simp; done) | omega) _) | (refine Up.step (by assumption) ?_))))) rfl hn).mono ?_; rintro e w4 ⟨v4, rfl, ho4, hb4⟩))
        go_ret2
        rw [HR.out]
        exact ⟨v4, rfl, ho4.down (by (repeat (first | exact Up.rfl' _ | (refine Up.al _ ?_) | (refine Up.dr _ ?_) | (refine Up.dr1 ?_) | (refine Up.sc ?_ (by first | exact Nat.le_refl _ | (simp; done) | omega) _) | (refine Up.step (by assumption) ?_)))), by (repeat (first | exact Up.rfl' _ | (refine Up.al _ ?_) | (refine Up.dr _ ?_) | (refine Up.dr1 ?_) | (refine Up.sc ?_ (by first | exact Nat.le_refl _ | (simp; done) | omega) _) | (refine Up.step (by assumption) ?_)))⟩
      | true =>
        have HR := Lib.hid (postV_ok hf hL)
        go_wp2_with (go_at_call 40; refine (areLines_impl_n _ (xs ++ [x]) _ _ _ ho2.rd HL.out (by have h_ := HL.out; have h1_ := HC.out; omega) (by omega)).mono ?_; rintro e w3 ⟨rfl, hb3⟩)
        go_ret2
        rw [HR.out]
        have ho3 : Own w3 w.heap.size 25 (.slice A2 (xs.length + 1) c2) (xs ++ [x]) := (ho2.down hub).up hb3
        exact ⟨_, rfl, ho3, by (repeat (first | exact Up.rfl' _ | (refine Up.al _ ?_) | (refine Up.dr _ ?_) | (refine Up.dr1 ?_) | (refine Up.sc ?_ (by first | exact Nat.le_refl _ | (simp; done) | omega) _) | (refine Up.step (by assumption) ?_)))⟩
set_option maxHeartbeats 1000000 in
theorem l11Post_any (A : Option Addr) (xs : List Ln) (n c : Nat) (x : Ln) (w : World) (hr : Rd w w.heap.size A xs) (hl : n = xs.length) (hn : n ≤ 2000000) :
    Calls Try.prog 69 #[.slice A n c, .agg #[I x.o, I x.k, I x.a, I x.t]] w fun e w' => ∃ v, e = .returned (.tuple #[v, .int .i64 (postV xs x).2]) ∧ Own w' w.heap.size 25 v (postV xs x).1 ∧ Up w w' := by
  subst hl
  · go_enter Try.func69, Try.ntmps69
    go_wp2
    generalize hwb : w.alloc (.cells #[I x.o, I x.k, I x.a, I x.t] 25) = wb
    have d0 : wb.cell? ⟨w.heap.size, 0, none⟩ = some (I x.o) := by rw [← hwb]; simp [go_sem]
    have d1 : wb.cell? ⟨w.heap.size, 1, none⟩ = some (I x.k) := by rw [← hwb]; simp [go_sem]
    have d2 : wb.cell? ⟨w.heap.size, 2, none⟩ = some (I x.a) := by rw [← hwb]; simp [go_sem]
    have d3 : wb.cell? ⟨w.heap.size, 3, none⟩ = some (I x.t) := by rw [← hwb]; simp [go_sem]
    have hub : Up w wb := by rw [← hwb]; (repeat (first | exact Up.rfl' _ | (refine Up.al _ ?_) | (refine Up.dr _ ?_) | (refine Up.dr1 ?_) | (refine Up.sc ?_ (by first | exact Nat.le_refl _ | (simp; done) | omega) _) | (refine Up.step (by assumption) ?_)))
    have hzb : w.heap.size < wb.heap.size := by rw [← hwb]; simp
    clear hwb
    have z0 : wb.heap.size ≠ w.heap.size := by omega
    go_cut [6] (fun s6 wx => Own wx wb.heap.size 25 s6 (xs ++ [x]) ∧ Up wb wx)
    case first =>
      go_region_held3 (fun w' => w'.cell? ⟨w.heap.size, 0, none⟩ = some (I x.o) ∧ w'.cell? ⟨w.heap.size, 1, none⟩ = some (I x.k) ∧ w'.cell? ⟨w.heap.size, 2, none⟩ = some (I x.a) ∧ w'.cell? ⟨w.heap.size, 3, none⟩ = some (I x.t))
        (first | go_keep | exact ⟨cellUp d0 (by (repeat (first | exact Up.rfl' _ | (refine Up.al _ ?_) | (refine Up.dr _ ?_) | (refine Up.dr1 ?_) | (refine Up.sc ?_ (by first | exact Nat.le_refl _ | (simp; done) | omega) _) | (refine Up.step (by assumption) ?_)))), cellUp d1 (by (repeat (first | exact Up.rfl' _ | (refine Up.al _ ?_) | (refine Up.dr _ ?_) | (refine Up.dr1 ?_) | (refine Up.sc ?_ (by first | exact Nat.le_refl _ | (simp; done) | omega) _) | (refine Up.step (by assumption) ?_)))), cellUp d2 (by (repeat (first | exact Up.rfl' _ | (refine Up.al _ ?_) | (refine Up.dr _ ?_) | (refine Up.dr1 ?_) | (refine Up.sc ?_ (by first | exact Nat.le_refl _ | (simp; done) | omega) _) | (refine Up.step (by assumption) ?_)))), cellUp d3 (by (repeat (first | exact Up.rfl' _ | (refine Up.al _ ?_) | (refine Up.dr _ ?_) | (refine Up.dr1 ?_) | (refine Up.sc ?_ (by first | exact Nat.le_refl _ | (simp; done) | omega) _) | (refine Up.step (by assumption) ?_))))⟩)
        (first
          | (go_at_call 68; refine (l11Copy_any _ xs _ _ _ (hr.up (by (repeat (first | exact Up.rfl' _ | (refine Up.al _ ?_) | (refine Up.dr _ ?_) | (refine Up.dr1 ?_) | (refine Up.sc ?_ (by first | exact Nat.le_refl _ | (simp; done) | omega) _) | (refine Up.step (by assumption) ?_))))) rfl hn).mono ?_; rintro e w1 ⟨v1, rfl, ho1, hb1⟩)
          | (have h_ := ho1; refine step_append_rd el_line (by rfl) (.tmp 8) (.tmp 10) (by rfl) (base := wb.heap.size) (ys := xs) (xs := [x]) (by rfl) ((ho1.down (by (repeat (first | exact Up.rfl' _ | (refine Up.al _ ?_) | (refine Up.dr _ ?_) | (refine Up.dr1 ?_) | (refine Up.sc ?_ (by first | exact Nat.le_refl _ | (simp; done) | omega) _) | (refine Up.step (by assumption) ?_))))).up (by (repeat (first | exact Up.rfl' _ | (refine Up.al _ ?_) | (refine Up.dr _ ?_) | (refine Up.dr1 ?_) | (refine Up.sc ?_ (by first | exact Nat.le_refl _ | (simp; done) | omega) _) | (refine Up.step (by assumption) ?_))))) 1 (by rfl) rfl (by first | exact Rd.one _ _ x _ (Nat.lt_succ_self _) | exact (Rd.one _ _ x _ (by simp)).up (by (repeat (first | exact Up.rfl' _ | (refine Up.al _ ?_) | (refine Up.dr _ ?_) | (refine Up.dr1 ?_) | (refine Up.sc ?_ (by first | exact Nat.le_refl _ | (simp; done) | omega) _) | (refine Up.step (by assumption) ?_))))) (by simp; omega) (by unfold maxLen; simp; omega) (Up.le (by (repeat (first | exact Up.rfl' _ | (refine Up.al _ ?_) | (refine Up.dr _ ?_) | (refine Up.dr1 ?_) | (refine Up.sc ?_ (by first | exact Nat.le_refl _ | (simp; done) | omega) _) | (refine Up.step (by assumption) ?_))))) ?_; intro v' w2 ho2 hg2 _ hu2; have hb2 : Up wb w2 := hu2 wb (Nat.le_refl _) (by (repeat (first | exact Up.rfl' _ | (refine Up.al _ ?_) | (refine Up.dr _ ?_) | (refine Up.dr1 ?_) | (refine Up.sc ?_ (by first | exact Nat.le_refl _ | (simp; done) | omega) _) | (refine Up.step (by assumption) ?_))))))
      all_goals go_wp2
      all_goals go_meet
      all_goals exact ⟨ho2, hb2⟩
    case rest =>
      obtain ⟨ho2, hb2⟩ := hcut
      obtain ⟨A2, c2, rfl, hc2, _⟩ := ho2.form
      have hlen : xs.length + 1 = (xs ++ [x]).length := by simp
      rw [← hlen] at ho2 hc2
      have HL := Lib.hid hlen
      have HC := Lib.hid hc2
      clear hlen hc2
      by_cases hf : 200 ≤ xs.length
      · have HR := Lib.hid (postV_full (x := x) hf)
        go_wp2_with (go_at_call 68; refine (l11Copy_any _ xs _ _ _ (hr.up (by (repeat (first | exact Up.rfl' _ | (refine Up.al _ ?_) | (refine Up.dr _ ?_) | (refine Up.dr1 ?_) | (refine Up.sc ?_ (by first | exact Nat.le_refl _ | (simp; done) | omega) _) | (refine Up.step (by assumption) ?_))))) rfl hn).mono ?_; rintro e w4 ⟨v4, rfl, ho4, hb4⟩)
        go_ret2
        rw [HR.out]
        exact ⟨v4, rfl, ho4.down (by (repeat (first | exact Up.rfl' _ | (refine Up.al _ ?_) | (refine Up.dr _ ?_) | (refine Up.dr1 ?_) | (refine Up.sc ?_ (by first | exact Nat.le_refl _ | (simp; done) | omega) _) | (refine Up.step (by assumption) ?_)))), by (repeat (first | exact Up.rfl' _ | (refine Up.al _ ?_) | (refine Up.dr _ ?_) | (refine Up.dr1 ?_) | (refine Up.sc ?_ (by first | exact Nat.le_refl _ | (simp; done) | omega) _) | (refine Up.step (by assumption) ?_)))⟩
      · skip
        cases hL : linesB (xs ++ [x]) with
        | false =>
          have HR := Lib.hid (postV_bad hf hL)
          go_wp2_with (first
            | (go_at_call 39; refine (areLines_spec_n _ (xs ++ [x]) _ _ _ ho2.rd HL.out (by have h_ := HL.out; have h1_ := HC.out; omega) (by omega)).mono ?_; rintro e w3 ⟨rfl, hb3⟩)
            | (go_at_call 68; refine (l11Copy_any _ xs _ _ _ (hr.up (by (repeat (first | exact Up.rfl' _ | (refine Up.al _ ?_) | (refine Up.dr _ ?_) | (refine Up.dr1 ?_) | (refine Up.sc ?_ (by first | exact Nat.le_refl _ | (simp; done) | omega) _) | (refine Up.step (by assumption) ?_))))) rfl hn).mono ?_; rintro e w4 ⟨v4, rfl, ho4, hb4⟩))
          go_ret2
          rw [HR.out]
          exact ⟨v4, rfl, ho4.down (by (repeat (first | exact Up.rfl' _ | (refine Up.al _ ?_) | (refine Up.dr _ ?_) | (refine Up.dr1 ?_) | (refine Up.sc ?_ (by first | exact Nat.le_refl _ | (simp; done) | omega) _) | (refine Up.step (by assumption) ?_)))), by (repeat (first | exact Up.rfl' _ | (refine Up.al _ ?_) | (refine Up.dr _ ?_) | (refine Up.dr1 ?_) | (refine Up.sc ?_ (by first | exact Nat.le_refl _ | (simp; done) | omega) _) | (refine Up.step (by assumption) ?_)))⟩
        | true =>
          have HR := Lib.hid (postV_ok hf hL)
          go_wp2_with (go_at_call 39; refine (areLines_spec_n _ (xs ++ [x]) _ _ _ ho2.rd HL.out (by have h_ := HL.out; have h1_ := HC.out; omega) (by omega)).mono ?_; rintro e w3 ⟨rfl, hb3⟩)
          go_ret2
          rw [HR.out]
          have ho3 : Own w3 w.heap.size 25 (.slice A2 (xs.length + 1) c2) (xs ++ [x]) := (ho2.down hub).up hb3
          exact ⟨_, rfl, ho3, by (repeat (first | exact Up.rfl' _ | (refine Up.al _ ?_) | (refine Up.dr _ ?_) | (refine Up.dr1 ?_) | (refine Up.sc ?_ (by first | exact Nat.le_refl _ | (simp; done) | omega) _) | (refine Up.step (by assumption) ?_)))⟩
end Go.Proofs.Ytapllnlclgbbkaa
