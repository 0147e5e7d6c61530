import Derived.Test.YtapllnlclgbbkaaA1
import Derived.Test.YtapllnlclgbbkaaMon
namespace Go.Proofs.Ytapllnlclgbbkaa
set_option maxRecDepth 10000
open Go.RowKit
theorem isLine_impl (o k a t : Int) (w : World) : Calls Try.prog 20 #[.agg #[.int .i64 o, .int .i64 k, .int .i64 a, .int .i64 t]] w fun e w' => e = .returned (.bool (lineB o k a t)) ∧ Below w.heap.size w w' := by
  go_enter Try.func20, Try.ntmps20
  go_wp2_with (go_at_call 59; refine (within_any _ _ _ _).mono ?_; rintro e w' ⟨rfl, rfl⟩)
  all_goals go_ret
  all_goals exact ⟨by simp [lineB, *], (Below.refl _ _).alloc (Nat.le_refl _) _⟩
theorem isLine_spec (o k a t : Int) (w : World) : Calls Try.prog 18 #[.agg #[.int .i64 o, .int .i64 k, .int .i64 a, .int .i64 t]] w fun e w' => e = .returned (.bool (lineB o k a t)) ∧ Below w.heap.size w w' := by
  go_enter Try.func18, Try.ntmps18
  go_wp2_with (go_at_call 58; refine (l1In_any _ _ _ _).mono ?_; rintro e w' ⟨rfl, rfl⟩)
  all_goals go_ret
  all_goals exact ⟨by simp [lineB, *], (Below.refl _ _).alloc (Nat.le_refl _) _⟩
theorem toLine_any (o k a t : Int) (w : World) : Calls Try.prog 19 #[.agg #[.int .i64 o, .int .i64 k, .int .i64 a, .int .i64 t]] w fun e w' => e = .returned (.agg #[.int .i64 o, .int .i64 k, .int .i64 a, .int .i64 t]) ∧ Below w.heap.size w w' := by
  go_enter Try.func19, Try.ntmps19
  go_wp2
  exact bodyPost_ret (v := .agg #[.int .i64 o, .int .i64 k, .int .i64 a, .int .i64 t]) (by simp [results, Try.results19, go_sem]) rfl ⟨rfl, by (repeat (first | exact Up.rfl' _ | (refine Up.al _ ?_) | (refine Up.dr _ ?_) | (refine Up.dr1 ?_) | (refine Up.sc ?_ (by first | exact Nat.le_refl _ | (simp; done) | omega) _) | (refine Up.step (by assumption) ?_)))⟩
theorem exactIsLine_walk (o k a t : Int) (w : World) (_h : LnOk ⟨o, k, a, t⟩) : Calls Try.prog 3 #[.agg #[.int .i64 o, .int .i64 k, .int .i64 a, .int .i64 t]] w fun e w' => e = .returned (.bool true) ∧ Below w.heap.size w w' := by
  go_enter Try.func3, Try.ntmps3
  go_wp2_with (first
    | (go_at_call 19; refine (toLine_any _ _ _ _ _).mono ?_; rintro e w1 ⟨rfl, hb1⟩; obtain ⟨hc1, hf1⟩ := bcell hb1; have hz1a : w.heap.size < w1.heap.size := (by have h_ := hb1.size; first | omega | (simp at h_; omega)))
    | (go_at_call 18; refine (isLine_spec _ _ _ _ _).mono ?_; rintro e w2 ⟨rfl, hb2⟩; obtain ⟨hc2, hf2⟩ := bcell hb2; have hz2a : w.heap.size < w2.heap.size := (by have h_ := hb2.size; first | omega | (simp at h_; omega)))
    | (go_at_call 20; refine (isLine_impl _ _ _ _ _).mono ?_; rintro e w3 ⟨rfl, hb3⟩; obtain ⟨hc3, hf3⟩ := bcell hb3; have hz3a : w.heap.size < w3.heap.size := (by have h_ := hb3.size; first | omega | (simp at h_; omega))))
  go_ret
  exact ⟨rfl, by (repeat (first | exact Up.rfl' _ | (refine Up.al _ ?_) | (refine Up.dr _ ?_) | (refine Up.dr1 ?_) | (refine Up.sc ?_ (by first | exact Nat.le_refl _ | (simp; done) | omega) _) | (refine Up.step (by assumption) ?_)))⟩
end Go.Proofs.Ytapllnlclgbbkaa
