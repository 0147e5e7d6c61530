import Derived.Test.YtapllnlclgbbkaaC3
namespace Go.Proofs.Ytapllnlclgbbkaa
set_option maxRecDepth 10000
open Go.RowKit
theorem exactSumOf_walk (A : Option Addr) (xs : List Ln) (c : Nat) (o : Int) (k : Int) (w : World) (hx : Rd w w.heap.size A xs) (_hok : ∀ a ∈ xs, LnOk a) (_hc : xs.length ≤ c) (_hm : c ≤ maxLen) (_ho : InI o) (_hk : InI k) :
    Calls Try.prog 6 #[.slice A xs.length c, .int .i64 o, .int .i64 k] w fun e w' => e = .returned (.bool true) ∧ Up w w' := by
  unfold maxLen at _hm
  by_cases hn : xs.length ≤ 1048576
  · have HS := szTo_pos (l := 1048576) (n := xs.length) (by omega)
    go_enter Try.func6, Try.ntmps6
    go_wp2_with fail
    refine (szLineS_any A xs.length c 1048576 _ (by omega) (by omega) (by omega)).mono ?_
    rintro e w0 ⟨rfl, hb0⟩
    rw [HS]
    clear HS
    go_wp2_with fail
    refine (toLineS_any A c xs _ (hx.up (by (repeat (first | exact Up.rfl' _ | (refine Up.al _ ?_) | (refine Up.dr _ ?_) | (refine Up.dr1 ?_) | (refine Up.sc ?_ (by first | exact Nat.le_refl _ | (simp; done) | omega) _) | (refine Up.step (by assumption) ?_))))) (by omega)).mono ?_
    rintro e w1 ⟨g1, rfl, ho1, hb1⟩
    go_wp2_with fail
    refine (sumOf_spec _ xs _ o k _ ho1.rd (by omega)).mono ?_
    rintro e w2 ⟨rfl, hb2⟩
    go_wp2_with fail
    refine (toLineS_any A c xs _ (hx.up (by (repeat (first | exact Up.rfl' _ | (refine Up.al _ ?_) | (refine Up.dr _ ?_) | (refine Up.dr1 ?_) | (refine Up.sc ?_ (by first | exact Nat.le_refl _ | (simp; done) | omega) _) | (refine Up.step (by assumption) ?_))))) (by omega)).mono ?_
    rintro e w3 ⟨g3, rfl, ho3, hb3⟩
    go_wp2_with fail
    refine (sumOf_impl _ xs _ o k _ ho3.rd (by omega)).mono ?_
    rintro e w4 ⟨rfl, hb4⟩
    go_wp2_with fail
    refine (toLineS_any A c xs _ (hx.up (by (repeat (first | exact Up.rfl' _ | (refine Up.al _ ?_) | (refine Up.dr _ ?_) | (refine Up.dr1 ?_) | (refine Up.sc ?_ (by first | exact Nat.le_refl _ | (simp; done) | omega) _) | (refine Up.step (by assumption) ?_))))) (by omega)).mono ?_
    rintro e w5 ⟨g5, rfl, ho5, hb5⟩
    go_wp2_with fail
    refine (eqLineS_any _ _ _ _ xs xs _ (ho3.rd.up (by (repeat (first | exact Up.rfl' _ | (refine Up.al _ ?_) | (refine Up.dr _ ?_) | (refine Up.dr1 ?_) | (refine Up.sc ?_ (by first | exact Nat.le_refl _ | (simp; done) | omega) _) | (refine Up.step (by assumption) ?_))))) ho5.rd (by omega) (by omega)).mono ?_
    rintro e w6 ⟨rfl, hb6⟩
    go_wp2_with fail
    go_ret
    exact ⟨rfl, by (repeat (first | exact Up.rfl' _ | (refine Up.al _ ?_) | (refine Up.dr _ ?_) | (refine Up.dr1 ?_) | (refine Up.sc ?_ (by first | exact Nat.le_refl _ | (simp; done) | omega) _) | (refine Up.step (by assumption) ?_)))⟩
  · have HS := szTo_neg (l := 1048576) (n := xs.length) (by omega)
    go_enter Try.func6, Try.ntmps6
    go_wp2_with fail
    refine (szLineS_any A xs.length c 1048576 _ (by omega) (by omega) (by omega)).mono ?_
    rintro e w0 ⟨rfl, hb0⟩
    rw [HS]
    clear HS
    go_wp2_with fail
    go_ret
    exact ⟨rfl, by (repeat (first | exact Up.rfl' _ | (refine Up.al _ ?_) | (refine Up.dr _ ?_) | (refine Up.dr1 ?_) | (refine Up.sc ?_ (by first | exact Nat.le_refl _ | (simp; done) | omega) _) | (refine Up.step (by assumption) ?_)))⟩
end Go.Proofs.Ytapllnlclgbbkaa
