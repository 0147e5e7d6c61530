/- The walk through the law FnExactOpenOrders. -/
import Derived.Test.YtapllnlclgbbkaaP2
import Derived.Test.YtapllnlclgbbkaaF3
import Derived.Test.YtapllnlclgbbkaaF6
namespace Go.Proofs.Ytapllnlclgbbkaa
set_option maxRecDepth 10000
open Go.RowKit
theorem openOrders_implV (A : Option Addr) (xs : List Ln) (n c : Nat) (w : World) (hr : Rd w w.heap.size A xs) (hl : n = xs.length) (hc : xs.length ≤ c) (hn : n ≤ 2000000) :
    Calls Try.prog 54 #[.slice A n c] w fun e w' => ∃ v, e = .returned v ∧ Own w' w.heap.size 3 v (openV xs) ∧ Up w w' := by
  rw [← open_law]
  exact openOrders_impl A xs n c w hr hl hc hn
theorem openOrders_specV (A : Option Addr) (xs : List Ln) (n c : Nat) (w : World) (hr : Rd w w.heap.size A xs) (hl : n = xs.length) (hc : xs.length ≤ c) (hn : n ≤ 2000000) :
    Calls Try.prog 53 #[.slice A n c] w fun e w' => ∃ v, e = .returned v ∧ Own w' w.heap.size 3 v (openV xs) ∧ Up w w' :=
  openOrders_spec A xs n c w hr hl hc hn
set_option maxHeartbeats 1000000 in
theorem exactOpenOrders_walk (A : Option Addr) (xs : List Ln) (c : Nat) (w : World) (hx : Rd w w.heap.size A xs) (_hok : ∀ a ∈ xs, LnOk a) (_hc : xs.length ≤ c) (_hm : c ≤ maxLen) :
    Calls Try.prog 16 #[.slice A xs.length c] w fun e w' => e = .returned (.bool true) ∧ Up w w' := by
  unfold maxLen at _hm
  by_cases hn : xs.length ≤ 1048576
  · have HS := szTo_pos (l := 1048576) (n := xs.length) (by omega)
    have hys : (openV xs).length ≤ 1048577 := Nat.le_trans (openV_len xs) (by omega)
    go_enter Try.func16, Try.ntmps16
    go_wp2_with fail
    refine (szLineS_any A xs.length c 1048576 _ (by omega) (by omega) (by omega)).mono ?_
    rintro e w0 ⟨rfl, hb0⟩
    rw [HS]
    clear HS
    have hu0 : Up w w0 := hb0
    go_wp2_with fail
    refine (toLineS_any A c xs _ (hx.up hu0) (by omega)).mono ?_
    rintro e w1 ⟨g1, rfl, ho1, hb1⟩
    have hu1 : Up w w1 := Up.step hb1 hu0
    go_wp2_with fail
    refine (openOrders_specV _ xs _ _ _ ho1.rd rfl (Nat.le_refl _) (by omega)).mono ?_
    rintro e w2 ⟨v2, rfl, ho2, hb2⟩
    have hu2 : Up w w2 := Up.step hb2 hu1
    obtain ⟨A2, c2, rfl, _, _⟩ := ho2.form
    go_wp2_with fail
    refine (toLineS_any A c xs _ (hx.up hu2) (by omega)).mono ?_
    rintro e w3 ⟨g3, rfl, ho3, hb3⟩
    have hu3 : Up w w3 := Up.step hb3 hu2
    go_wp2_with fail
    refine (openOrders_implV _ xs _ _ _ ho3.rd rfl (Nat.le_refl _) (by omega)).mono ?_
    rintro e w4 ⟨v4, rfl, ho4, hb4⟩
    have hu4 : Up w w4 := Up.step hb4 hu3
    obtain ⟨A4, c4, rfl, _, _⟩ := ho4.form
    go_wp2_with fail
    refine (eqIntS_any _ _ _ _ (openV xs) (openV xs) _ (ho4.rd) ((ho2.up (Up.step hb4 hb3)).rd) (by omega) (by omega)).mono ?_
    rintro e w5 ⟨rfl, hb5⟩
    have hu5 : Up w w5 := Up.step hb5 hu4
    go_wp2_with fail
    refine (toLineS_any A c xs _ (hx.up hu5) (by omega)).mono ?_
    rintro e w6 ⟨g6, rfl, ho6, hb6⟩
    have hu6 : Up w w6 := Up.step hb6 hu5
    go_wp2_with fail
    refine (eqLineS_any _ _ _ _ xs xs _ ((ho3.up (Up.step hb6 (Up.step hb5 hb4))).rd) ho6.rd (by omega) (by omega)).mono ?_
    rintro e w7 ⟨rfl, hb7⟩
    have hu7 : Up w w7 := Up.step hb7 hu6
    have u37 : Up w3 w7 := Up.step hb7 (Up.step hb6 (Up.step hb5 hb4))
    have hx7 := ho3.up u37
    go_wp2_with fail
    refine (markLineS_any _ _ _ _ xs _ hx7 rfl (by omega)).mono ?_
    rintro e w8 ⟨rfl, ho8, hg8⟩
    have hu8 : Up w w8 := Up.grown' hu7 hg8 hx7 hu2.size
    have hs8 := (ho2.up (Up.step u37 hb3)).sep2 ho2 hx7 (Nat.le_refl _) hg8
    have hr8 := (ho4.up (Up.step hb7 (Up.step hb6 hb5))).sep1 ho3 (Nat.le_refl _) hg8
    go_wp2_with fail
    refine (eqIntS_any _ _ _ _ (openV xs) (openV xs) _ hr8.rd hs8.rd (by omega) (by omega)).mono ?_
    rintro e w9 ⟨rfl, hb9⟩
    have hu9 : Up w w9 := Up.step hb9 hu8
    have hr9 := hr8.up hb9
    go_wp2_with fail
    refine (markIntS_any _ _ _ _ 1 (openV xs) _ hr9 rfl (by omega) (by omega) (by omega)).mono ?_
    rintro e w10 ⟨rfl, ho10, hg10⟩
    have hu10 : Up w w10 := Up.grown' hu9 hg10 hr9 hu3.size
    have hs10 := (hs8.up hb9).sep2 ho2 hr9 hb3.size hg10
    go_wp2_with fail
    refine (heldIntS_any _ _ _ 1 _ _ ho10.rd' rfl (by omega) (by omega) (by omega)).mono ?_
    rintro e w11 ⟨rfl, hb11⟩
    have hu11 : Up w w11 := Up.step hb11 hu10
    go_wp2_with fail
    refine (toLineS_any A c xs _ (hx.up hu11) (by omega)).mono ?_
    rintro e w12 ⟨g12, rfl, ho12, hb12⟩
    have hu12 : Up w w12 := Up.step hb12 hu11
    go_wp2_with fail
    refine (openOrders_implV _ xs _ _ _ ho12.rd rfl (Nat.le_refl _) (by omega)).mono ?_
    rintro e w13 ⟨v13, rfl, ho13, hb13⟩
    have hu13 : Up w w13 := Up.step hb13 hu12
    obtain ⟨A13, c13, rfl, _, _⟩ := ho13.form
    have u1113 : Up w10 w13 := Up.step hb13 (Up.step hb12 hb11)
    go_wp2_with fail
    refine (eqIntS_any _ _ _ _ (openV xs) (openV xs) _ ho13.rd (hs10.up u1113).rd (by omega) (by omega)).mono ?_
    rintro e w14 ⟨rfl, hb14⟩
    have hu14 : Up w w14 := Up.step hb14 hu13
    go_wp2_with fail
    refine (heldIntS_any _ _ _ 1 _ _ (ho10.up (Up.step hb14 u1113)).rd' rfl (by omega) (by omega) (by omega)).mono ?_
    rintro e w15 ⟨rfl, hb15⟩
    go_wp2_with fail
    go_ret
    exact ⟨rfl, Up.step hb15 hu14⟩
  · have HS := szTo_neg (l := 1048576) (n := xs.length) (by omega)
    go_enter Try.func16, Try.ntmps16
    go_wp2_with fail
    refine (szLineS_any A xs.length c 1048576 _ (by omega) (by omega) (by omega)).mono ?_
    rintro e w0 ⟨rfl, hb0⟩
    rw [HS]
    clear HS
    go_wp2_with fail
    go_ret
    exact ⟨rfl, by (repeat (first | exact Up.rfl' _ | (refine Up.al _ ?_) | (refine Up.dr _ ?_) | (refine Up.dr1 ?_) | (refine Up.sc ?_ (by first | exact Nat.le_refl _ | (simp; done) | omega) _) | (refine Up.step (by assumption) ?_)))⟩
end Go.Proofs.Ytapllnlclgbbkaa
