import Derived.Test.YtapllnlclgbbkaaF6
namespace Go.Proofs.Ytapllnlclgbbkaa
set_option maxRecDepth 10000
open Go.RowKit
set_option maxHeartbeats 1600000 in
theorem exactRefundOrder_walk (A : Option Addr) (xs : List Ln) (c : Nat) (o du en : Int) (P : Option Addr) (ps : List Int) (pc : Nat) (t : Int) (w : World)
    (hx : Rd w w.heap.size A xs) (_hok : ∀ a ∈ xs, LnOk a) (_hc : xs.length ≤ c) (_hm : c ≤ maxLen) (_ho : InI o) (_hdu : InI du) (_hen : InI en) (hp : Rd w w.heap.size P ps) (_hpk : ∀ a ∈ ps, InI a) (_hpc : ps.length ≤ pc) (_hpm : pc ≤ maxLen) (_ht : InI t) :
    Calls Try.prog 14 #[.slice A xs.length c, .int .i64 o, .int .i64 du, .int .i64 en, .slice P ps.length pc, .int .i64 t] w fun e w' => e = .returned (.bool true) ∧ Up w w' := by
  unfold maxLen at _hm _hpm
  by_cases hpn : ps.length ≤ 1048576
  · by_cases hn : xs.length ≤ 1048576
    · have HS := szTo_pos (l := 1048576) (n := xs.length) (by omega)
      have hys : (refundO xs o du en ps t).1.length ≤ 1048577 := Nat.le_trans (refundO_len xs o du en ps t) (by omega)
      go_enter Try.func14, Try.ntmps14
      go_wp2_with fail
      refine (szLineS_any A xs.length c 1048576 _ (by omega) (by omega) (by omega)).mono ?_
      rintro e w0 ⟨rfl, hb0⟩
      rw [HS]
      clear HS
      have hu0 : Up w w0 := hb0
      go_wp2_with fail
      refine (toLineS_any A c xs _ (hx.up hu0) (by omega)).mono ?_
      rintro e w1 ⟨g1, rfl, ho1, hb1⟩
      have hu1 : Up w w1 := Up.step hb1 hu0
      go_wp2_with fail
      refine (toIntS_any P pc ps _ (hp.up hu1) (by omega)).mono ?_
      rintro e w2 ⟨g2, rfl, ho2, hb2⟩
      have hu2 : Up w w2 := Up.step hb2 hu1
      go_wp2_with fail
      refine (refundOrder_spec _ xs _ _ o du en _ ps _ t _ (ho1.rd.up hb2) rfl (Nat.le_refl _) (by omega) ho2.rd (by omega)).mono ?_
      rintro e w3 ⟨v3, rfl, ho3, hb3⟩
      have hu3 : Up w w3 := Up.step hb3 hu2
      obtain ⟨A3, c3, rfl, _, _⟩ := ho3.form
      go_wp2_with fail
      refine (toLineS_any A c xs _ (hx.up hu3) (by omega)).mono ?_
      rintro e w4 ⟨g4, rfl, ho4, hb4⟩
      have hu4 : Up w w4 := Up.step hb4 hu3
      go_wp2_with fail
      refine (toIntS_any P pc ps _ (hp.up hu4) (by omega)).mono ?_
      rintro e w5 ⟨g5, rfl, ho5, hb5⟩
      have hu5 : Up w w5 := Up.step hb5 hu4
      go_wp2_with fail
      refine (refundOrder_impl _ xs _ _ o du en _ ps _ t _ (ho4.rd.up hb5) rfl (Nat.le_refl _) (by omega) ho5.rd (by omega)).mono ?_
      rintro e w6 ⟨v6, rfl, ho6, hb6⟩
      have hu6 : Up w w6 := Up.step hb6 hu5
      obtain ⟨A6, c6, rfl, _, _⟩ := ho6.form
      have u36 : Up w3 w6 := Up.step hb6 (Up.step hb5 hb4)
      go_wp2_with fail
      refine (eqLineS_any _ _ _ _ (refundO xs o du en ps t).1 (refundO xs o du en ps t).1 _ ho6.rd (ho3.up u36).rd (by omega) (by omega)).mono ?_
      rintro e w7 ⟨rfl, hb7⟩
      have hu7 : Up w w7 := Up.step hb7 hu6
      go_wp2_with fail
      refine (toLineS_any A c xs _ (hx.up hu7) (by omega)).mono ?_
      rintro e w8 ⟨g8, rfl, ho8, hb8⟩
      have hu8 : Up w w8 := Up.step hb8 hu7
      have u68 : Up w6 w8 := Up.step hb8 hb7
      go_wp2_with fail
      refine (eqLineS_any _ _ _ _ xs xs _ ((ho4.up (Up.step u68 (Up.step hb6 hb5))).rd) ho8.rd (by omega) (by omega)).mono ?_
      rintro e w9 ⟨rfl, hb9⟩
      have hu9 : Up w w9 := Up.step hb9 hu8
      go_wp2_with fail
      refine (toIntS_any P pc ps _ (hp.up hu9) (by omega)).mono ?_
      rintro e w10 ⟨g10, rfl, ho10, hb10⟩
      have hu10 : Up w w10 := Up.step hb10 hu9
      have u610 : Up w6 w10 := Up.step hb10 (Up.step hb9 u68)
      go_wp2_with fail
      refine (eqIntS_any _ _ _ _ ps ps _ ((ho5.up (Up.step u610 hb6)).rd) ho10.rd (by omega) (by omega)).mono ?_
      rintro e w11 ⟨rfl, hb11⟩
      have hu11 : Up w w11 := Up.step hb11 hu10
      have u611 : Up w6 w11 := Up.step hb11 u610
      have u511 : Up w5 w11 := Up.step u611 hb6
      have u411 : Up w4 w11 := Up.step u511 hb5
      have hx11 := ho4.up u411
      go_wp2_with fail
      refine (markLineS_any _ _ _ _ xs _ hx11 rfl (by omega)).mono ?_
      rintro e w12 ⟨rfl, ho12, hg12⟩
      have hu12 : Up w w12 := Up.grown' hu11 hg12 hx11 hu3.size
      have hs12 := (ho3.up (Up.step u411 hb4)).sep2 ho3 hx11 (Nat.le_refl _) hg12
      have hr12 := (ho6.up u611).sep1 ho4 hb5.size hg12
      have hp12 := (ho5.up u511).sep1 ho4 (Nat.le_refl _) hg12
      go_wp2_with fail
      refine (markIntS_any _ _ _ _ _ ps _ hp12 rfl (by omega) (by omega) (by omega)).mono ?_
      rintro e w13 ⟨rfl, ho13, hg13⟩
      have hu13 : Up w w13 := Up.grown' hu12 hg13 hp12 hu4.size
      have hs13 := hs12.sep2 ho3 hp12 hb4.size hg13
      have hr13 := hr12.sep1 ho5 (Nat.le_refl _) hg13
      go_wp2_with fail
      refine (eqLineS_any _ _ _ _ (refundO xs o du en ps t).1 (refundO xs o du en ps t).1 _ hr13.rd hs13.rd (by omega) (by omega)).mono ?_
      rintro e w14 ⟨rfl, hb14⟩
      have hu14 : Up w w14 := Up.step hb14 hu13
      have hr14 := hr13.up hb14
      go_wp2_with fail
      refine (markLineS_any _ _ _ _ (refundO xs o du en ps t).1 _ hr14 rfl (by omega)).mono ?_
      rintro e w15 ⟨rfl, ho15, hg15⟩
      have hu15 : Up w w15 := Up.grown' hu14 hg15 hr14 hu5.size
      have hs15 := (hs13.up hb14).sep2 ho3 hr14 (Up.step hb5 hb4).size hg15
      go_wp2_with fail
      refine (heldLineS_any _ _ _ _ _ ho15.rd' rfl (by omega)).mono ?_
      rintro e w16 ⟨rfl, hb16⟩
      have hu16 : Up w w16 := Up.step hb16 hu15
      go_wp2_with fail
      refine (toLineS_any A c xs _ (hx.up hu16) (by omega)).mono ?_
      rintro e w17 ⟨g17, rfl, ho17, hb17⟩
      have hu17 : Up w w17 := Up.step hb17 hu16
      go_wp2_with fail
      refine (toIntS_any P pc ps _ (hp.up hu17) (by omega)).mono ?_
      rintro e w18 ⟨g18, rfl, ho18, hb18⟩
      have hu18 : Up w w18 := Up.step hb18 hu17
      go_wp2_with fail
      refine (refundOrder_impl _ xs _ _ o du en _ ps _ t _ (ho17.rd.up hb18) rfl (Nat.le_refl _) (by omega) ho18.rd (by omega)).mono ?_
      rintro e w19 ⟨v19, rfl, ho19, hb19⟩
      have hu19 : Up w w19 := Up.step hb19 hu18
      obtain ⟨A19, c19, rfl, _, _⟩ := ho19.form
      have u1519 : Up w15 w19 := Up.step hb19 (Up.step hb18 (Up.step hb17 hb16))
      go_wp2_with fail
      refine (eqLineS_any _ _ _ _ (refundO xs o du en ps t).1 (refundO xs o du en ps t).1 _ ho19.rd (hs15.up u1519).rd (by omega) (by omega)).mono ?_
      rintro e w20 ⟨rfl, hb20⟩
      have hu20 : Up w w20 := Up.step hb20 hu19
      go_wp2_with fail
      refine (heldLineS_any _ _ _ _ _ (ho15.up (Up.step hb20 u1519)).rd' rfl (by omega)).mono ?_
      rintro e w21 ⟨rfl, hb21⟩
      go_wp2_with fail
      go_ret
      exact ⟨rfl, Up.step hb21 hu20⟩
    · have HS := szTo_neg (l := 1048576) (n := xs.length) (by omega)
      go_enter Try.func14, Try.ntmps14
      go_wp2_with fail
      refine (szLineS_any A xs.length c 1048576 _ (by omega) (by omega) (by omega)).mono ?_
      rintro e w0 ⟨rfl, hb0⟩
      rw [HS]
      clear HS
      go_wp2_with fail
      go_ret
      exact ⟨rfl, by (repeat (first | exact Up.rfl' _ | (refine Up.al _ ?_) | (refine Up.dr _ ?_) | (refine Up.dr1 ?_) | (refine Up.sc ?_ (by first | exact Nat.le_refl _ | (simp; done) | omega) _) | (refine Up.step (by assumption) ?_)))⟩
  · go_enter Try.func14, Try.ntmps14
    go_wp2_with fail
    go_ret
    exact ⟨rfl, by (repeat (first | exact Up.rfl' _ | (refine Up.al _ ?_) | (refine Up.dr _ ?_) | (refine Up.dr1 ?_) | (refine Up.sc ?_ (by first | exact Nat.le_refl _ | (simp; done) | omega) _) | (refine Up.step (by assumption) ?_)))⟩
end Go.Proofs.Ytapllnlclgbbkaa
