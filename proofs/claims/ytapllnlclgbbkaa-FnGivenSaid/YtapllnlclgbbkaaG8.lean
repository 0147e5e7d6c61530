/- The walk through the law FnGiven, over any bytes. -/
import Derived.Test.YtapllnlclgbbkaaG7
import Derived.Test.YtapllnlclgbbkaaP3
import Derived.Test.YtapllnlclgbbkaaF5
namespace Go.Proofs.Ytapllnlclgbbkaa
set_option maxRecDepth 10000
open Go.RowKit
set_option maxHeartbeats 1600000 in
theorem given_walk (A : Option Addr) (xs : List By) (c : Nat) (w : World) (hx : Rd w w.heap.size A xs) (hok : ∀ a ∈ xs, ByOk a) (_hc : xs.length ≤ c) (hm : c ≤ maxLen) :
    Calls Try.prog 15 #[.slice A xs.length c] w fun e w' => e = .returned (.bool true) ∧ Up w w' := by
  unfold maxLen at hm
  by_cases hn : xs.length ≤ 4096
  · have HB := Lib.hid (show decide (4096 < xs.length) = false by simp; omega)
    go_enter Try.func15, Try.ntmps15
    go_wp2_with fail
    refine (big_any A c _ w (by omega)).mono ?_
    rintro e w0 ⟨rfl, rfl⟩
    rw [HB.out]
    go_wp2_with fail
    refine (drawRefundOrder_any A xs c _ w rfl hx hok hn).mono ?_
    rintro e w1 ⟨v, o, du, en, t, P, ps, hps, rfl, ⟨⟨ls, ho1, hll⟩, hp1⟩, hu1⟩
    have hpl := hps.1
    obtain ⟨A1, c1, rfl, hc1, _⟩ := ho1.form
    go_wp2_with fail
    refine (refundOrder_impl A1 ls _ c1 o du en P ps _ t _ ho1.rd rfl hc1 (by omega) hp1 (by omega)).mono ?_
    rintro e w2 ⟨v2, rfl, ho2, hb2⟩
    have hu2 := Up.step hb2 hu1
    have hl2 := refundO_len ls o du en ps t
    by_cases hd : (refundO ls o du en ps t).2 = 0
    · have G := Lib.hid (given_law hd)
      rw [hd]
      generalize (refundO ls o du en ps t).1 = ys at ho2 hl2 G
      obtain ⟨A2, c2, rfl, hc2, _⟩ := ho2.form
      go_wp2_with fail
      refine (refundOrder_impl A2 ys _ c2 o du en P ps _ t _ ho2.rd rfl hc2 (by omega) (hp1.up hb2) (by omega)).mono ?_
      rintro e w3 ⟨v3, rfl, ho3, hb3⟩
      rw [G.out.again]
      go_wp2_with fail
      refine (sumOf_impl_n A1 ls _ c1 o 1 _ ((ho1.up (Up.step hb3 hb2)).rd) rfl (by omega)).mono ?_
      rintro e w4 ⟨rfl, hb4⟩
      have hp4 := ((hp1.up hb2).up hb3).up hb4
      go_wp2_with fail
      refine (refundFor_impl P ps _ (sumLn ls o 1) du en _ hp4 (by omega)).mono ?_
      rintro e w5 ⟨rfl, hb5⟩
      generalize refundV (sumLn ls o 1) du en ps = n at G
      have p0 := G.out.pos
      have u25 : Up w2 w5 := Up.step hb5 (Up.step hb4 hb3)
      have hy5 := ho2.up u25
      have hx5 := ho1.up (Up.step u25 hb2)
      have hu5 : Up w w5 := Up.step u25 hu2
      go_wp2_with fail
      refine (cashOf_impl A2 ys _ c2 _ hy5.rd rfl hc2 (by omega)).mono ?_
      rintro e w6 ⟨rfl, hb6⟩
      rw [G.out.cash]
      go_wp2_with fail
      refine (cashOf_impl A1 ls _ c1 _ (hx5.up hb6).rd rfl hc1 (by omega)).mono ?_
      rintro e w7 ⟨rfl, hb7⟩
      have hy7 := (hy5.up hb6).up hb7
      go_wp2_with fail
      refine (owedFor_impl A2 ys _ c2 o _ hy7.rd rfl hc2 (by omega)).mono ?_
      rintro e w8 ⟨rfl, hb8⟩
      rw [G.out.owed]
      go_wp2_with fail
      refine (sumOf_impl_n A2 ys _ c2 o 2 _ (hy7.up hb8).rd rfl (by omega)).mono ?_
      rintro e w9 ⟨rfl, hb9⟩
      have p9 := G.out.paid
      go_wp2_with fail
      refine (areLines_impl_n A2 ys _ c2 _ ((hy7.up hb8).up hb9).rd rfl hc2 (by omega)).mono ?_
      rintro e w10 ⟨rfl, hb10⟩
      rw [G.out.lines]
      go_wp2_with fail
      go_ret
      exact ⟨rfl, Up.step hb10 (Up.step hb9 (Up.step hb8 (Up.step hb7 (Up.step hb6 hu5))))⟩
    · have hlen := refundO_no hd
      have HD := Lib.hid hd
      clear hd
      generalize hcode : (refundO ls o du en ps t).2 = code at HD
      generalize (refundO ls o du en ps t).1 = ys at ho2 hl2 hlen
      obtain ⟨A2, c2, rfl, hc2, _⟩ := ho2.form
      have hne : (code != 0) = true := by simpa [bne] using HD.out
      go_wp2_with fail
      go_ret
      exact ⟨by simp, hu2⟩
  · have HB := Lib.hid (show decide (4096 < xs.length) = true by simp; omega)
    go_enter Try.func15, Try.ntmps15
    go_wp2_with fail
    refine (big_any A c _ w (by omega)).mono ?_
    rintro e w0 ⟨rfl, rfl⟩
    rw [HB.out]
    go_wp2
    go_ret
    exact ⟨rfl, by (repeat (first | exact Up.rfl' _ | (refine Up.al _ ?_) | (refine Up.dr _ ?_) | (refine Up.dr1 ?_) | (refine Up.sc ?_ (by first | exact Nat.le_refl _ | (simp; done) | omega) _) | (refine Up.step (by assumption) ?_)))⟩
end Go.Proofs.Ytapllnlclgbbkaa
