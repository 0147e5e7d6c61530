/- The walk through the law FnRefund, over any bytes. -/
import Derived.Test.YtapllnlclgbbkaaG3
import Derived.Test.YtapllnlclgbbkaaB4
import Derived.Test.YtapllnlclgbbkaaP1
namespace Go.Proofs.Ytapllnlclgbbkaa
set_option maxRecDepth 10000
open Go.RowKit
set_option maxHeartbeats 1600000 in
theorem refund_walk (A : Option Addr) (xs : List By) (c : Nat) (w : World) (hx : Rd w w.heap.size A xs) (hok : ∀ a ∈ xs, ByOk a) (_hc : xs.length ≤ c) (hm : c ≤ maxLen) :
    Calls Try.prog 7 #[.slice A xs.length c] w fun e w' => e = .returned (.bool true) ∧ Up w w' := by
  unfold maxLen at hm
  by_cases hn : xs.length ≤ 4096
  · have HB := Lib.hid (show decide (4096 < xs.length) = false by simp; omega)
    go_enter Try.func7, Try.ntmps7
    go_wp2_with fail
    refine (big_any A c _ w (by omega)).mono ?_
    rintro e w0 ⟨rfl, rfl⟩
    rw [HB.out]
    go_wp2_with fail
    refine (drawRefundFor_any A xs c _ w rfl hx hok hn).mono ?_
    rintro e w1 ⟨ch, du, en, P, ps, ⟨ich, idu, ien, hps⟩, rfl, hp1, hu1⟩
    have hpl := hps.1
    have hfc := refundV_fact ch du en ps
    go_wp2_with fail
    refine (refundFor_impl P ps _ ch du en _ hp1 (by omega)).mono ?_
    rintro e w2 ⟨rfl, hb2⟩
    have hu2 := Up.step hb2 hu1
    go_wp2_with fail
    refine (refundFor_spec P ps _ ch du en _ (hp1.up hb2) (by omega)).mono ?_
    rintro e w3 ⟨rfl, hb3⟩
    have hu3 := Up.step hb3 hu2
    go_wp2_with fail
    refine (at_any A xs c _ 1 _ rfl (hx.up hu3) hok hn (by omega)).mono ?_
    rintro e w4 ⟨x, ⟨x0, x1⟩, rfl, rfl⟩
    have hup : en ≤ 150000 → 0 ≤ en → refundV ch du en ps ≤ refundV ch du (wrap64 (en + 10 * x)) ps := fun h1 h2 => by
      rw [IntWalk.wrap64_in (en + 10 * x) ⟨by omega, by omega⟩]
      exact refundV_up ch du en _ ps (by omega) (by omega)
    have hp3 := (hp1.up hb2).up hb3
    go_wp2_with fail
    refine (refundFor_impl P ps _ ch du _ _ hp3 (by omega)).mono ?_
    rintro e w5 ⟨rfl, hb5⟩
    have hu5 := Up.step hb5 hu3
    generalize refundV ch du en ps = a at hfc hup
    generalize refundV ch du (wrap64 (en + 10 * x)) ps = b at hup
    obtain ⟨f0, f1⟩ := hfc
    have A0 := Lib.hid hup
    clear hup hps ich idu ien
    by_cases ha : 0 < a
    · obtain ⟨f2, f3⟩ := f1 ha
      clear f1
      by_cases h1 : 150000 < en
      · go_wp2
        go_ret
        first | exact ⟨rfl, hu5⟩ | exact ⟨by simp; omega, hu5⟩
      · by_cases h2 : en < 0
        · go_wp2
          go_ret
          first | exact ⟨rfl, hu5⟩ | exact ⟨by simp; omega, hu5⟩
        · have f4 := A0.out (by omega) (by omega)
          go_wp2
          go_ret
          first | exact ⟨rfl, hu5⟩ | exact ⟨by simp; omega, hu5⟩
    · obtain rfl : a = 0 := by omega
      clear f1
      by_cases h1 : 150000 < en
      · go_wp2
        go_ret
        first | exact ⟨rfl, hu5⟩ | exact ⟨by simp; omega, hu5⟩
      · by_cases h2 : en < 0
        · go_wp2
          go_ret
          first | exact ⟨rfl, hu5⟩ | exact ⟨by simp; omega, hu5⟩
        · have f4 := A0.out (by omega) (by omega)
          go_wp2
          go_ret
          first | exact ⟨rfl, hu5⟩ | exact ⟨by simp; omega, hu5⟩
  · have HB := Lib.hid (show decide (4096 < xs.length) = true by simp; omega)
    go_enter Try.func7, Try.ntmps7
    go_wp2_with fail
    refine (big_any A c _ w (by omega)).mono ?_
    rintro e w0 ⟨rfl, rfl⟩
    rw [HB.out]
    go_wp2
    go_ret
    exact ⟨rfl, by (repeat (first | exact Up.rfl' _ | (refine Up.al _ ?_) | (refine Up.dr _ ?_) | (refine Up.dr1 ?_) | (refine Up.sc ?_ (by first | exact Nat.le_refl _ | (simp; done) | omega) _) | (refine Up.step (by assumption) ?_)))⟩
end Go.Proofs.Ytapllnlclgbbkaa
