/- The walk through the law FnPaid, over any bytes. -/
import Derived.Test.YtapllnlclgbbkaaG7
import Derived.Test.YtapllnlclgbbkaaP4
import Derived.Test.YtapllnlclgbbkaaH5
import Derived.Test.YtapllnlclgbbkaaF4
import Derived.Test.YtapllnlclgbbkaaF5
namespace Go.Proofs.Ytapllnlclgbbkaa
set_option maxRecDepth 10000
open Go.RowKit
set_option maxHeartbeats 1600000 in
theorem paid_walk (A : Option Addr) (xs : List By) (c : Nat) (w : World) (hx : Rd w w.heap.size A xs) (hok : ∀ a ∈ xs, ByOk a) (_hc : xs.length ≤ c) (hm : c ≤ maxLen) :
    Calls Try.prog 17 #[.slice A xs.length c] w fun e w' => e = .returned (.bool true) ∧ Up w w' := by
  unfold maxLen at hm
  by_cases hn : xs.length ≤ 4096
  · have HB := Lib.hid (show decide (4096 < xs.length) = false by simp; omega)
    go_enter Try.func17, Try.ntmps17
    go_wp2_with fail
    refine (big_any A c _ w (by omega)).mono ?_
    rintro e w0 ⟨rfl, rfl⟩
    rw [HB.out]
    go_wp2_with fail
    refine (drawOwedFor_any A xs c _ w rfl hx hok hn).mono ?_
    rintro e w1 ⟨v, o, ho5, rfl, ⟨ls, ho1, hll⟩, hu1⟩
    obtain ⟨A1, c1, rfl, hc1, _⟩ := ho1.form
    go_wp2_with fail
    refine (owedFor_impl A1 ls _ c1 o _ ho1.rd rfl hc1 (by omega)).mono ?_
    rintro e w2 ⟨rfl, hb2⟩
    have hu2 := Up.step hb2 hu1
    have hx2 := ho1.up hb2
    go_wp2_with fail
    refine (areLines_spec_n A1 ls _ c1 _ hx2.rd rfl hc1 (by omega)).mono ?_
    rintro e w3 ⟨rfl, hb3⟩
    have hu3 := Up.step hb3 hu2
    have hx3 := hx2.up hb3
    cases hL : linesB ls with
    | false =>
      rw [owedV_no hL]
      go_wp2_with fail
      refine (areLines_spec_n A1 ls _ c1 _ hx3.rd rfl hc1 (by omega)).mono ?_
      rintro e w4 ⟨rfl, hb4⟩
      rw [hL]
      go_wp2_with fail
      go_ret
      exact ⟨rfl, Up.step hb4 hu3⟩
    | true =>
      by_cases h197 : (ls.length : Int) ≤ 197
      · by_cases h0 : owedV ls o = 0
        · rw [h0]
          go_wp2_with fail
          refine (payOrder_impl A1 ls _ c1 o 0 100000 _ hx3.rd rfl hc1 (by omega)).mono ?_
          rintro e w4 ⟨v4, rfl, ho4, hb4⟩
          rw [paid_zero] at ho4 ⊢
          obtain ⟨A4, c4, rfl, _, _⟩ := ho4.form
          go_wp2_with fail
          go_ret
          exact ⟨by simp, Up.step hb4 hu3⟩
        · obtain ⟨hp, P0⟩ := paid_law (o := o) hL (by omega) h0
          have P := Lib.hid P0
          clear P0
          have H0 := Lib.hid h0
          have HP := Lib.hid hp
          clear hp
          have hb0 : (owedV ls o == 0) = false := by simpa using h0
          clear h0
          go_wp2_with fail
          refine (payOrder_impl A1 ls _ c1 o (owedV ls o) 100000 _ hx3.rd rfl hc1 (by omega)).mono ?_
          rintro e w4 ⟨v4, rfl, ho4, hb4⟩
          rw [HP.out] at ho4 ⊢
          have hyl : (ls ++ [(⟨o, 2, owedV ls o, 100000⟩ : Ln)]).length ≤ 4002 := by simp; omega
          generalize (ls ++ [(⟨o, 2, owedV ls o, 100000⟩ : Ln)]) = ys at ho4 P hyl
          obtain ⟨A4, c4, rfl, hc4, _⟩ := ho4.form
          have hu4 := Up.step hb4 hu3
          go_wp2_with fail
          refine (payOrder_impl A4 ys _ c4 o 1 100000 _ ho4.rd rfl hc4 (by omega)).mono ?_
          rintro e w5 ⟨v5, rfl, ho5', hb5⟩
          rw [P.out.again] at ho5' ⊢
          obtain ⟨A5, c5, rfl, _, _⟩ := ho5'.form
          have hu5 := Up.step hb5 hu4
          have hy5 := ho4.up hb5
          go_wp2_with fail
          refine (chargeOrder_impl A4 ys _ c4 o 5 100000 _ hy5.rd rfl hc4 (by omega)).mono ?_
          rintro e w6 ⟨v6, rfl, ho6, hb6⟩
          rw [P.out.twice] at ho6 ⊢
          obtain ⟨A6, c6, rfl, _, _⟩ := ho6.form
          have hu6 := Up.step hb6 hu5
          have hy6 := hy5.up hb6
          go_wp2_with fail
          refine (areLines_impl_n A4 ys _ c4 _ hy6.rd rfl hc4 (by omega)).mono ?_
          rintro e w7 ⟨rfl, hb7⟩
          rw [P.out.lines]
          have hu7 := Up.step hb7 hu6
          have hy7 := hy6.up hb7
          go_wp2_with fail
          refine (owedFor_impl A4 ys _ c4 o _ hy7.rd rfl hc4 (by omega)).mono ?_
          rintro e w8 ⟨rfl, hb8⟩
          rw [P.out.owed0]
          have hu8 := Up.step hb8 hu7
          have hy8 := hy7.up hb8
          have hx8 := hx3.up (Up.step hb8 (Up.step hb7 (Up.step hb6 (Up.step hb5 hb4))))
          go_wp2_with fail
          refine (cashOf_impl A4 ys _ c4 _ hy8.rd rfl hc4 (by omega)).mono ?_
          rintro e w9 ⟨rfl, hb9⟩
          rw [P.out.cash]
          have hu9 := Up.step hb9 hu8
          have hy9 := hy8.up hb9
          have hx9 := hx8.up hb9
          go_wp2_with fail
          refine (cashOf_impl A1 ls _ c1 _ hx9.rd rfl hc1 (by omega)).mono ?_
          rintro e w10 ⟨rfl, hb10⟩
          have hu10 := Up.step hb10 hu9
          have hy10 := hy9.up hb10
          have hx10 := hx9.up hb10
          go_wp2_with fail
          refine (openOrders_implV A4 ys _ c4 _ hy10.rd rfl hc4 (by omega)).mono ?_
          rintro e w11 ⟨v11, rfl, ho11, hb11⟩
          obtain ⟨A11, c11, rfl, _, _⟩ := ho11.form
          have hl11 := openV_len ys
          have hu11 := Up.step hb11 hu10
          have hx11 := hx10.up hb11
          go_wp2_with fail
          refine (has_any A11 (openV ys) _ c11 o _ ho11.rd rfl (by omega)).mono ?_
          rintro e w12 ⟨rfl, hb12⟩
          rw [P.out.gone]
          have hu12 := Up.step hb12 hu11
          have hx12 := hx11.up hb12
          go_wp2_with fail
          refine (openOrders_implV A1 ls _ c1 _ hx12.rd rfl hc1 (by omega)).mono ?_
          rintro e w13 ⟨v13, rfl, ho13, hb13⟩
          obtain ⟨A13, c13, rfl, _, _⟩ := ho13.form
          have hl13 := openV_len ls
          have hu13 := Up.step hb13 hu12
          go_wp2_with fail
          refine (has_any A13 (openV ls) _ c13 o _ ho13.rd rfl (by omega)).mono ?_
          rintro e w14 ⟨rfl, hb14⟩
          rw [P.out.was]
          go_wp2_with fail
          go_ret
          exact ⟨rfl, Up.step hb14 hu13⟩
      · go_wp2_with fail
        refine (areLines_spec_n A1 ls _ c1 _ hx3.rd rfl hc1 (by omega)).mono ?_
        rintro e w4 ⟨rfl, hb4⟩
        rw [hL]
        go_wp2_with fail
        go_ret
        exact ⟨rfl, Up.step hb4 hu3⟩
  · have HB := Lib.hid (show decide (4096 < xs.length) = true by simp; omega)
    go_enter Try.func17, Try.ntmps17
    go_wp2_with fail
    refine (big_any A c _ w (by omega)).mono ?_
    rintro e w0 ⟨rfl, rfl⟩
    rw [HB.out]
    go_wp2
    go_ret
    exact ⟨rfl, by (repeat (first | exact Up.rfl' _ | (refine Up.al _ ?_) | (refine Up.dr _ ?_) | (refine Up.dr1 ?_) | (refine Up.sc ?_ (by first | exact Nat.le_refl _ | (simp; done) | omega) _) | (refine Up.step (by assumption) ?_)))⟩
end Go.Proofs.Ytapllnlclgbbkaa
