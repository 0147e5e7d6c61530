/- What the law FnRefund asks of the plain refund: no program in sight. -/
import Derived.Test.YtapllnlclgbbkaaMon
namespace Go.Proofs.Ytapllnlclgbbkaa
set_option maxRecDepth 10000
open Go.RowKit
theorem pcts_up {ps : List Int} (h : pctsB ps = true) : ∀ (k i : Nat), i + k < ps.length → ps.getD i 0 ≤ ps.getD (i + k) 0
  | 0, i, _ => Int.le_refl _
  | k + 1, i, hi => by
    have h1 := pcts_up h k i (by omega)
    simp only [pctsB, Bool.and_eq_true] at h
    have h3 := allTo_iff.1 h.1 (i + (k + 1)) hi
    simp only [pctAt, Bool.and_eq_true, Bool.or_eq_true, decide_eq_true_eq] at h3
    rcases h3.2 with h4 | h4
    · omega
    · exact Int.le_trans h1 (by simpa using h4)
theorem pcts_in {ps : List Int} (h : pctsB ps = true) {i : Nat} (hi : i < ps.length) : 0 ≤ ps.getD i 0 ∧ ps.getD i 0 ≤ 100 := by
  obtain ⟨x, hx⟩ := get_of_lt hi
  rw [getD_of hx]
  exact (pcts_get h).2.2 i x hx
theorem pctOf_in {c x : Int} (hc : 0 ≤ c ∧ c ≤ 100000) (hx : 0 ≤ x ∧ x ≤ 100) : pctOf c x = c * x / 100 ∧ 0 ≤ c * x ∧ c * x ≤ c * 100 := by
  have h1 : 0 ≤ c * x := Int.mul_nonneg hc.1 hx.1
  have h2 : c * x ≤ c * 100 := Int.mul_le_mul_of_nonneg_left hx.2 hc.1
  refine ⟨?_, h1, h2⟩
  unfold pctOf
  rw [IntWalk.wrap64_in (c * x) ⟨by omega, by omega⟩, Int.tdiv_eq_ediv_of_nonneg h1, IntWalk.wrap64_in _ ⟨by omega, by omega⟩]
theorem refundAt_lt {du en : Int} {ps : List Int} (h : pctsB ps = true) (he : ¬ en ≤ du) : refundAt du en ps < ps.length := by
  have := (pcts_get h).1
  unfold refundAt
  split <;> omega
theorem refundV_fact (ch du en : Int) (ps : List Int) : 0 ≤ refundV ch du en ps ∧ (0 < refundV ch du en ps → refundV ch du en ps ≤ ch ∧ du < en) := by
  unfold refundV
  split
  · rename_i h
    simp only [refundOk, Bool.and_eq_true, Bool.not_eq_true', decide_eq_false_iff_not] at h
    obtain ⟨⟨⟨⟨h1, h2⟩, h3⟩, h4⟩, h5⟩ := h
    have e := pctOf_in (inB_true h2) (pcts_in h1 (refundAt_lt h1 h5))
    rw [e.1]
    omega
  · omega
theorem refundV_up (ch du en en2 : Int) (ps : List Int) (h : en ≤ en2) (h2 : en2 ≤ 200000) : refundV ch du en ps ≤ refundV ch du en2 ps := by
  by_cases hk : refundOk ch du en ps = true
  · have hk' := hk
    simp only [refundOk, Bool.and_eq_true, Bool.not_eq_true', decide_eq_false_iff_not] at hk
    obtain ⟨⟨⟨⟨h1, h3⟩, h4⟩, h5⟩, h6⟩ := hk
    have b5 := inB_true h5
    have hk2 : refundOk ch du en2 ps = true := by
      simp only [refundOk, Bool.and_eq_true, Bool.not_eq_true', decide_eq_false_iff_not]
      exact ⟨⟨⟨⟨h1, h3⟩, h4⟩, inB_of ⟨by omega, h2⟩⟩, by omega⟩
    simp only [refundV, hk', hk2, if_true]
    have l1 := refundAt_lt h1 h6
    have l2 := refundAt_lt (en := en2) h1 (show ¬ en2 ≤ du by omega)
    have hle : refundAt du en ps ≤ refundAt du en2 ps := by
      have := (pcts_get h1).1
      unfold refundAt
      split <;> split <;> omega
    have hm := pcts_up h1 (refundAt du en2 ps - refundAt du en ps) (refundAt du en ps) (by omega)
    rw [show refundAt du en ps + (refundAt du en2 ps - refundAt du en ps) = refundAt du en2 ps by omega] at hm
    have e1 := pctOf_in (inB_true h3) (pcts_in h1 l1)
    have e2 := pctOf_in (inB_true h3) (pcts_in h1 l2)
    rw [e1.1, e2.1]
    have := Int.mul_le_mul_of_nonneg_left hm (inB_true h3).1
    omega
  · have h0 : refundV ch du en ps = 0 := by simp [refundV, hk]
    rw [h0]
    exact (refundV_fact ch du en2 ps).1
end Go.Proofs.Ytapllnlclgbbkaa
