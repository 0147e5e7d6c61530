/- What the law FnGiven asks of the plain refund of an order: no program in sight. -/
import Derived.Test.YtapllnlclgbbkaaP1
namespace Go.Proofs.Ytapllnlclgbbkaa
set_option maxRecDepth 10000
open Go.RowKit
theorem sumLn_snoc (xs : List Ln) (x : Ln) (o k : Int) : sumLn (xs ++ [x]) o k = sumStep o k (sumLn xs o k) x := by simp [sumLn, List.foldl_append]
theorem cashLn_snoc (xs : List Ln) (x : Ln) : cashLn (xs ++ [x]) = cashStep (cashLn xs) x := by simp [cashLn, List.foldl_append]
theorem lines_last {xs : List Ln} {x : Ln} (h : linesB (xs ++ [x]) = true) : fitB xs x = true := by
  simp only [linesB, Bool.and_eq_true] at h
  have h2 := allTo_iff.1 h.2 xs.length (by simp)
  simp only [lineAt, Bool.and_eq_true] at h2
  have e1 : (xs ++ [x]).getD xs.length default = x := by simp
  have e2 : (xs ++ [x]).take xs.length = xs := by simp
  rw [e1, e2] at h2
  exact h2.2
theorem lines_amounts {xs : List Ln} (h : linesB xs = true) : (∀ x ∈ xs, 1 ≤ x.a ∧ x.a ≤ 100000) ∧ xs.length ≤ 200 := by
  simp only [linesB, Bool.and_eq_true, decide_eq_true_eq] at h
  have := take_amounts h.2
  rw [List.take_length] at this
  exact ⟨this, h.1⟩
theorem sum_in {xs : List Ln} (h : linesB xs = true) (o k : Int) : 0 ≤ sumLn xs o k ∧ sumLn xs o k ≤ 20000000 := by
  obtain ⟨h1, h2⟩ := lines_amounts h
  have := cnt_sum o k h1 h2
  omega
structure Given (xs : List Ln) (o du en : Int) (ps : List Int) (t n : Int) (ys : List Ln) : Prop where
  again : (refundO ys o du en ps t).2 = 2
  pos : 0 < n
  cash : cashV ys = wrap64 (cashV xs - n)
  owed : owedV ys o = 0
  paid : n ≤ sumLn ys o 2
  lines : linesB ys = true
theorem postV_shape (xs : List Ln) (x : Ln) : (∃ c, postV xs x = (xs, c)) ∨ postV xs x = (xs ++ [x], 0) := by
  unfold postV
  split
  · exact .inl ⟨_, rfl⟩
  · split
    · exact .inr rfl
    · exact .inl ⟨_, rfl⟩
theorem refundO_shape (xs : List Ln) (o du en t : Int) (ps : List Int) : (∃ c, refundO xs o du en ps t = (xs, c)) ∨ refundO xs o du en ps t = postV xs ⟨o, 3, refundV (sumLn xs o 1) du en ps, t⟩ := by
  unfold refundO
  repeat (split; · exact .inl ⟨_, rfl⟩)
  exact .inr rfl
theorem refundO_no {xs : List Ln} {o du en t : Int} {ps : List Int} (h : (refundO xs o du en ps t).2 ≠ 0) : (refundO xs o du en ps t).1.length = xs.length := by
  rcases refundO_shape xs o du en t ps with ⟨c, e⟩ | e
  · rw [e]
  · rw [e] at h ⊢
    rcases postV_shape xs ⟨o, 3, refundV (sumLn xs o 1) du en ps, t⟩ with ⟨c, e2⟩ | e2
    · rw [e2]
    · rw [e2] at h
      exact absurd rfl h
theorem given_law {xs : List Ln} {o du en t : Int} {ps : List Int} (h : (refundO xs o du en ps t).2 = 0) :
    Given xs o du en ps t (refundV (sumLn xs o 1) du en ps) (refundO xs o du en ps t).1 := by
  cases h0 : linesB xs with
  | false => simp [refundO, h0] at h
  | true =>
  cases h1 : pctsB ps with
  | false => simp [refundO, h0, h1] at h
  | true =>
  cases h2 : inB o 1 9999 with
  | false => simp [refundO, h0, h1, h2] at h
  | true =>
  cases h3 : inB t 0 100000 with
  | false => simp [refundO, h0, h1, h2, h3] at h
  | true =>
  cases h4 : (sumLn xs o 1 == 0) with
  | true => simp [refundO, h0, h1, h2, h3, h4] at h
  | false =>
  cases h5 : decide (0 < owedV xs o) with
  | true => simp [refundO, h0, h1, h2, h3, h4, h5] at h
  | false =>
  cases h6 : decide (0 < sumLn xs o 3) with
  | true => simp [refundO, h0, h1, h2, h3, h4, h5, h6] at h
  | false =>
  cases h7 : (refundV (sumLn xs o 1) du en ps == 0) with
  | true => simp [refundO, h0, h1, h2, h3, h4, h5, h6, h7] at h
  | false =>
  have hR : refundO xs o du en ps t = postV xs ⟨o, 3, refundV (sumLn xs o 1) du en ps, t⟩ := by simp only [refundO, h0, h1, h2, h3, h4, h5, h6, h7]; rfl
  rw [hR] at h ⊢
  have hn := (refundV_fact (sumLn xs o 1) du en ps).1
  generalize refundV (sumLn xs o 1) du en ps = n at h h7 hn ⊢
  have hn0 : 0 < n := by
    have : n ≠ 0 := by simpa using h7
    omega
  by_cases hf : 200 ≤ xs.length
  · simp [postV_full hf] at h
  cases h8 : linesB (xs ++ [⟨o, 3, n, t⟩]) with
  | false => simp [postV_bad hf h8] at h
  | true =>
  rw [postV_ok hf h8]
  have hfit := lines_last h8
  rw [fit3 rfl] at hfit
  simp only [Bool.and_eq_true, Bool.not_eq_true', decide_eq_false_iff_not, beq_iff_eq] at hfit
  obtain ⟨⟨_, hpay⟩, hle⟩ := hfit
  have s1 : sumLn (xs ++ [⟨o, 3, n, t⟩]) o 1 = sumLn xs o 1 := by rw [sumLn_snoc]; simp [sumStep]
  have s2 : sumLn (xs ++ [⟨o, 3, n, t⟩]) o 2 = sumLn xs o 2 := by rw [sumLn_snoc]; simp [sumStep]
  have b1 := sum_in h0 o 1
  have b3 := sum_in h0 o 3
  have h60 : ¬ 0 < sumLn xs o 3 := by simpa using h6
  have s3 : sumLn (xs ++ [⟨o, 3, n, t⟩]) o 3 = n := by
    rw [sumLn_snoc]
    have : sumLn xs o 3 = 0 := by omega
    simp only [sumStep, this]
    simp
    exact IntWalk.wrap64_in _ ⟨by omega, by omega⟩
  have howed : owedV (xs ++ [⟨o, 3, n, t⟩]) o = 0 := by
    rw [owedV_ok h8, s1, s2, hpay, Int.sub_self]
    exact IntWalk.wrap64_in 0 ⟨by omega, by omega⟩
  refine ⟨?_, hn0, ?_, howed, by rw [s2, hpay]; omega, h8⟩
  · have h40 : (sumLn (xs ++ [⟨o, 3, n, t⟩]) o 1 == 0) = false := by rw [s1]; exact h4
    have h50 : decide (0 < owedV (xs ++ [⟨o, 3, n, t⟩]) o) = false := by rw [howed]; rfl
    have h61 : decide (0 < sumLn (xs ++ [⟨o, 3, n, t⟩]) o 3) = true := by rw [s3]; simpa using hn0
    simp only [refundO, h8, h1, h2, h3, h40, h50, h61]
    rfl
  · rw [cashV_ok h8, cashV_ok h0, cashLn_snoc]
    rfl
end Go.Proofs.Ytapllnlclgbbkaa
