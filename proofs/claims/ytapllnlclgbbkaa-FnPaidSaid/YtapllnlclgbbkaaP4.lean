/- What the law FnPaid asks of the plain money functions: no program in sight. -/
import Derived.Test.YtapllnlclgbbkaaP2
import Derived.Test.YtapllnlclgbbkaaP3
namespace Go.Proofs.Ytapllnlclgbbkaa
set_option maxRecDepth 10000
open Go.RowKit
theorem line_get {xs : List Ln} (h : linesB xs = true) {i : Nat} {x : Ln} (hx : xs[i]? = some x) : lineB x.o x.k x.a x.t = true ∧ fitB (xs.take i) x = true := by
  simp only [linesB, Bool.and_eq_true] at h
  have h2 := allTo_iff.1 h.2 i (lt_of_get hx)
  simp only [lineAt, List.getD_eq_getElem?_getD, hx, Option.getD_some, Bool.and_eq_true, Bool.not_eq_true'] at h2
  exact ⟨line_of_bad h2.1, h2.2⟩
theorem sum_other {xs : List Ln} {x : Ln} {o k : Int} (h : ¬ (x.o = o ∧ x.k = k)) : sumLn (xs ++ [x]) o k = sumLn xs o k := by
  rw [sumLn_snoc]
  simp only [sumStep, Bool.and_eq_true, beq_iff_eq]
  rw [if_neg h]
theorem sum_same {xs : List Ln} {x : Ln} {o k : Int} (h1 : x.o = o) (h2 : x.k = k) : sumLn (xs ++ [x]) o k = wrap64 (sumLn xs o k + x.a) := by
  rw [sumLn_snoc]
  simp [sumStep, h1, h2]
theorem sum_take_nonneg {xs : List Ln} (h : linesB xs = true) (i : Nat) (o k : Int) : 0 ≤ sumLn (xs.take i) o k := by
  obtain ⟨h1, h2⟩ := lines_amounts h
  have h3 : (xs.take i).length ≤ 200 := by rw [List.length_take]; omega
  have := cnt_sum o k (fun x hx => h1 x (List.mem_of_mem_take hx)) h3
  omega
theorem sums_inv {xs : List Ln} (h : linesB xs = true) (o : Int) : ∀ i, i ≤ xs.length → sumLn (xs.take i) o 2 ≤ sumLn (xs.take i) o 1 ∧ sumLn (xs.take i) o 1 ≤ 100000 ∧ (sumLn (xs.take i) o 1 ≠ 0 → (1 ≤ o ∧ o ≤ 9999) ∧ ∃ x ∈ xs, x.o = o)
  | 0, _ => by simp [sumLn]
  | i + 1, hi => by
    obtain ⟨x, hx⟩ := get_of_lt (show i < xs.length by omega)
    have ih := sums_inv h o i (by omega)
    obtain ⟨hl, hf⟩ := line_get h hx
    have ha := amount_of hl
    have p1 := sum_take_nonneg h i o 1
    rw [take_snoc hx]
    by_cases ho : x.o = o
    · have hor : 1 ≤ o ∧ o ≤ 9999 := by
        simp only [lineB, Bool.and_eq_true] at hl
        have := inB_true hl.1.1.1
        omega
      have hmem : ∃ y ∈ xs, y.o = o := ⟨x, List.mem_of_getElem? hx, ho⟩
      rcases kind_of hl with hk | hk | hk
      · rw [fit1 hk, ho] at hf
        have h0 : sumLn (xs.take i) o 1 = 0 := by
          have : ¬ 0 < sumLn (xs.take i) o 1 := by simpa using hf
          omega
        rw [sum_same ho hk, sum_other (k := 2) (by rintro ⟨_, e⟩; omega), h0, IntWalk.wrap64_in _ ⟨by omega, by omega⟩]
        exact ⟨by omega, by omega, fun _ => ⟨hor, hmem⟩⟩
      · rw [fit2 hk, ho] at hf
        have h0 : ¬ sumLn (xs.take i) o 1 < wrap64 (sumLn (xs.take i) o 2 + x.a) := by simpa using hf
        rw [sum_same ho hk, sum_other (k := 1) (by rintro ⟨_, e⟩; omega)]
        exact ⟨by omega, ih.2.1, ih.2.2⟩
      · rw [sum_other (k := 1) (by rintro ⟨_, e⟩; omega), sum_other (k := 2) (by rintro ⟨_, e⟩; omega)]
        exact ih
    · rw [sum_other (k := 1) (by rintro ⟨e, _⟩; exact ho e), sum_other (k := 2) (by rintro ⟨e, _⟩; exact ho e)]
      exact ih
theorem lines_snoc {xs : List Ln} {x : Ln} (h : linesB xs = true) (hn : xs.length < 200) (hl : lineB x.o x.k x.a x.t = true) (ht : ∀ y ∈ xs, y.t ≤ x.t) (hf : fitB xs x = true) : linesB (xs ++ [x]) = true := by
  have h' := h
  simp only [linesB, Bool.and_eq_true] at h
  refine linesB_all (by simp; omega) (allTo_iff.2 fun j hj => ?_)
  by_cases hjn : j < xs.length
  · have h2 := allTo_iff.1 h.2 j hjn
    have e1 : (xs ++ [x]).getD j default = xs.getD j default := by simp [List.getD_eq_getElem?_getD, List.getElem?_append_left hjn]
    have e2 : (xs ++ [x]).take j = xs.take j := by rw [List.take_append_of_le_length (by omega)]
    have e3 : (xs ++ [x]).getD (j - 1) default = xs.getD (j - 1) default := by simp [List.getD_eq_getElem?_getD, List.getElem?_append_left (show j - 1 < xs.length by omega)]
    simp only [lineAt, badAt, e1, e2, e3] at h2 ⊢
    exact h2
  · have hj2 : j = xs.length := by simp at hj; omega
    subst hj2
    have e1 : (xs ++ [x])[xs.length]? = some x := by simp
    refine lineAt_ok e1 ?_ (by rw [List.take_append_of_le_length (Nat.le_refl _), List.take_length]; exact hf)
    by_cases h0 : xs.length = 0
    · exact bad_first hl (by omega)
    · obtain ⟨m, hm⟩ : ∃ m, xs.length = m + 1 := ⟨xs.length - 1, by omega⟩
      obtain ⟨y, hy⟩ := get_of_lt (show m < xs.length by omega)
      rw [hm, bad_next hl (show (xs ++ [x])[m]? = some y by rw [List.getElem?_append_left (by omega)]; exact hy)]
      have := ht y (List.mem_of_getElem? hy)
      simp
      omega
theorem mem_opI (l : List Ln) (o : Int) : ∀ (b : List Ln) (u : List Int), o ∈ b.foldl (opStep l) u ↔ o ∈ u ∨ (0 < owedV l o ∧ ∃ x ∈ b, x.o = o)
  | [], u => by simp
  | x :: b, u => by
    rw [List.foldl_cons, mem_opI l o b]
    unfold opStep
    by_cases h1 : decide (0 < owedV l x.o) = true
    · have h1' : 0 < owedV l x.o := by simpa using h1
      rw [if_pos h1]
      by_cases h2 : hasI u x.o = true
      · rw [if_pos h2]
        have h3 := hasI_mem.1 h2
        constructor
        · rintro (h | ⟨h, y, hy, e⟩)
          · exact .inl h
          · exact .inr ⟨h, y, List.mem_cons_of_mem _ hy, e⟩
        · rintro (h | ⟨h, y, hy, e⟩)
          · exact .inl h
          · rcases List.mem_cons.1 hy with hy | hy
            · subst hy; subst e; exact .inl h3
            · exact .inr ⟨h, y, hy, e⟩
      · rw [if_neg h2]
        constructor
        · rintro (h | ⟨h, y, hy, e⟩)
          · rcases List.mem_append.1 h with h | h
            · exact .inl h
            · have e : o = x.o := by simpa using h
              subst e
              exact .inr ⟨h1', x, List.mem_cons_self, rfl⟩
          · exact .inr ⟨h, y, List.mem_cons_of_mem _ hy, e⟩
        · rintro (h | ⟨h, y, hy, e⟩)
          · exact .inl (List.mem_append_left _ h)
          · rcases List.mem_cons.1 hy with hy | hy
            · subst hy; subst e; exact .inl (List.mem_append_right _ (by simp))
            · exact .inr ⟨h, y, hy, e⟩
    · rw [if_neg h1]
      constructor
      · rintro (h | ⟨h, y, hy, e⟩)
        · exact .inl h
        · exact .inr ⟨h, y, List.mem_cons_of_mem _ hy, e⟩
      · rintro (h | ⟨h, y, hy, e⟩)
        · exact .inl h
        · rcases List.mem_cons.1 hy with hy | hy
          · subst hy; subst e; exact absurd (by simpa using h) h1
          · exact .inr ⟨h, y, hy, e⟩
theorem mem_openV (l : List Ln) (o : Int) : hasI (openV l) o = true ↔ 0 < owedV l o ∧ ∃ x ∈ l, x.o = o := by
  rw [hasI_mem, ← open_law, srt, (List.mergeSort_perm _ _).mem_iff]
  unfold opI
  rw [mem_opI, List.take_length]
  simp
structure Paid (l : List Ln) (o owed : Int) (ys : List Ln) : Prop where
  lines : linesB ys = true
  owed0 : owedV ys o = 0
  again : payV ys o 1 100000 = (ys, 4)
  twice : chargeV ys o 5 100000 = (ys, 2)
  cash : cashV ys = wrap64 (cashV l + owed)
  gone : hasI (openV ys) o = false
  was : hasI (openV l) o = true
theorem paid_zero (l : List Ln) (o : Int) : payV l o 0 100000 = (l, 1) := by
  unfold payV
  split
  · rfl
  · have : lineB o 2 0 100000 = false := by simp [lineB, inB]
    rw [if_pos this]
theorem paid_law {l : List Ln} {o : Int} (h : linesB l = true) (hn : l.length ≤ 197) (h0 : owedV l o ≠ 0) : payV l o (owedV l o) 100000 = (l ++ [⟨o, 2, owedV l o, 100000⟩], 0) ∧ Paid l o (owedV l o) (l ++ [⟨o, 2, owedV l o, 100000⟩]) := by
  have inv := sums_inv h o l.length (Nat.le_refl _)
  rw [List.take_length] at inv
  have p2 := sum_in h o 2
  have e : owedV l o = sumLn l o 1 - sumLn l o 2 := by rw [owedV_ok h, IntWalk.wrap64_in _ ⟨by omega, by omega⟩]
  have hs : sumLn l o 1 ≠ 0 := by omega
  obtain ⟨hor, hmem⟩ := inv.2.2 hs
  have hw : 0 < owedV l o ∧ owedV l o ≤ 100000 := by omega
  have hline : lineB o 2 (owedV l o) 100000 = true := by
    simp only [lineB, Bool.and_eq_true]
    exact ⟨⟨⟨inB_of hor, inB_of (by omega)⟩, inB_of (by omega)⟩, inB_of (by omega)⟩
  have hline1 : lineB o 2 1 100000 = true := by
    simp only [lineB, Bool.and_eq_true]
    exact ⟨⟨⟨inB_of hor, inB_of (by omega)⟩, inB_of (by omega)⟩, inB_of (by omega)⟩
  have hline5 : lineB o 1 5 100000 = true := by
    simp only [lineB, Bool.and_eq_true]
    exact ⟨⟨⟨inB_of hor, inB_of (by omega)⟩, inB_of (by omega)⟩, inB_of (by omega)⟩
  have hwas : hasI (openV l) o = true := (mem_openV l o).2 ⟨hw.1, hmem⟩
  have hfit : fitB l ⟨o, 2, owedV l o, 100000⟩ = true := by
    rw [fit2 rfl]
    have : wrap64 (sumLn l o 2 + owedV l o) = sumLn l o 1 := by rw [e, IntWalk.wrap64_in _ ⟨by omega, by omega⟩]; omega
    simp [this]
  have ht : ∀ y ∈ l, y.t ≤ 100000 := by
    intro y hy
    obtain ⟨i, hi⟩ := List.getElem?_of_mem hy
    have := (line_get h hi).1
    simp only [lineB, Bool.and_eq_true] at this
    exact (inB_true this.2).2
  have hl2 : linesB (l ++ [⟨o, 2, owedV l o, 100000⟩]) = true := lines_snoc h (by omega) hline ht hfit
  have s1 : sumLn (l ++ [⟨o, 2, owedV l o, 100000⟩]) o 1 = sumLn l o 1 := sum_other (by rintro ⟨_, e9⟩; cases e9)
  have s2 : sumLn (l ++ [⟨o, 2, owedV l o, 100000⟩]) o 2 = sumLn l o 1 := by
    rw [sum_same rfl rfl]
    show wrap64 (sumLn l o 2 + owedV l o) = _
    rw [e, IntWalk.wrap64_in _ ⟨by omega, by omega⟩]
    omega
  have how : owedV (l ++ [⟨o, 2, owedV l o, 100000⟩]) o = 0 := by
    rw [owedV_ok hl2, s1, s2, Int.sub_self]
    exact IntWalk.wrap64_in 0 ⟨by omega, by omega⟩
  have hs1 : (sumLn l o 1 == 0) = false := by simpa using hs
  refine ⟨?_, hl2, how, ?_, ?_, ?_, ?_, hwas⟩
  · have h9 : decide (owedV l o < owedV l o) = false := by simp
    simp only [payV, h, hline, hs1, h9]
    exact postV_ok (by omega) hl2
  · have h9 : decide (owedV (l ++ [⟨o, 2, owedV l o, 100000⟩]) o < 1) = true := by rw [how]; rfl
    have h8 : (sumLn (l ++ [⟨o, 2, owedV l o, 100000⟩]) o 1 == 0) = false := by rw [s1]; exact hs1
    simp only [payV, hl2, hline1, h8, h9]
    rfl
  · have h8 : decide (0 < sumLn (l ++ [⟨o, 2, owedV l o, 100000⟩]) o 1) = true := by rw [s1]; simp; omega
    simp only [chargeV, hl2, hline5, h8]
    rfl
  · rw [cashV_ok hl2, cashV_ok h, cashLn_snoc]
    rfl
  · cases hb : hasI (openV (l ++ [⟨o, 2, owedV l o, 100000⟩])) o with
    | false => rfl
    | true =>
      have := ((mem_openV _ o).1 hb).1
      omega
end Go.Proofs.Ytapllnlclgbbkaa
