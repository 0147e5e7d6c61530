/- What the two orders of open orders come to: the same list. No program in sight. -/
import Derived.Test.YtapllnlclgbbkaaH4
namespace Go.Proofs.Ytapllnlclgbbkaa
set_option maxRecDepth 10000
open Go.RowKit
theorem insAt_lt {x id : Int} {out : List Int} (h : x < id) : insAt (x :: out) id = insAt out id + 1 := by simp [insAt, h]
theorem insAt_ge {x id : Int} {out : List Int} (h : ¬ x < id) : insAt (x :: out) id = 0 := by simp [insAt, h]
theorem insI_lt {x id : Int} {out : List Int} (h : x < id) : insI (x :: out) id = x :: insI out id := by simp [insI, insAt_lt h]
theorem insI_ge {x id : Int} {out : List Int} (h : ¬ x < id) : insI (x :: out) id = id :: x :: out := by simp [insI, insAt_ge h]
theorem insI_perm (out : List Int) (id : Int) : (insI out id).Perm (id :: out) := by
  unfold insI
  rw [List.append_assoc]
  refine (List.perm_append_comm_assoc _ _ _).trans ?_
  rw [List.take_append_drop]
  exact List.Perm.refl _
theorem hasAt_mem : ∀ {out : List Int} {id : Int}, out.Pairwise (· < ·) → (hasAt out (insAt out id) id = true ↔ id ∈ out)
  | [], id, _ => by simp [hasAt]
  | x :: out, id, hp => by
    obtain ⟨h1, h2⟩ := List.pairwise_cons.1 hp
    by_cases h : x < id
    · rw [insAt_lt h]
      have ih := hasAt_mem (out := out) (id := id) h2
      have e : hasAt (x :: out) (insAt out id + 1) id = hasAt out (insAt out id) id := by simp [hasAt]
      rw [e, ih]
      have : ¬ id = x := by omega
      simp [this]
    · rw [insAt_ge h]
      have e : hasAt (x :: out) 0 id = (x == id) := by simp [hasAt]
      rw [e]
      constructor
      · intro h3
        have : x = id := by simpa using h3
        simp [this]
      · intro h3
        rcases List.mem_cons.1 h3 with h4 | h4
        · simp [h4]
        · have := h1 id h4
          omega
theorem insI_sorted : ∀ {out : List Int} {id : Int}, out.Pairwise (· < ·) → id ∉ out → (insI out id).Pairwise (· < ·)
  | [], id, _, _ => by simp [insI]
  | x :: out, id, hp, hn => by
    obtain ⟨h1, h2⟩ := List.pairwise_cons.1 hp
    simp only [List.mem_cons, not_or] at hn
    by_cases h : x < id
    · rw [insI_lt h]
      refine List.pairwise_cons.2 ⟨fun y hy => ?_, insI_sorted h2 hn.2⟩
      rcases List.mem_cons.1 ((insI_perm out id).mem_iff.1 hy) with h3 | h3
      · omega
      · exact h1 y h3
    · rw [insI_ge h]
      refine List.pairwise_cons.2 ⟨fun y hy => ?_, hp⟩
      rcases List.mem_cons.1 hy with h3 | h3
      · omega
      · have := h1 y h3
        omega
theorem hasI_mem {xs : List Int} {o : Int} : hasI xs o = true ↔ o ∈ xs := by
  simp only [hasI, List.any_eq_true]
  constructor
  · rintro ⟨x, hx, he⟩
    have : x = o := by simpa using he
    exact this ▸ hx
  · intro h
    exact ⟨o, h, by simp⟩
theorem open_both (l : List Ln) : ∀ (b : List Ln) (u v : List Int), v.Pairwise (· < ·) → v.Perm u → (b.foldl (opsStep l) v).Pairwise (· < ·) ∧ (b.foldl (opsStep l) v).Perm (b.foldl (opStep l) u)
  | [], u, v, h1, h2 => ⟨h1, h2⟩
  | x :: b, u, v, h1, h2 => by
    simp only [List.foldl_cons]
    refine open_both l b _ _ ?_ ?_ <;> unfold opsStep
    · by_cases h3 : decide (0 < owedV l x.o) = true
      · by_cases h4 : hasAt v (insAt v x.o) x.o = true
        · rw [if_pos h3, if_pos h4]; exact h1
        · rw [if_pos h3, if_neg h4]
          exact insI_sorted h1 (fun h => h4 ((hasAt_mem h1).2 h))
      · rw [if_neg h3]; exact h1
    · unfold opStep
      by_cases h3 : decide (0 < owedV l x.o) = true
      · by_cases h4 : hasAt v (insAt v x.o) x.o = true
        · have h5 : hasI u x.o = true := hasI_mem.2 (h2.mem_iff.1 ((hasAt_mem h1).1 h4))
          rw [if_pos h3, if_pos h3, if_pos h4, if_pos h5]; exact h2
        · have h5 : ¬ hasI u x.o = true := fun h => h4 ((hasAt_mem h1).2 (h2.mem_iff.2 (hasI_mem.1 h)))
          rw [if_pos h3, if_pos h3, if_neg h4, if_neg h5]
          exact (insI_perm v x.o).trans ((List.Perm.cons x.o h2).trans (List.perm_append_comm (l₁ := [x.o])))
      · rw [if_neg h3, if_neg h3]; exact h2
theorem srt_eq {u v : List Int} (h1 : v.Pairwise (· < ·)) (h2 : v.Perm u) : srt u = v := by
  refine List.Perm.eq_of_pairwise (le := fun a b : Int => a ≤ b) (fun a b _ _ h3 h4 => Int.le_antisymm h3 h4) ?_ ?_ ((List.mergeSort_perm u _).trans h2.symm)
  · refine (List.pairwise_mergeSort (le := fun x y : Int => decide (x ≤ y)) ?_ ?_ u).imp ?_
    · intro a b c h3 h4
      simp only [decide_eq_true_eq] at *
      omega
    · intro a b
      simp only [Bool.or_eq_true, decide_eq_true_eq]
      omega
    · intro a b h3
      simpa using h3
  · exact h1.imp (fun h => Int.le_of_lt h)
theorem opI_none {l : List Ln} (h : linesB l = false) : ∀ b : List Ln, b.foldl (opStep l) [] = [] := by
  intro b
  induction b with
  | nil => rfl
  | cons x b ih =>
    rw [List.foldl_cons, show opStep l [] x = [] by simp [opStep, owedV_no h]]
    exact ih
def openV (l : List Ln) : List Int := if linesB l = true then opS l l.length else []
theorem open_law (l : List Ln) : srt (opI l l.length) = openV l := by
  unfold openV
  by_cases h : linesB l = true
  · rw [if_pos h]
    have hb := open_both l (l.take l.length) [] [] List.Pairwise.nil (List.Perm.refl _)
    exact srt_eq hb.1 hb.2
  · rw [if_neg h]
    have : opI l l.length = [] := opI_none (by simpa using h) _
    rw [this]
    simp [srt]
theorem openV_len (l : List Ln) : (openV l).length ≤ l.length := by
  unfold openV
  split
  · exact opS_len l l.length
  · simp
end Go.Proofs.Ytapllnlclgbbkaa
