/- A part of the proof of the statement in the last file of this claim: texts on the language of the program and on its functions. No condition. -/
import Derived.Test.YtkfbakhnpfmfmaaGreatDoorCParseAct7
set_option linter.unusedVariables false
set_option linter.unusedSimpArgs false
set_option linter.unusedSectionVars false
namespace Go.Proofs.YtkfbakhnpfmfmaaGreatDoor
set_option maxRecDepth 10000
open Go.RowKit
set_option linter.unusedVariables false
set_option linter.unusedSimpArgs false
theorem ans_actF {F : YAct → Option ByteArray} {a : YAct} (hI : ActI a) (h : m_impl_IsAct a = some true) : ActF a := act_inv (by have := hI.1.2.2.1; unfold B60; omega) (by have := hI.1.2.2.2.1; unfold B60; omega) (by have := hI.1.2.2.2.2.2.1; unfold NN; omega) h
theorem parse_both {s : ByteArray} (hs : s.size ≤ 1048576) : ∃ r : YAct × Bool, m_o_spec_ParseAct s = some r ∧ m_o_impl_ParseAct s = some r ∧ (r = (zA, false) ∨ ActF r.1) := by
  obtain ⟨⟨a, b⟩, ha, hA, hA2⟩ := impl_parse hs
  obtain ⟨⟨c, d⟩, hc, hC, hC2⟩ := spec_parse hs
  have eqI : ∀ {x : YAct}, ActI x → ∃ v, m_impl_IsAct x = some v ∧ m_spec_IsAct x = some v := fun hI => act_eq (by have := hI.1.2.2.1; unfold B60; omega) (by have := hI.1.2.2.2.1; unfold B60; omega) (by have := hI.1.2.2.2.2.2.1; unfold NN; omega)
  rcases hA with e | ⟨e, hI, hF⟩
  · rcases hC with e2 | ⟨e2, hI2, hF2⟩
    · exact ⟨_, by rw [hc, e2], by rw [ha, e], .inl rfl⟩
    · exfalso
      obtain ⟨v, v1, v2⟩ := eqI hI2
      have h1 := hC2 e2
      obtain rfl : v = true := Option.some.inj (v2.symm.trans h1)
      obtain ⟨s', h⟩ := act_rt (ans_actF (F := m_spec_FormatAct) hI2 v1) v1 h1
      obtain rfl : s' = s := Option.some.inj (h.fs.symm.trans hF2)
      rw [h.pi] at ha
      injection ha with ha
      rw [← ha] at e
      cases e
  · obtain ⟨v, v1, v2⟩ := eqI hI
    cases v with
    | false =>
      exfalso
      simp only at hF v1
      unfold m_impl_FormatAct at hF
      rw [v1] at hF
      have := hA2 e
      rw [← Option.some.inj hF] at this
      exact absurd this (by decide)
    | true =>
      have hX := ans_actF (F := m_impl_FormatAct) hI v1
      obtain ⟨s', h⟩ := act_rt hX v1 v2
      obtain rfl : s' = s := Option.some.inj (h.fi.symm.trans hF)
      exact ⟨(a, true), h.ps, h.pi, .inr hX⟩
theorem actF_tot {a : YAct} (h : ActF a) : totAct a ≤ 1000 ∧ a.parcel.sides.length ≤ 3 := by
  have e : totAct a = a.parcel.label.to_.size + a.parcel.from_.size + a.parcel.sides.length := rfl
  rw [e]
  cases h with
  | take p n g =>
    obtain ⟨x, y, z, hs, _⟩ := g.sd
    have := g.to3
    have := g.fr.1
    simp only [hs, List.length_cons, List.length_nil]
    omega
  | _ => exact ⟨show (0 : Nat) + 0 + 0 ≤ 1000 by decide, Nat.zero_le _⟩
theorem lawFnExactParseAct (s : ByteArray) : CallOk Tryz.prog 3 [vs s] (vb true) [] := by
  refine ok_laws_FnExactParseAct s ?_
  unfold m_laws_FnExactParseAct
  by_cases hs : 1048576 < (s.size : Int)
  · rw [decide_eq_true hs]; rfl
  obtain ⟨⟨a, b⟩, h1, h2, h3⟩ := parse_both (s := s) (by omega)
  have ht : totAct a ≤ 1000 ∧ a.parcel.sides.length ≤ 3 := by
    rcases h3 with h | h
    · cases h; exact ⟨by decide, by decide⟩
    · exact actF_tot h
  have e1 := eqr_Act a (by omega)
  have mk := markIntS_eq a.parcel.sides 1 (by omega) (by omega) (by omega)
  have hd := heldIntS_eq 1 a.parcel.sides.length (by omega) (by omega) (by omega)
  have d1 : decide ((1 : Int) + (a.parcel.sides.length : Int) < 0) = false := decide_eq_false (by omega)
  rw [decide_eq_false hs]
  simp only [h1, h2, e1, Option.bind_some, cond_false, Bool.not_true, beq_self_eq_true, rhoM, m_p0_laws_markAct, m_p0_laws_markParcel, mk, m_laws_heldAct, m_laws_heldParcel, hd, d1, decide_true]
end Go.Proofs.YtkfbakhnpfmfmaaGreatDoor
