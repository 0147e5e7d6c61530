/- Small lemmas of my own on the reading of a law's arguments: what can be read as data is a list of values of a codec. No program in sight. -/
import Derived.Test.YtooikkfldddjfaaKit
import Derived.ProofKit
import Derived.Deep.Slices
import Derived.Deep.Fields
import Derived.ChangeOld
import Derived.ChangeSame
namespace Go.Proofs.Ytooikkfldddjfaa
set_option maxRecDepth 10000
open Go.ChangeShapes Go.WideShapes Go.ChangeAt Go.RowKit Go.Deep

section
variable {H : Type} {enc : TypeId × Value → H} {P : Program} {w : World} {base : Nat} {spare : Nat → Bool} {held : Bool}

/-- What a type's cells that can be read as data are: the cells of some value of the codec, which is in order. -/
def Decodes (P : Program) (t : TypeId) {α : Type} [Enc α] (ok : α → Prop) : Prop :=
  ∀ {H : Type} {enc : TypeId × Value → H} {w : World} {base : Nat} {spare : Nat → Bool} {held : Bool} {fuel : Nat} {cs : List Value} {x : DataW H × List MemPlace},
    DataW.trod enc P w base spare held fuel t cs = some x → ∃ a : α, cs = Enc.cells a ∧ ok a

theorem field_of {t : TypeId} {fs : Array Field} {fuel : Nat} {cs : List Value} {x : DataW H × List MemPlace} (ht : P.underlying t = some (.struct fs))
    (h : DataW.trod enc P w base spare held fuel t cs = some x) (j : Nat) (f : Field) (hf : fs[j]? = some f) :
    ∃ y n, DataW.trod enc P w base spare held n f.type ((cs.drop f.offset).take (P.cellsOf f.type)) = some y := by
  obtain ⟨xs, n, _, _, _, hlen, hg⟩ := DataW.trod_struct ht h
  have hj : j < xs.length := by rw [hlen]; exact (Array.getElem?_eq_some_iff.1 hf).1
  exact ⟨xs[j], n, (hg j f hf).trans (List.getElem?_eq_getElem hj)⟩
theorem len_of {t : TypeId} {fs : Array Field} {fuel : Nat} {cs : List Value} {x : DataW H × List MemPlace} (ht : P.underlying t = some (.struct fs))
    (h : DataW.trod enc P w base spare held fuel t cs = some x) : cs.length = P.cellsOf t := by
  obtain ⟨xs, n, _, _, hl, _, _⟩ := DataW.trod_struct ht h
  exact hl
theorem inI_of_wf {n : Int} (h : (Lit.int .i64 n).wf = true) : InI n := by
  simp [Lit.wf, IntKind.min, IntKind.max, IntKind.signed, IntKind.bits] at h
  exact ⟨by omega, by omega⟩
theorem int_of {t : TypeId} {fuel : Nat} {cs : List Value} {x : DataW H × List MemPlace} (ht : P.underlying t = some (.int .i64)) (h : DataW.trod enc P w base spare held fuel t cs = some x) : ∃ n, cs = [I n] ∧ InI n := by
  obtain ⟨n, e, _, hw⟩ := DataW.trod_int ht h
  exact ⟨n, e, inI_of_wf hw⟩
theorem str_of {t : TypeId} {fuel : Nat} {cs : List Value} {x : DataW H × List MemPlace} (ht : P.underlying t = some .string) (h : DataW.trod enc P w base spare held fuel t cs = some x) : ∃ s, cs = [.string s] ∧ s.size ≤ maxLen := by
  obtain ⟨s, e, _, hw⟩ := DataW.trod_string ht h
  exact ⟨s, e, hw⟩

theorem add_add' (a : Addr) (i j : Nat) : (a.add i).add j = a.add (i + j) := by
  unfold Addr.add
  by_cases hi : i = 0 <;> by_cases hj : j = 0 <;> simp [hi, hj, Nat.add_assoc]

/-- A slice that can be read as data reads as a list of values of the codec. -/
theorem open_flat {α : Type} [Enc α] {ok : α → Prop} {t e : TypeId} {fuel : Nat} {A : Option Addr} {n c : Nat} {x : DataW H × List MemPlace} (ht : P.underlying t = some (.slice e)) (hC : P.cellsOf e = Enc.k α)
    (hdec : Decodes P e ok) (h : DataW.trod enc P w base spare held fuel t [.slice A n c] = some x) :
    ∃ xs : List α, n = xs.length ∧ Rd w w.heap.size A xs ∧ (∀ a ∈ xs, ok a) ∧ n ≤ c ∧ c ≤ maxLen := by
  rcases open_slice ht h with ⟨hcs, _⟩ | ⟨a, len, cap, m, k, D, Pl, hcs, _, hl, hm, hmm, _, hi⟩
  · simp at hcs
    obtain ⟨rfl, rfl, rfl⟩ := hcs
    exact ⟨[], rfl, Rd.nil_, by simp, by omega, by unfold maxLen; omega⟩
  · simp at hcs
    obtain ⟨rfl, rfl, rfl⟩ := hcs
    have hnm : n ≤ m := by rw [hmm]; split <;> omega
    have hex : ∀ i : Fin n, ∃ a' : α, ok a' ∧ ∀ j u, (Enc.cells a')[j]? = some u → w.cell? (a.add (i * Enc.k α + j)) = some u := by
      intro i
      obtain ⟨cs', hc, htr⟩ := hi i (by omega)
      obtain ⟨a', rfl, hok⟩ := hdec htr
      rw [hC] at hc
      obtain ⟨_, hcl, hat⟩ := World.cells?_some hc
      refine ⟨a', hok, fun j u hu => ?_⟩
      have hj : j < Enc.k α := by rw [← Enc.len a']; exact (List.getElem?_eq_some_iff.1 hu).1
      have := hat j hj
      rw [add_add'] at this
      rw [this, hu]
    obtain ⟨f, hf⟩ := Classical.axiomOfChoice hex
    refine ⟨List.ofFn f, by simp, ?_, ?_, hl, hm⟩
    · intro hne
      have hpos : 0 < n := by
        rcases Nat.eq_zero_or_pos n with h0 | h0
        · subst h0; simp at hne
        · exact h0
      have hk := Enc.pos (α := α)
      have hc0 : (Enc.cells (f ⟨0, hpos⟩))[0]? = some ((Enc.cells (f ⟨0, hpos⟩))[0]'(by rw [Enc.len]; exact hk)) := List.getElem?_eq_getElem _
      have h0 := (hf ⟨0, hpos⟩).2 0 _ hc0
      have hs := World.cell?_spot h0
      have hb := World.block_lt_of_cell? _ _ h0
      obtain ⟨b, off, spot⟩ := a
      have hadd : ∀ q, (⟨b, off, none⟩ : Addr).add q = ⟨b, off + q, none⟩ := fun q => by unfold Addr.add; split <;> simp_all
      have hspot : spot = none := by simpa [Addr.add] using hs
      subst hspot
      rw [hadd] at hb
      refine ⟨b, off, rfl, hb, fun j u hu => ?_⟩
      have hjl : j < (flat (List.ofFn f)).length := (List.getElem?_eq_some_iff.1 hu).1
      rw [flat_len] at hjl
      simp only [List.length_ofFn] at hjl
      have hq : j / Enc.k α < n := by rw [Nat.div_lt_iff_lt_mul hk]; exact hjl
      have hr := Nat.mod_lt j hk
      have hx : (List.ofFn f)[j / Enc.k α]? = some (f ⟨j / Enc.k α, hq⟩) := by simp [hq]
      have hcr : (Enc.cells (f ⟨j / Enc.k α, hq⟩))[j % Enc.k α]? = some ((Enc.cells (f ⟨j / Enc.k α, hq⟩))[j % Enc.k α]'(by rw [Enc.len]; exact hr)) := List.getElem?_eq_getElem _
      have hfl := flat_at hx hcr
      have hjj : j / Enc.k α * Enc.k α + j % Enc.k α = j := by rw [Nat.mul_comm]; exact Nat.div_add_mod _ _
      rw [hjj] at hfl
      rw [hfl] at hu
      obtain rfl := Option.some.inj hu
      have := (hf ⟨j / Enc.k α, hq⟩).2 _ _ hcr
      simp only [hjj, hadd] at this
      exact this
    · intro a' ha'
      obtain ⟨i, rfl⟩ := List.mem_ofFn.1 ha'
      exact (hf i).1
end
end Go.Proofs.Ytooikkfldddjfaa
