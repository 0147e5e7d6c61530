import Derived.Test.YtapllnlclgbbkaaH1
import Derived.Test.YtapllnlclgbbkaaShelf
import Derived.Sort.OwnSortedInts
namespace Go.Proofs.Ytapllnlclgbbkaa
set_option maxRecDepth 10000
open Go.RowKit
def srt (zs : List Int) : List Int := zs.mergeSort fun x y => decide (x ≤ y)
theorem srt_len (zs : List Int) : (srt zs).length = zs.length := by simp [srt]
theorem flat_ints' (ls : List Int) : flat ls = ls.map I := by
  induction ls with
  | nil => rfl
  | cons x xs ih => rw [flat_cons, ih]; rfl
theorem sortInts_any (g cp n B : Nat) (zs : List Int) (w : World) (ho : Own w B 3 (.slice (some ⟨g, 0, none⟩) n cp) zs) (hl : n = zs.length) (hn : n ≤ 2000000) :
    Calls Try.prog 75 #[.slice (some ⟨g, 0, none⟩) n cp] w fun e w' => e = .returned (.tuple #[]) ∧ Own w' B 3 (.slice (some ⟨g, 0, none⟩) n cp) (srt zs) ∧ w.grownBy w' (some g) := by
  subst hl
  rcases ho.2 with ⟨h0, _⟩ | ⟨g', cap', cur, hv, hB, hg, hnc, hcm, hcs, ht⟩
  · cases h0
  · obtain ⟨rfl, rfl⟩ : g = g' ∧ cp = cap' := by simpa using hv
    have ht' : cur.toList.take zs.length = zs.map (Value.int .i64) := by
      have := ht
      rw [show Enc.k Int = 1 from rfl, Nat.mul_one, flat_ints'] at this
      exact this
    have hH := holds_of_blockI hg ht'
    refine (Try.sort_Ints g 0 cp zs w hH (Array.getElem?_eq_some_iff.1 hg).1 (by omega)).mono ?_
    rintro e w' ⟨rfl, m, os, rfl⟩
    have hs := ownsRow_sortedI (n := m) (os := os) (ss := zs) (ts := srt zs) (srt_len zs) hB hg hnc hcm hcs
    refine ⟨rfl, ?_, grownBy_sortedI _⟩
    unfold Own
    rw [srt_len, flat_ints']
    exact hs
end Go.Proofs.Ytapllnlclgbbkaa
