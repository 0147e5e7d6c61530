import Derived.Test.YtapllnlclgbbkaaG1
namespace Go.Proofs.Ytapllnlclgbbkaa
set_option maxRecDepth 10000
open Go.RowKit
theorem l1Below_any (g : Nat) (xs : List By) (n : Int) (w : World) (hc : Cur w g xs) (hn : n ≤ 1000000000) :
    Calls Try.prog 62 #[.pointer (some ⟨g, 0, none⟩), .int .i64 n] w fun e w' => ∃ x : Int, (0 ≤ x ∧ (x < n ∨ x = 0)) ∧ e = .returned (.int .i64 x) ∧ Cur w' g xs ∧ w.grownBy w' (some g) := by
  by_cases h0 : n ≤ 0
  · go_enter Try.func62, Try.ntmps62
    go_wp2
    go_ret
    exact ⟨0, by omega, rfl, hc, World.grownBy.refl _ _⟩
  · by_cases h1 : n ≤ 256
    · go_enter Try.func62, Try.ntmps62
      go_wp2_with (go_at_call 76; refine (l1Byte_any g xs _ hc).mono ?_; rintro e w1 ⟨x1, ⟨h1, h2⟩, rfl, hc1, hg1⟩)
      go_ret
      exact ⟨_, ⟨Int.emod_nonneg _ (by omega), Or.inl (Int.emod_lt_of_pos _ (by omega))⟩, rfl, hc1, hg1⟩
    · have hacc : w.grownBy w (some g) := World.grownBy.refl _ _
      go_enter Try.func62, Try.ntmps62
      go_wp2_with (go_at_call 76; refine (l1Byte_any g xs _ (by assumption)).mono ?_; rintro e wr ⟨xr, ⟨hl, hh⟩, rfl, hcr, hgr⟩; replace hacc := grown_trans hacc hgr)
      go_ret
      exact ⟨_, ⟨Int.emod_nonneg _ (by omega), Or.inl (Int.emod_lt_of_pos _ (by omega))⟩, rfl, by assumption, hacc⟩
theorem l1Once_any (g : Nat) (xs : List By) (n : Int) (w : World) (hc : Cur w g xs) (hn : n ≤ 1000000000) :
    Calls Try.prog 64 #[.pointer (some ⟨g, 0, none⟩), .int .i64 n] w fun e w' => ∃ x : Bool, e = .returned (.bool x) ∧ Cur w' g xs ∧ w.grownBy w' (some g) := by
  go_enter Try.func64, Try.ntmps64
  go_wp2_with (go_at_call 62; refine (l1Below_any g xs _ _ hc (by omega)).mono ?_; rintro e w1 ⟨x1, ⟨h1, h2⟩, rfl, hc1, hg1⟩)
  go_ret
  exact ⟨_, rfl, hc1, hg1⟩
theorem flat_ints (ls : List Int) : flat ls = ls.map I := by
  induction ls with
  | nil => rfl
  | cons x xs ih => rw [flat_cons, ih]; rfl
theorem Rd.lit {w : World} {b E : Nat} (ls : List Int) (h : w.heap[b]? = some (.cells (ls.map I).toArray E (0, 0))) : Rd w w.heap.size (some ⟨b, 0, none⟩) ls := fun _ =>
  ⟨b, 0, rfl, (Array.getElem?_eq_some_iff.1 h).1, fun j u hu => by
    rw [flat_ints] at hu
    rw [Nat.zero_add, cell_of_row w b j _ _ (0, 0) h, List.getElem?_toArray]
    exact hu⟩
theorem l1Int_any (g : Nat) (xs : List By) (A : Option Addr) (ls : List Int) (c n : Nat) (w : World) (hl : n = ls.length) (hc : Cur w g xs) (hr : Rd w w.heap.size A ls) (h1 : 0 < n) (h2 : n ≤ 1000) (hne : A.map Addr.block ≠ some g) :
    Calls Try.prog 63 #[.pointer (some ⟨g, 0, none⟩), .slice A n c] w fun e w' => ∃ x : Int, x ∈ ls ∧ e = .returned (.int .i64 x) ∧ Cur w' g xs ∧ w.grownBy w' (some g) := by
  go_enter Try.func63, Try.ntmps63
  go_wp2_with (
    go_at_call 62
    refine (l1Below_any g xs _ _ hc (by omega)).mono ?_
    rintro e w1 ⟨x1, ⟨h3, h4⟩, rfl, hc1, hg1⟩
    obtain ⟨m, rfl⟩ : ∃ m : Nat, x1 = m := ⟨x1.toNat, by omega⟩
    obtain ⟨x, hx⟩ := get_of_lt (xs := ls) (i := m) (by omega)
    obtain ⟨b, off, rfl, hb, hcb⟩ := hr.int hx
    replace hcb := hg1.cell hcb (fun e => hne e)
    have hmn : m < n := by omega)
  go_ret
  exact ⟨_, List.mem_of_getElem? hx, rfl, hc1, hg1⟩
theorem l1Odd_any (g : Nat) (xs : List By) (w : World) (hc : Cur w g xs) :
    Calls Try.prog 65 #[.pointer (some ⟨g, 0, none⟩)] w fun e w' => ∃ x : Int, InI x ∧ e = .returned (.int .i64 x) ∧ Cur w' g xs ∧ w.grownBy w' (some g) := by
  go_enter Try.func65, Try.ntmps65
  go_wp2_with (
    go_at_call 63
    go_loud (refine (l1Int_any g xs _ [-1, 0, 1, 2, 255, 1440, 86400, 86401, 999999999, 1000000000, 1000000001, -1000000001, 9223372036854775807, -9223372036854775808] _ _ _ rfl (hc.up (by (repeat (first | exact Up.rfl' _ | (refine Up.al _ ?_) | (refine Up.dr _ ?_) | (refine Up.dr1 ?_) | (refine Up.sc ?_ (by first | exact Nat.le_refl _ | (simp; done) | omega) _) | (refine Up.step (by assumption) ?_))))) (Rd.lit _ (heap_alloc_new _ _)) (by simp) (by simp) (by have h_ := hc.lt; simp; omega)).mono ?_)
    rintro e w1 ⟨x1, hm, rfl, hc1, hg1⟩)
  go_ret
  refine ⟨_, ?_, rfl, hc1, grown_trans (grown_up _ (by (repeat (first | exact Up.rfl' _ | (refine Up.al _ ?_) | (refine Up.dr _ ?_) | (refine Up.dr1 ?_) | (refine Up.sc ?_ (by first | exact Nat.le_refl _ | (simp; done) | omega) _) | (refine Up.step (by assumption) ?_))))) hg1⟩
  simp at hm
  unfold InI
  omega
theorem grown_row {a b : World} {r : Option Nat} {k : Nat} {o : Obj} (h : a.grownBy b r) (ha : a.heap[k]? = some o) (hr : some k ≠ r) : b.heap[k]? = some o :=
  (h.block k (Array.getElem?_eq_some_iff.1 ha).1 hr).trans ha
theorem alloc_get (w : World) (o : Obj) (k : Nat) : (w.alloc o).heap[k]? = if k = w.heap.size then some o else w.heap[k]? := by
  show (w.heap.push o)[k]? = _
  rw [Array.getElem?_push]
theorem alloc_size (w : World) (o : Obj) : (w.alloc o).heap.size = w.heap.size + 1 := by
  show (w.heap.push o).size = _
  simp
def PctOk (ps : List Int) : Prop := ps.length ≤ 6 ∧ ∀ p ∈ ps, 0 ≤ p ∧ p ≤ 100
theorem pctSel {w1 : World} {b0 b1 b2 b3 b4 b5 g E F : Nat} {m : Nat} (hm : m < 5) (h : g < b0 ∧ g < b1 ∧ g < b2 ∧ g < b3 ∧ g < b4)
    (q0 : w1.heap[b0]? = some (.cells #[I 25, I 50, I 100] E (0, 0))) (q1 : w1.heap[b1]? = some (.cells #[I 10] E (0, 0))) (q2 : w1.heap[b2]? = some (.cells #[I 0, I 100] E (0, 0)))
    (q3 : w1.heap[b3]? = some (.cells #[I 0] E (0, 0))) (q4 : w1.heap[b4]? = some (.cells #[I 1, I 1, I 2, I 3, I 50, I 100] E (0, 0)))
    (q5 : w1.heap[b5]? = some (.cells #[.slice (some ⟨b0, 0, none⟩) 3 3, .slice (some ⟨b1, 0, none⟩) 1 1, .slice (some ⟨b2, 0, none⟩) 2 2, .slice (some ⟨b3, 0, none⟩) 1 1, .slice (some ⟨b4, 0, none⟩) 6 6] F (0, 0))) :
    ∃ A, ∃ (ps : List Int), w1.cell? ⟨b5, m, none⟩ = some (.slice A ps.length ps.length) ∧ (Rd w1 w1.heap.size A ps ∧ A.map Addr.block ≠ some g) ∧ PctOk ps := by
  have qc := fun j => cell_of_row w1 b5 j _ _ (0, 0) q5
  match m, hm with
  | 0, _ => exact ⟨_, [25, 50, 100], (qc 0).trans rfl, ⟨Rd.lit _ q0, by simp; omega⟩, by simp [PctOk]⟩
  | 1, _ => exact ⟨_, [10], (qc 1).trans rfl, ⟨Rd.lit _ q1, by simp; omega⟩, by simp [PctOk]⟩
  | 2, _ => exact ⟨_, [0, 100], (qc 2).trans rfl, ⟨Rd.lit _ q2, by simp; omega⟩, by simp [PctOk]⟩
  | 3, _ => exact ⟨_, [0], (qc 3).trans rfl, ⟨Rd.lit _ q3, by simp; omega⟩, by simp [PctOk]⟩
  | 4, _ => exact ⟨_, [1, 1, 2, 3, 50, 100], (qc 4).trans rfl, ⟨Rd.lit _ q4, by simp; omega⟩, by simp [PctOk]⟩
theorem alloc6 (w : World) (o0 o1 o2 o3 o4 o5 : Obj) {w1 : World} {g : Nat} (hlt : g < w.heap.size) (h : ((((((w.alloc o0).alloc o1).alloc o2).alloc o3).alloc o4).alloc o5).grownBy w1 (some g)) :
    w1.heap[w.heap.size]? = some o0 ∧ w1.heap[w.heap.size + 1]? = some o1 ∧ w1.heap[w.heap.size + 1 + 1]? = some o2 ∧ w1.heap[w.heap.size + 1 + 1 + 1]? = some o3 ∧ w1.heap[w.heap.size + 1 + 1 + 1 + 1]? = some o4 ∧ w1.heap[w.heap.size + 1 + 1 + 1 + 1 + 1]? = some o5 := by
  refine ⟨grown_row h ?_ ?_, grown_row h ?_ ?_, grown_row h ?_ ?_, grown_row h ?_ ?_, grown_row h ?_ ?_, grown_row h ?_ ?_⟩
  all_goals first | (simp only [alloc_get, alloc_size]; simp; done) | (simp; omega) | (simp only [alloc_get, alloc_size]; repeat (first | rfl | rw [if_pos rfl] | rw [if_neg (by omega)]))
theorem l11Percents_any (g : Nat) (xs : List By) (w : World) (hc : Cur w g xs) :
    Calls Try.prog 66 #[.pointer (some ⟨g, 0, none⟩)] w fun e w' => ∃ (A : Option Addr) (ps : List Int), PctOk ps ∧ e = .returned (.slice A ps.length ps.length) ∧ (Rd w' w'.heap.size A ps ∧ A.map Addr.block ≠ some g) ∧ Cur w' g xs ∧ w.grownBy w' (some g) := by
  have hlt := hc.lt
  go_enter Try.func66, Try.ntmps66
  go_wp2_with (
    go_at_call 62
    refine (l1Below_any g xs _ _ (hc.up (by (repeat (first | exact Up.rfl' _ | (refine Up.al _ ?_) | (refine Up.dr _ ?_) | (refine Up.dr1 ?_) | (refine Up.sc ?_ (by first | exact Nat.le_refl _ | (simp; done) | omega) _) | (refine Up.step (by assumption) ?_))))) (by omega)).mono ?_
    rintro e w1 ⟨x1, ⟨h3, h4⟩, rfl, hc1, hg1⟩
    obtain ⟨m, rfl⟩ : ∃ m : Nat, x1 = m := ⟨x1.toNat, by omega⟩
    have hm : m < 5 := by omega
    have hg0 : w.grownBy w1 (some g) := grown_trans (grown_up _ (by (repeat (first | exact Up.rfl' _ | (refine Up.al _ ?_) | (refine Up.dr _ ?_) | (refine Up.dr1 ?_) | (refine Up.sc ?_ (by first | exact Nat.le_refl _ | (simp; done) | omega) _) | (refine Up.step (by assumption) ?_))))) hg1
    obtain ⟨q0, q1, q2, q3, q4, q5⟩ := alloc6 w _ _ _ _ _ _ hlt hg1
    obtain ⟨A, ps, hcell, hrd, hok⟩ := pctSel (g := g) hm ⟨by omega, by omega, by omega, by omega, by omega⟩ q0 q1 q2 q3 q4 q5)
  go_ret
  exact ⟨_, _, hok, rfl, hrd, hc1, hg0⟩
end Go.Proofs.Ytapllnlclgbbkaa
