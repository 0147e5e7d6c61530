/- What can be read as data reads as plain cells. No program in sight. -/
import Derived.Test.YtooikkfldddjfaaPlD
import Derived.Test.YtooikkfldddjfaaOpen
namespace Go.Proofs.Ytooikkfldddjfaa
set_option maxRecDepth 10000
open Go.ChangeShapes Go.WideShapes Go.ChangeAt Go.RowKit Go.Deep

/-- The cells cs read as the plain cells ps. -/
def Reads (w : World) (ps : List PV) (cs : List Value) : Prop :=
  ps.length = cs.length ∧ ∀ (j : Nat) (p : PV) (x : Value), ps[j]? = some p → cs[j]? = some x → x.oneCell' = true ∧ RepC w (fun b => b < w.heap.size) p x
/-- What a type's cells that can be read as data are: the plain cells of some value, which is in order. -/
def DecP (P : Program) (t : TypeId) {α : Type} (f : α → List PV) (ok : α → Prop) : Prop :=
  ∀ {H : Type} {enc : TypeId × Value → H} {w : World} {base : Nat} {spare : Nat → Bool} {held : Bool} {fuel : Nat} {cs : List Value} {x : DataW H × List MemPlace},
    DataW.trod enc P w base spare held fuel t cs = some x → ∃ a : α, Reads w (f a) cs ∧ ok a
section
variable {w : World}
theorem reads_app {p q : List PV} {cs : List Value} {o k k' : Nat} (hk : k' = k) (h : Reads w p ((cs.drop o).take k')) (h' : Reads w q (cs.drop (o + k))) (hl : o + k ≤ cs.length) : Reads w (p ++ q) (cs.drop o) := by
  subst hk
  have hp : p.length = k' := by have := h.1; simp at this; omega
  refine ⟨by have := h'.1; simp at this ⊢; omega, fun j c x hj hx => ?_⟩
  by_cases hjk : j < k'
  · rw [List.getElem?_append_left (by omega)] at hj
    exact h.2 j c x hj (by rw [List.getElem?_take_of_lt hjk]; exact hx)
  · rw [List.getElem?_append_right (by omega)] at hj
    refine h'.2 (j - k') c x (by rw [← hp]; exact hj) ?_
    rw [List.getElem?_drop] at hx ⊢
    rw [← hx]; congr 1; omega
theorem reads_nil {cs : List Value} {o : Nat} (h : cs.length ≤ o) : Reads w [] (cs.drop o) := by
  refine ⟨by simp; omega, by simp⟩
theorem reads_one {p : PV} {x : Value} (h1 : x.oneCell' = true) (h : RepC w (fun b => b < w.heap.size) p x) : Reads w [p] [x] := by
  refine ⟨rfl, fun j c y hj hy => ?_⟩
  cases j with
  | zero => simp at hj hy; subst hj hy; exact ⟨h1, h⟩
  | succ j => simp at hj
/-- A struct's cells, as an argument. -/
theorem reads_rep {ps : List PV} {vs : Array Value} (h : Reads w ps vs.toList) : Rep w (E0 fun b => b < w.heap.size) (.ag ps) (.agg vs) := by
  refine .ag ps vs (by have := h.1; simpa using this.symm) (fun j x hx => ?_) (fun j p x hp hx => .c (h.2 j p x hp (by simpa using hx)).2)
  have hj : j < ps.length := by rw [h.1]; simpa using (Array.getElem?_eq_some_iff.1 hx).1
  exact (h.2 j ps[j] x (List.getElem?_eq_getElem hj) (by simpa using hx)).1
theorem reads_rep1 {p : PV} {x : Value} (h : Reads w [p] [x]) : Rep w (E0 fun b => b < w.heap.size) p x := .c (h.2 0 p x rfl rfl).2
end
section
variable {P : Program}
theorem decP_int {t : TypeId} (ht : P.underlying t = some (.int .i64)) : DecP P t (fun n : Int => [vi n]) (fun n => (Lit.int .i64 n).wf = true) := by
  intro H enc w base spare held fuel cs x h
  obtain ⟨n, rfl, _, hw⟩ := DataW.trod_int ht h
  exact ⟨n, reads_one rfl (.v _ rfl), hw⟩
theorem decP_str {t : TypeId} (ht : P.underlying t = some .string) : DecP P t (fun s : ByteArray => [vs s]) (fun s => s.size ≤ maxLen) := by
  intro H enc w base spare held fuel cs x h
  obtain ⟨s, rfl, _, hw⟩ := DataW.trod_string ht h
  exact ⟨s, reads_one rfl (.v _ rfl), hw⟩
theorem decP_bool {t : TypeId} (ht : P.underlying t = some .bool) : DecP P t (fun b : Bool => [vb b]) (fun _ => True) := by
  intro H enc w base spare held fuel cs x h
  obtain ⟨b, rfl, _⟩ := DataW.trod_bool ht h
  exact ⟨b, reads_one rfl (.v _ rfl), trivial⟩
theorem decP_slice {α : Type} {f : α → List PV} {ok : α → Prop} {t e : TypeId} (ht : P.underlying t = some (.slice e)) (hk : 0 < P.cellsOf e) (hdec : DecP P e f ok) :
    DecP P t (fun xs : List α => [.sl (xs.map f)]) (fun xs => xs.length ≤ maxLen ∧ ∀ y ∈ xs, ok y) := by
  intro H enc w base spare held fuel cs x h
  rcases open_slice ht h with ⟨rfl, _⟩ | ⟨a, n, c, m, k, D, Pl, rfl, _, hl, hm, hmm, _, hi⟩
  · exact ⟨[], reads_one rfl (.nil _ _), by unfold maxLen; simp, by simp⟩
  have hnm : n ≤ m := by rw [hmm]; split <;> omega
  have hex : ∀ i : _root_.Fin n, ∃ (a' : α) (cs' : List Value), ok a' ∧ Reads w (f a') cs' ∧ w.cells? base (a.add (i * P.cellsOf e)) (P.cellsOf e) = some cs' := by
    intro i
    obtain ⟨cs', hc, htr⟩ := hi i (by omega)
    obtain ⟨a', hr, hok⟩ := hdec htr
    exact ⟨a', cs', hok, hr, hc⟩
  obtain ⟨g, hg⟩ := Classical.axiomOfChoice hex
  obtain ⟨cc, hcc⟩ := Classical.axiomOfChoice hg
  refine ⟨List.ofFn g, ?_, by simp; omega, fun y hy => by obtain ⟨i, rfl⟩ := List.mem_ofFn.1 hy; exact (hcc i).1⟩
  rcases Nat.eq_zero_or_pos n with h0 | hpos
  · subst h0
    rw [List.ofFn_zero]
    exact reads_one rfl (.nil _ _)
  have hat : ∀ (i : _root_.Fin n) (j : Nat), j < P.cellsOf e → w.cell? (a.add (i * P.cellsOf e + j)) = (cc i)[j]? := by
    intro i j hj
    obtain ⟨_, _, h3⟩ := World.cells?_some (hcc i).2.2
    have := h3 j hj
    rwa [add_add'] at this
  have hlen : ∀ i : _root_.Fin n, (cc i).length = P.cellsOf e := fun i => (World.cells?_some (hcc i).2.2).2.1
  have hc0 : w.cell? (a.add (0 * P.cellsOf e + 0)) = some ((cc ⟨0, hpos⟩)[0]'(by rw [hlen]; exact hk)) := by
    rw [hat ⟨0, hpos⟩ 0 hk]; exact List.getElem?_eq_getElem _
  have hs := World.cell?_spot hc0
  have hb := World.block_lt_of_cell? _ _ hc0
  obtain ⟨b, off, spot⟩ := a
  have hadd : ∀ q, (⟨b, off, none⟩ : Addr).add q = ⟨b, off + q, none⟩ := fun q => by unfold Addr.add; split <;> simp_all
  have hspot : spot = none := by simpa [Addr.add] using hs
  subst hspot
  rw [hadd] at hb
  have hsl : ∀ (i : Nat) (ps : List PV), ((List.ofFn g).map f)[i]? = some ps → ∃ hi : i < n, ps = f (g ⟨i, hi⟩) := by
    intro i ps hps
    rw [List.getElem?_map] at hps
    obtain ⟨y, hy, rfl⟩ := Option.map_eq_some_iff.1 hps
    have hi : i < n := by simpa using (List.getElem?_eq_some_iff.1 hy).1
    refine ⟨hi, ?_⟩
    simp [hi] at hy
    rw [hy]
  have hu : ∀ (i : Nat) (ps : List PV) (j : Nat) (p : PV), ((List.ofFn g).map f)[i]? = some ps → ps[j]? = some p →
      ∃ x, w.cell? ⟨b, off + i * P.cellsOf e + j, none⟩ = some x ∧ x.oneCell' = true ∧ RepC w (fun b => b < w.heap.size) p x := by
    intro i ps j p hps hp
    obtain ⟨hi, rfl⟩ := hsl i ps hps
    have hr := (hcc ⟨i, hi⟩).2.1
    have hj : j < P.cellsOf e := by rw [← hlen ⟨i, hi⟩, ← hr.1]; exact (List.getElem?_eq_some_iff.1 hp).1
    have hx := hat ⟨i, hi⟩ j hj
    rw [hadd, ← Nat.add_assoc] at hx
    have hj' : j < (cc ⟨i, hi⟩).length := by rw [hlen]; exact hj
    rw [List.getElem?_eq_getElem hj'] at hx
    exact ⟨_, hx, hr.2 j p _ hp (List.getElem?_eq_getElem hj')⟩
  have h := RepC.sl (w := w) (S := fun b => b < w.heap.size) ((List.ofFn g).map f) b off (P.cellsOf e) c (fun i j => (w.cell? ⟨b, off + i * P.cellsOf e + j, none⟩).getD .nilIface) hb hk (by simpa using hl) hm
    (fun i ps hps => by obtain ⟨hi, rfl⟩ := hsl i ps hps; rw [(hcc ⟨i, hi⟩).2.1.1, hlen])
    (fun i ps j p hps hp => by obtain ⟨x, hx, _⟩ := hu i ps j p hps hp; rw [hx]; rfl)
    (fun i ps j p hps hp => by obtain ⟨x, hx, h1, _⟩ := hu i ps j p hps hp; rw [hx]; exact h1)
    (fun i ps j p hps hp => by obtain ⟨x, hx, _, h2⟩ := hu i ps j p hps hp; rw [hx]; exact h2)
  simp only [List.length_map, List.length_ofFn] at h
  exact reads_one rfl h
/-- A contract, at a law's own arguments: it returns, and what was there stays. -/
theorem CallOk.run {f : FuncId} {args : List PV} {b : Bool} (h : CallOk P f args (vb b) []) {w : World} {vs : Array Value} (hl : vs.size = args.length) (ha : ∀ (i : Nat) (p : PV), args[i]? = some p → ∃ x, vs[i]? = some x ∧ Rep w (E0 fun b => b < w.heap.size) p x) :
    Calls P f vs w fun e w' => e = .returned (.bool b) ∧ Up w w' := by
  refine (h (fun b => b < w.heap.size) w vs (fun _ h => h) hl ha).mono ?_
  rintro e w' ⟨v, E', rfl, hk, _, _, hr⟩
  cases hr with
  | c hr => cases hr; exact ⟨rfl, hk.up⟩
end
end Go.Proofs.Ytooikkfldddjfaa
