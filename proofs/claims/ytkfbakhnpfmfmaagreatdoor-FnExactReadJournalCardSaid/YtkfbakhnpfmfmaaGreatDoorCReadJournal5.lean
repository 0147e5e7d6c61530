/- A part of the proof of the statement in the last file of this claim: texts on the language of the program and on its functions. No condition. -/
import Derived.Test.YtkfbakhnpfmfmaaGreatDoorCReadJournal1
import Derived.Laws.AppendOwnNone
import Derived.Test.YtkfbakhnpfmfmaaGreatDoorCReadJournal4
import Derived.Test.YtkfbakhnpfmfmaaGreatDoorProg
import Derived.Laws.BytesArg
import Derived.Shelf.Strings.Builder1
import Derived.Shelf.Strings.Builder2
import Derived.Shelf.Small.Bits
import Derived.Shelf.Strings.BuilderF
import Derived.Shelf.Strings.BuilderK
import Derived.Shelf.Strings.Builder2Cap
import Derived.Shelf.Strconv.Atoi
import Derived.Shelf.Strconv.Itoa0
import Derived.Shelf.Strconv.Itoa1
import Derived.Shelf.LaysM
import Derived.Shelf.Strconv.Itoa2
import Derived.Shelf.Strconv.Itoa3
import Derived.Shelf.Strconv.AtoiErrFast
import Derived.Shelf.Strconv.ParseIntEmpty
import Derived.Shelf.Strconv.AtoiFail
import Derived.Shelf.Strconv.Clone
import Derived.Shelf.Strconv.SyntaxError
import Derived.Shelf.LaysC
import Derived.Shelf.Strconv.ToError
import Derived.Shelf.Strconv.Lower
import Derived.Shelf.Strconv.ParseUint10
import Derived.Shelf.Strconv.ParseUint10Empty
import Derived.Shelf.Strconv.ParseUint10Any
import Derived.Shelf.Strconv.ParseInt10
import Derived.Shelf.Strconv.AtoiLong
import Derived.Shelf.Strconv.AtoiInnerAll
import Derived.Shelf.Strconv.RangeError
import Derived.Shelf.Strconv.ToErrorRange
import Derived.Shelf.Strconv.AtoiAll
import Derived.Shelf.Strings.Search1
import Derived.Shelf.Strings.Search2
import Derived.Shelf.Strings.Search3
import Derived.Shelf.Strings.Cut
import Derived.Shelf.Strings.Count
import Derived.Shelf.Strings.Shaped
import Derived.Shelf.Strings.Prefix
import Derived.Shelf.Strings.Split
import Derived.Shelf.Strings.SplitShaped
import Derived.Shelf.Bits.Mul64
import Derived.Shelf.Strings.Repeat
import Derived.Shelf.Unicode.DecodeSlow
import Derived.Shelf.GgSortMore.Iface
import Derived.Sort.OwnSortedInts
import Derived.Lib.ItoaLen
import Derived.Sort.Grow
import Derived.Lib.AtoiAll
import Derived.Lib.ItoaNum
import Derived.Lib.Split
import Derived.Lib.CountLaws
import Derived.Lib.SplitLaws
set_option linter.unusedVariables false
set_option linter.unusedSimpArgs false
set_option linter.unusedSectionVars false
namespace Go.Proofs.YtkfbakhnpfmfmaaGreatDoor
set_option maxRecDepth 10000
open Go.RowKit
structure ElT (P : Program) (t e : TypeId) (k bytes : Nat) : Prop where
  ht : P.underlying t = some (.slice e)
  info : ∃ i z, P.info? e = some i ∧ i.zero = some z ∧ i.size = k ∧ i.bytes = bytes ∧ z.cells.size = k
theorem ElT.mk' {P : Program} {t e : TypeId} {k bytes : Nat} {z : Value} (ht : P.underlying t = some (.slice e)) (h : (P.info? e).map (fun i => (i.zero, i.size, i.bytes)) = some (some z, k, bytes)) (hz : z.cells.size = k) : ElT P t e k bytes := by
  obtain ⟨i, h1, h2, h3, h4⟩ := info_parts h
  exact ⟨ht, i, z, h1, h2, h3, h4, hz⟩
theorem Own.nil_ {α : Type} [Enc α] (w : World) (B E : Nat) : Own w B E (.slice none 0 0) ([] : List α) := World.ownsRow_nil _ _ _ _
theorem Own.empty {α : Type} [Enc α] (w : World) (B E c : Nat) (cur : Array Value) (hB : B ≤ w.heap.size) (hm : c ≤ maxLen) (hs : cur.size = c * Enc.k α) :
    Own (w.alloc (.cells cur E)) B E (.slice (some ⟨w.heap.size, 0, none⟩) 0 c) ([] : List α) := World.ownsRow_made w cur c hB hm hs
theorem Own.more {α : Type} [Enc α] {w : World} {B B' E : Nat} {v : Value} {xs : List α} (h : Own w B E v xs) (hB : B' ≤ B) : Own w B' E v xs := by
  refine ⟨h.1, ?_⟩
  rcases h.2 with h2 | ⟨g, cap, cur, hv, hb, r⟩
  · exact .inl h2
  · exact .inr ⟨g, cap, cur, hv, by omega, r⟩
theorem Own.grown {α : Type} [Enc α] {w w' : World} {B E : Nat} {v : Value} {xs : List α} {row : Option Nat} (h : Own w B E v xs) (hg : w.grownBy w' row) (hne : v.ownBlock = none ∨ v.ownBlock ≠ row) : Own w' B E v xs :=
  World.ownsRow.kept h hg hne
theorem Rd.one {α : Type} [Enc α] (w : World) (T : TypeId) (x : α) (B : Nat) (hB : w.heap.size < B) : Rd (w.alloc (.cells (Enc.cells x).toArray T)) B (some ⟨w.heap.size, 0, none⟩) [x] := by
  intro _
  refine ⟨w.heap.size, 0, rfl, hB, fun j u hu => ?_⟩
  rw [flat_one] at hu
  rw [Nat.zero_add, cell_of_row _ _ j _ T (0, 0) (heap_alloc_new w _)]
  simpa using hu
def Marking (w0 w : World) (B E k : Nat) (g n cap m : Nat) (ys : List Value) : Prop :=
  ∃ cs : List Value, w.ownsRow B E k (.slice (some ⟨g, 0, none⟩) n cap) n cs ∧ cs.take m = ys.take m ∧ w0.grownBy w (some g)
theorem Marking.start {w : World} {B E k g n cap : Nat} {cs ys : List Value} (h : w.ownsRow B E k (.slice (some ⟨g, 0, none⟩) n cap) n cs) : Marking w w B E k g n cap 0 ys :=
  ⟨cs, h, by simp, ⟨rfl, rfl, rfl, Nat.le_refl _, fun _ _ _ => rfl⟩⟩
theorem Marking.cell {w0 w : World} {B E k g n cap m : Nat} {ys : List Value} (h : Marking w0 w B E k g n cap m ys) {j : Nat} (hj : j < n * k) : ∃ u, w.cell? ⟨g, j, none⟩ = some u := by
  obtain ⟨cs, ho, _⟩ := h
  have hl : cs.length = n * k := ho.1
  exact ⟨cs[j]'(by omega), by rw [ho.cellAt j hj]; exact List.getElem?_eq_getElem _⟩
theorem Marking.frozen {w0 w : World} {B E k g n cap m : Nat} {ys : List Value} (h : Marking w0 w B E k g n cap m ys) (j : Nat) : w.frozen? ⟨g, j, none⟩ = false := by
  obtain ⟨cs, ho, _⟩ := h
  exact ho.frozenAt j
theorem grownBy_trans {a b c : World} {row : Option Nat} (h : a.grownBy b row) (k : b.grownBy c row) : a.grownBy c row :=
  ⟨k.os.trans h.os, k.tape.trans h.tape, k.output.trans h.output, Nat.le_trans h.size k.size, fun i hi hne => (k.block i (Nat.lt_of_lt_of_le hi h.size) hne).trans (h.block i hi hne)⟩
theorem Marking.set1 {w0 w : World} {B E k g n cap m : Nat} {ys : List Value} {v : Value} (h : Marking w0 w B E k g n cap m ys) (hm : m < n * k) (hy : ys[m]? = some v) :
    Marking w0 (w.setCell ⟨g, m, none⟩ v) B E k g n cap (m + 1) ys := by
  obtain ⟨cs, ho, ht, hg⟩ := h
  have hl : cs.length = n * k := ho.1
  obtain ⟨h1, h2⟩ := ho.stored m v
  exact ⟨cs.set m v, h1, take_set_succ (by omega) hy ht, grownBy_trans hg h2⟩
theorem Marking.drewN {w0 w : World} {B E k g n cap m : Nat} {ys : List Value} (h : Marking w0 w B E k g n cap m ys) (q : Nat) : Marking w0 (w.drewN q) B E k g n cap m ys := by
  obtain ⟨cs, ho, ht, hg⟩ := h
  exact ⟨cs, ho, ht, ⟨hg.os, hg.tape, hg.output, hg.size, hg.block⟩⟩
theorem Marking.own {α : Type} [Enc α] {w0 w : World} {B E g n cap : Nat} {ys : List α} (h : Marking w0 w B E (Enc.k α) g n cap (n * Enc.k α) (flat ys)) (hn : ys.length = n) : Own w B E (.slice (some ⟨g, 0, none⟩) n cap) ys ∧ w0.grownBy w (some g) := by
  obtain ⟨cs, ho, ht, hg⟩ := h
  have hl : cs.length = n * Enc.k α := ho.1
  have e1 : (flat ys).take (n * Enc.k α) = flat ys := List.take_of_length_le (by rw [flat_len, hn]; exact Nat.le_refl _)
  rw [e1, List.take_of_length_le (by omega)] at ht
  subst ht
  refine ⟨?_, hg⟩
  unfold Own
  rw [hn]
  exact ho
theorem addr_add (b o j : Nat) : (⟨b, o, none⟩ : Addr).add j = ⟨b, o + j, none⟩ := by unfold Addr.add; split <;> simp_all
theorem run_append_nil_src {α : Type} [Enc α] {P : Program} (w : World) {t ty e : Nat} {i : TypeInfo} (ht : P.underlying t = some (.slice e)) (hi : P.info? e = some i) {base : Nat} {v : Value} {ys : List α} (hown : Own w base e v ys) (c : Nat) :
    (Builtin.append_ #[t, t] ty #[v, .slice none 0 c]).run P w = .ok v w := by
  rcases hown.2 with ⟨rfl, h0⟩ | ⟨g, cap, cur, rfl, _, _, hnc, _⟩
  · simp [Builtin.append_, run_underlying ht, sizeOf, typeInfo, hi, Builtin.lenOf, Builtin.firstCells]
  · simp [Builtin.append_, run_underlying ht, sizeOf, typeInfo, hi, Builtin.lenOf, Builtin.firstCells, hnc, storeCells]
theorem run_append_rd {α : Type} [Enc α] {P : Program} (w : World) {t ty e bytes : Nat} (T : ElT P t e (Enc.k α) bytes) {base : Nat} {v : Value} {ys : List α} (hown : Own w base e v ys)
    {B : Nat} {A : Option Addr} {c : Nat} {xs : List α} (hr : Rd w B A xs) (hbytes : (ys.length + xs.length) * bytes ≤ 140737488355328) (h63 : ys.length + xs.length ≤ maxLen) (hbase : base ≤ w.heap.size) :
    ∃ v' w', (Builtin.append_ #[t, t] ty #[v, .slice A xs.length c]).run P w = .ok v' w' ∧ Own w' base e v' (ys ++ xs) ∧ w.grownBy w' v.ownBlock ∧ (v'.ownBlock = v.ownBlock ∨ v'.ownBlock = some w.heap.size) := by
  obtain ⟨i, z, hi, hz, hs, hb, hzs⟩ := T.info
  cases A with
  | none =>
    have hx : xs = [] := by
      rcases Classical.em (xs = []) with h | h
      · exact h
      · obtain ⟨_, _, h', _⟩ := hr h
        cases h'
    subst hx
    have hrun := run_append_nil_src (P := P) w (ty := ty) T.ht hi hown c
    exact ⟨v, w, by simpa using hrun, by simpa using hown, ⟨rfl, rfl, rfl, Nat.le_refl _, fun _ _ _ => rfl⟩, .inl rfl⟩
  | some ad =>
    have hnews : ∀ j u, (flat xs)[j]? = some u → w.cell? (ad.add j) = some u := by
      intro j u hu
      have hne : xs ≠ [] := by rintro rfl; simp [flat] at hu
      obtain ⟨b, off, hA', _, hc⟩ := hr hne
      injection hA' with hA'
      subst hA'
      rw [addr_add]
      exact hc j u hu
    obtain ⟨v', w', hrun, h2, h3, _, h5⟩ := run_append_own_at (P := P) w base t ty e i z (Enc.k α) bytes T.ht hi hz hs hb hzs Enc.pos v ys.length (flat ys) hown ad xs.length c (flat xs) (flat_len xs) hnews (flat_oneCell xs) h63 hbytes hbase
    refine ⟨v', w', hrun, ?_, h3, h5⟩
    have e1 : (ys ++ xs).length = ys.length + xs.length := List.length_append
    unfold Own
    rw [e1, flat_append]
    exact h2
theorem Up.grown' {α : Type} [Enc α] {w0 w w' : World} {base e : Nat} {v : Value} {ys : List α} (h : Up w0 w) (hg : w.grownBy w' v.ownBlock) (hown : Own w base e v ys) (hb : w0.heap.size ≤ base) : Up w0 w' :=
  Below.grown h hg h.size (fun k hk => Nat.le_trans hb (World.ownsRow.lt hown k hk).1)
theorem wp_append_rd {α : Type} [Enc α] {P : Program} {w : World} {o : Oper} {a : Act} {K : Act → World → Prop} {Q : Exit → Act → World → Prop} {t e bytes : Nat} (T : ElT P t e (Enc.k α) bytes)
    (s x : Operand) (ho : o.op = .call { callee := .builtin .append, args := #[s, x], argTypes := #[t, t] })
    {base : Nat} {v : Value} {ys : List α} (hs : a.eval s = v) (hown : Own w base e v ys)
    {B : Nat} {A : Option Addr} {c : Nat} {xs : List α} (n : Nat) (hx : a.eval x = .slice A n c) (hn : n = xs.length) (hr : Rd w B A xs)
    (hbytes : (ys.length + xs.length) * bytes ≤ 140737488355328) (h63 : ys.length + xs.length ≤ maxLen) (hbase : base ≤ w.heap.size)
    (h : ∀ v' w', Own w' base e v' (ys ++ xs) → w.grownBy w' v.ownBlock → (v'.ownBlock = v.ownBlock ∨ v'.ownBlock = some w.heap.size) → (∀ w0, w0.heap.size ≤ base → Up w0 w → Up w0 w') → K (a.put o.dst v') w') :
    o.wp P a w K Q := by
  subst hn
  obtain ⟨v', w', hrun, h2, h3, h4⟩ := run_append_rd (P := P) w (ty := o.type) (c := c) T hown hr hbytes h63 hbase
  unfold Oper.wp execOp
  simp only [ho, resolve, invoke, builtin, Sem.run_bind, Sem.run_pure, Result.andThen_ok, List.map_toArray, List.map_cons, List.map_nil, hs, hx, hrun]
  exact h v' w' h2 h3 h4 fun w0 hb hu => Up.grown' hu h3 hown hb
theorem wpList_append_rd {α : Type} [Enc α] {P : Program} {w : World} {ops : Array Oper} {rest : List Oper} {o : Oper} {a : Act} {Q : Exit → Act → World → Prop} {t e bytes : Nat} (T : ElT P t e (Enc.k α) bytes)
    (hgd : o.guard = none) (s x : Operand) (ho : o.op = .call { callee := .builtin .append, args := #[s, x], argTypes := #[t, t] })
    {base : Nat} {v : Value} {ys : List α} (hs : a.eval s = v) (hown : Own w base e v ys)
    {B : Nat} {A : Option Addr} {c : Nat} {xs : List α} (n : Nat) (hx : a.eval x = .slice A n c) (hn : n = xs.length) (hr : Rd w B A xs)
    (hbytes : (ys.length + xs.length) * bytes ≤ 140737488355328) (h63 : ys.length + xs.length ≤ maxLen) (hbase : base ≤ w.heap.size)
    (h : ∀ v' w', Own w' base e v' (ys ++ xs) → w.grownBy w' v.ownBlock → (v'.ownBlock = v.ownBlock ∨ v'.ownBlock = some w.heap.size) → (∀ w0, w0.heap.size ≤ base → Up w0 w → Up w0 w') → wpList P ops Q rest (a.put o.dst v') w') :
    wpList P ops Q (o :: rest) a w :=
  wpList_plain hgd fun _ hK => wp_append_rd T s x ho hs hown n hx hn hr hbytes h63 hbase fun v' w' h2 h3 h4 h5 => hK _ _ (h v' w' h2 h3 h4 h5)
set_option linter.unusedVariables false
structure Mk (TO : TypeId → Nat → Prop) (D : Nat → Prop) (w w' : World) : Prop where
  os : w'.os = w.os
  tape : w'.tape = w.tape
  output : w'.output = w.output
  size : w.heap.size ≤ w'.heap.size
  low : ∀ b, b < w.heap.size → ¬ D b → w'.heap[b]? = w.heap[b]?
  row : ∀ (b : Nat) (cs : Array Value) (T : TypeId), w.heap[b]? = some (.cells cs T (0, 0)) → ∃ cs' : Array Value, w'.heap[b]? = some (.cells cs' T (0, 0)) ∧ cs'.size = cs.size ∧ ∀ j, TO T j → cs'[j]? = cs[j]?
section
variable {TO : TypeId → Nat → Prop} {D : Nat → Prop} {B : Nat} {w a b : World}
theorem Mk.rfl' : Mk TO D w w := ⟨rfl, rfl, rfl, Nat.le_refl _, fun _ _ _ => rfl, fun b cs T h => ⟨cs, h, rfl, fun _ _ => rfl⟩⟩
theorem Mk.trans (h : Mk TO D w a) (k : Mk TO D a b) : Mk TO D w b :=
  ⟨k.os.trans h.os, k.tape.trans h.tape, k.output.trans h.output, Nat.le_trans h.size k.size, fun x hx hd => (k.low x (Nat.lt_of_lt_of_le hx h.size) hd).trans (h.low x hx hd), fun x cs T hx => by
    obtain ⟨c1, h1, h2, h3⟩ := h.row x cs T hx
    obtain ⟨c2, k1, k2, k3⟩ := k.row x c1 T h1
    exact ⟨c2, k1, k2.trans h2, fun j hj => (k3 j hj).trans (h3 j hj)⟩⟩
theorem Mk.up (h : Mk TO D w a) (k : Up a b) : Mk TO D w b :=
  ⟨k.os.trans h.os, k.tape.trans h.tape, k.output.trans h.output, Nat.le_trans h.size k.size, fun x hx hd => (k.block x (Nat.lt_of_lt_of_le hx h.size)).trans (h.low x hx hd), fun x cs T hx => by
    obtain ⟨c1, h1, h2, h3⟩ := h.row x cs T hx
    exact ⟨c1, (k.block x (Array.getElem?_eq_some_iff.1 h1).1).trans h1, h2, h3⟩⟩
theorem Mk.set (h : Mk TO D w a) {g j : Nat} {cs : Array Value} {T : TypeId} (hg : a.heap[g]? = some (.cells cs T (0, 0))) (hBg : D g) (hT : ¬ TO T j) (v : Value) : Mk TO D w (a.setCell ⟨g, j, none⟩ v) := by
  have hs : (a.setCell ⟨g, j, none⟩ v).heap[g]? = some (.cells (cs.setIfInBounds j v) T (0, 0)) := heap_setCell_same a g j cs T v hg
  have ho : ∀ x, x ≠ g → (a.setCell ⟨g, j, none⟩ v).heap[x]? = a.heap[x]? := fun x hx => heap_setCell_other a ⟨g, j, none⟩ x v hx
  have hz : (a.setCell ⟨g, j, none⟩ v).heap.size = a.heap.size := by simp
  refine ⟨h.os, h.tape, h.output, by rw [hz]; exact h.size, fun x hx hd => (ho x (by rintro rfl; exact hd hBg)).trans (h.low x hx hd), fun x c T' hx => ?_⟩
  obtain ⟨c1, h1, h2, h3⟩ := h.row x c T' hx
  by_cases e : x = g
  · subst e
    rw [hg] at h1
    obtain ⟨rfl, rfl⟩ : cs = c1 ∧ T = T' := by simpa using h1
    refine ⟨_, hs, by simpa using h2, fun q hq => ?_⟩
    rw [Array.getElem?_setIfInBounds_ne (by intro e; subst e; exact hT hq)]
    exact h3 q hq
  · exact ⟨c1, (ho x e).trans h1, h2, h3⟩
def ShapeS (w : World) (B : Nat) (T : TypeId) (k : Nat) (v : Value) (n : Nat) : Prop :=
  (∃ c, v = .slice none 0 c ∧ n = 0) ∨ ∃ (g c : Nat) (cs : Array Value), v = .slice (some ⟨g, 0, none⟩) n c ∧ B ≤ g ∧ w.heap[g]? = some (.cells cs T (0, 0)) ∧ n * k ≤ cs.size
theorem ShapeS.mk {T : TypeId} {k : Nat} {v : Value} {n B' : Nat} (h : ShapeS w B' T k v n) (m : Mk TO D w a) : ShapeS a B' T k v n := by
  rcases h with h | ⟨g, c, cs, h1, h2, h3, h4⟩
  · exact .inl h
  · obtain ⟨c1, k1, k2, _⟩ := m.row g cs T h3
    exact .inr ⟨g, c, c1, h1, h2, k1, by omega⟩
theorem ShapeS.more {T : TypeId} {k : Nat} {v : Value} {n B' : Nat} (h : ShapeS w B' T k v n) (hB : B ≤ B') : ShapeS w B T k v n := by
  rcases h with h | ⟨g, c, cs, h1, h2, h3, h4⟩
  · exact .inl h
  · exact .inr ⟨g, c, cs, h1, Nat.le_trans hB h2, h3, h4⟩
theorem ShapeS.up {T : TypeId} {k : Nat} {v : Value} {n B' : Nat} (h : ShapeS w B' T k v n) (m : Up w a) : ShapeS a B' T k v n := by
  rcases h with h | ⟨g, c, cs, h1, h2, h3, h4⟩
  · exact .inl h
  · exact .inr ⟨g, c, cs, h1, h2, (m.block g (Array.getElem?_eq_some_iff.1 h3).1).trans h3, h4⟩
def ShapeD (w : World) (D : Nat → Prop) (T : TypeId) (k : Nat) (v : Value) (n : Nat) : Prop :=
  (∃ c, v = .slice none 0 c ∧ n = 0) ∨ ∃ (g c : Nat) (cs : Array Value), v = .slice (some ⟨g, 0, none⟩) n c ∧ D g ∧ w.heap[g]? = some (.cells cs T (0, 0)) ∧ n * k ≤ cs.size
theorem ShapeD.mk {T : TypeId} {k : Nat} {v : Value} {n : Nat} {D' : Nat → Prop} (h : ShapeD w D' T k v n) (m : Mk TO D w a) : ShapeD a D' T k v n := by
  rcases h with h | ⟨g, c, cs, h1, h2, h3, h4⟩
  · exact .inl h
  · obtain ⟨c1, k1, k2, _⟩ := m.row g cs T h3
    exact .inr ⟨g, c, c1, h1, h2, k1, by omega⟩
theorem ShapeD.up {T : TypeId} {k : Nat} {v : Value} {n : Nat} {D' : Nat → Prop} (h : ShapeD w D' T k v n) (m : Up w a) : ShapeD a D' T k v n := by
  rcases h with h | ⟨g, c, cs, h1, h2, h3, h4⟩
  · exact .inl h
  · exact .inr ⟨g, c, cs, h1, h2, (m.block g (Array.getElem?_eq_some_iff.1 h3).1).trans h3, h4⟩
def RowA (w : World) (g m : Nat) (T : TypeId) : Prop := ∃ cs : Array Value, w.heap[g]? = some (.cells cs T (0, 0)) ∧ m ≤ cs.size
theorem RowA.mk {g m : Nat} {T : TypeId} (h : RowA w g m T) (k : Mk TO D w a) : RowA a g m T := by
  obtain ⟨cs, h1, h2⟩ := h
  obtain ⟨c1, k1, k2, _⟩ := k.row g cs T h1
  exact ⟨c1, k1, by omega⟩
theorem RowA.up {g m : Nat} {T : TypeId} (h : RowA w g m T) (k : Up w a) : RowA a g m T := by
  obtain ⟨cs, h1, h2⟩ := h
  exact ⟨cs, (k.block g (Array.getElem?_eq_some_iff.1 h1).1).trans h1, h2⟩
theorem RowA.cell {g m j : Nat} {T : TypeId} (h : RowA w g m T) (hj : j < m) : (∃ u, w.cell? ⟨g, j, none⟩ = some u) ∧ w.frozen? ⟨g, j, none⟩ = false := by
  obtain ⟨cs, h1, h2⟩ := h
  exact ⟨⟨cs[j]'(by omega), by rw [cell_of_row w g j cs T (0, 0) h1]; exact Array.getElem?_eq_getElem _⟩, frozen_of_row w g j cs T h1⟩
theorem RowA.set {g m j : Nat} {T : TypeId} {g' : Nat} (h : RowA w g m T) (hg : RowA w g' 0 T) (v : Value) : RowA (w.setCell ⟨g', j, none⟩ v) g m T := by
  obtain ⟨cs, h1, h2⟩ := h
  obtain ⟨cs', h1', _⟩ := hg
  by_cases e : g = g'
  · subst e
    exact ⟨_, heap_setCell_same w g j cs T v h1, by simpa using h2⟩
  · exact ⟨cs, (heap_setCell_other w ⟨g', j, none⟩ g v e).trans h1, h2⟩
theorem Mk.setR (h : Mk TO D w a) {g m j : Nat} {T : TypeId} (hg : RowA a g m T) (hBg : D g) (hT : ¬ TO T j) (v : Value) : Mk TO D w (a.setCell ⟨g, j, none⟩ v) := by
  obtain ⟨cs, h1, _⟩ := hg
  exact h.set h1 hBg hT v
theorem RowA.keep {g m j : Nat} {T : TypeId} (h : RowA w g m T) (v : Value) : RowA (w.setCell ⟨g, j, none⟩ v) g m T := h.set (by obtain ⟨cs, h1, _⟩ := h; exact ⟨cs, h1, Nat.zero_le _⟩) v
end
set_option linter.unusedSimpArgs false
def digs : Nat → Nat → ByteArray → ByteArray
  | 0, _, s => s
  | f + 1, m, s => if 0 < m then digs f (m / 10) (strOfNums [48 + (m : Int) % 10] ++ s) else s
def markTxt (k : Int) : ByteArray := ⟨#[109]⟩ ++ digs k.toNat k.toNat ⟨#[]⟩
def m_laws_markText (k : Int) : Option ByteArray := if 1 ≤ k ∧ k ≤ 1099511627776 then some (markTxt k) else none
theorem markText_exact (k : Int) (w : World) (h0 : 1 ≤ k) (h1 : k ≤ 1099511627776) : Calls Tryz.prog 35 #[.int .i64 k] w fun e w' => e = .returned (.string (markTxt k)) ∧ Up w w' := by
  go_enter Tryz.func35, Tryz.ntmps35
  have hk : ¬ k ≤ 0 := by omega
  go_wp2
  go_loopw [3, 0] (fun out kk wr => ∃ (m f : Nat) (s : ByteArray), kk = .int .i64 m ∧ out = .string s ∧ s.size + m ≤ 1099511627777 ∧ m ≤ f ∧ digs f m s = digs k.toNat k.toNat ⟨#[]⟩ ∧ Up w wr) (fun _ kk _ => (intOf kk).toNat)
  case atStart => exact ⟨k.toNat, k.toNat, ⟨#[]⟩, by congr 1; omega, rfl, by show (0 : Nat) + k.toNat ≤ _; omega, Nat.le_refl _, rfl, by (repeat (first | exact Up.rfl' _ | (refine Up.al _ ?_) | (refine Up.dr _ ?_) | (refine Up.dr1 ?_) | (refine Up.sc ?_ (by first | exact Nat.le_refl _ | (simp; done) | omega) _) | (refine Up.step (by assumption) ?_)))⟩
  case round =>
    obtain ⟨m, f, s, rfl, rfl, hm, hmf, hd, hb⟩ := hrel
    by_cases hlt : 0 < m
    · obtain ⟨f, rfl⟩ : ∃ f', f = f' + 1 := ⟨f - 1, by omega⟩
      have hd' : digs f (m / 10) (strOfNums [48 + (m : Int) % 10] ++ s) = digs k.toNat k.toNat ⟨#[]⟩ := by rw [← hd]; simp only [digs, hlt, if_true]
      have hcv := run_convert_bytes_arg (P := Tryz.prog) (wr.alloc (.cells #[.int .u8 (48 + (m : Int) % 10)] 5)) 40 5 Tryz.underlying40 Tryz.underlying5 wr.heap.size 0 1 1 [48 + (m : Int) % 10] rfl (fun i hi => (by obtain rfl : i = 0 := (by omega); simp [go_sem])) 9 Tryz.underlying9
      have hsz : (strOfNums [48 + (m : Int) % 10]).size = 1 := by simp [strOfNums, ByteArray.size]
      go_wp2
      exact ⟨⟨m / 10, f, _, by congr 1, rfl, by rw [ByteArray.size_append, hsz]; omega, by omega, hd', by (repeat (first | exact Up.rfl' _ | (refine Up.al _ ?_) | (refine Up.dr _ ?_) | (refine Up.dr1 ?_) | (refine Up.sc ?_ (by first | exact Nat.le_refl _ | (simp; done) | omega) _) | (refine Up.step (by assumption) ?_)))⟩, by simp [intOf]; omega⟩
    · obtain rfl : m = 0 := by omega
      go_wp2
      go_ret
      have hd' : s = digs k.toNat k.toNat ⟨#[]⟩ := by rw [← hd]; cases f <;> simp [digs]
      exact ⟨by rw [hd']; rfl, hb⟩
theorem rep_vT {w : World} {E : Env} {x y : Value} (h : Rep w E (.v x) y) : y = x := by
  cases h with
  | c h => cases h with
    | v _ _ => rfl
theorem ok_laws_markText (k : Int) {r : ByteArray} (H : m_laws_markText k = some r) : CallM Tryz.prog 35 [vi k] [] (vs r) [] := by
  unfold m_laws_markText at H
  split at H
  case isFalse => cases H
  rename_i hok
  obtain rfl := Option.some.inj H
  intro S β w vs ω hk hl ha
  obtain ⟨x, hx0, hr⟩ := ha 0 _ rfl
  have hv : vs = #[x] := by
    have h1 : vs.size = 1 := hl
    apply Array.ext (by simp [h1])
    intro i h2 h3
    have : i = 0 := by omega
    subst this
    have := (Array.getElem?_eq_some_iff.1 hx0).2
    simpa using this
  subst hv
  obtain rfl := rep_vT hr
  refine (markText_exact k w hok.1 hok.2).mono ?_
  rintro e w' ⟨rfl, hu⟩
  have hnone : ∀ l B, β l = some B → False := fun l B hB => by
    obtain ⟨mb, hmb⟩ := hk.dom l B hB
    simp at hmb
  exact ⟨_, E1 S β 0, rfl, ⟨⟨hu.os, hu.tape, hu.output, hu.size, fun b hb _ => hu.block b hb⟩, fun b hb => Nat.lt_of_lt_of_le (hk.sz b hb) hu.size, fun l B hB => (hnone l B hB).elim, fun l l' B B' hB => (hnone l B hB).elim, fun l hl => hk.used l hl, fun l B hB => (hnone l B hB).elim, fun l mb h => (by simp at h), fun l B hB => (hnone l B hB).elim, hk.tab, fun _ _ h => h.elim⟩, fun b h => h, fun b h => .inl h, ⟨fun l B hl => absurd hl (Nat.not_lt_zero l), fun _ _ h => h.elim⟩, .c (.v _ rfl)⟩
instance (k : Int) : CT Tryz.prog (m_laws_markText k) := ⟨35, [vi k], [], fun r => vs r, fun r => [], ok_laws_markText k⟩
end Go.Proofs.YtkfbakhnpfmfmaaGreatDoor
namespace Go.Proofs
open Go.Shelf
def Tryz.lays169_ren : Go.Shelf.Ren := ⟨fun | 169 => 163 | n => n, fun | 70 => 197 | 9 => 9 | 0 => 0 | 72 => 199 | 37 => 40 | 127 => 210 | 3 => 3 | 5 => 5 | n => n, fun | n => n⟩
theorem Tryz.lays169 : Go.Proofs.Lays.n169 Tryz.prog Tryz.lays169_ren := {
  mixed := by kernel_rfl
  f169 := Tryz.func163.trans (congrArg some (by kernel_rfl))
  t0 := Tryz.underlying0
  a0 := Tryz.isAgg0
  z0 := Tryz.sizeOf0
  v0 := Tryz.zeroValue0
  t3 := Tryz.underlying3
  a3 := Tryz.isAgg3
  z3 := Tryz.sizeOf3
  v3 := Tryz.zeroValue3
  t9 := Tryz.underlying9
  a9 := Tryz.isAgg9
  z9 := Tryz.sizeOf9
  v9 := Tryz.zeroValue9
  t37 := Tryz.underlying40
  a37 := Tryz.isAgg40
  z37 := Tryz.sizeOf40
  v37 := Tryz.zeroValue40
  t70 := Tryz.underlying197
  a70 := Tryz.isAgg197
  z70 := Tryz.sizeOf197
  v70 := Tryz.zeroValue197
  t72 := Tryz.underlying199
  a72 := Tryz.isAgg199
  z72 := Tryz.sizeOf199
  v72 := Tryz.zeroValue199
  t127 := Tryz.underlying210
  a127 := Tryz.isAgg210
  z127 := Tryz.sizeOf210
  v127 := Tryz.zeroValue210 }
theorem Tryz.Builder_Extra_169 : Builder.Extra Tryz.prog Tryz.lays169_ren := {
  sizeBuilder := by kernel_rfl
  liesBuilder := by kernel_rfl
  t5 := Tryz.underlying5
  a5 := Tryz.isAgg5
  z5 := Tryz.sizeOf5
  v5 := Tryz.zeroValue5
  infoByte := by kernel_rfl
  cellsByte := by kernel_rfl
  sizeByte := by kernel_rfl
  neB5 := by decide }
open Go.RowKit in
theorem Tryz.Builder_String_any (B b : Nat) (l : List UInt8) (w : World) (h : Lib.IsBuilder 199 5 B b (Lib.byteCells l) w) (hBw : B ≤ w.heap.size) :
    Calls Tryz.prog 163 #[.pointer (some ⟨b, 0, none⟩)] w fun e w' => e = .returned (.string ⟨l.toArray⟩) ∧ Below B w w' := Any.Builder_String_any Tryz.lays169 Tryz.Builder_Extra_169 B b l w h hBw
def Tryz.lays125_ren : Go.Shelf.Ren := ⟨fun | 125 => 165 | 128 => 202 | 129 => 170 | n => n, fun | 46 => 113 | 3 => 3 | 51 => 154 | 53 => 157 | 4 => 4 | 5 => 5 | 9 => 9 | n => n, fun | n => n⟩
theorem Tryz.lays125 : Go.Proofs.Lays.n125 Tryz.prog Tryz.lays125_ren := {
  mixed := by kernel_rfl
  f125 := Tryz.func165.trans (congrArg some (by kernel_rfl))
  f128 := Tryz.func202.trans (congrArg some (by kernel_rfl))
  f129 := Tryz.func170.trans (congrArg some (by kernel_rfl))
  t3 := Tryz.underlying3
  a3 := Tryz.isAgg3
  z3 := Tryz.sizeOf3
  v3 := Tryz.zeroValue3
  t4 := Tryz.underlying4
  a4 := Tryz.isAgg4
  z4 := Tryz.sizeOf4
  v4 := Tryz.zeroValue4
  t5 := Tryz.underlying5
  a5 := Tryz.isAgg5
  z5 := Tryz.sizeOf5
  v5 := Tryz.zeroValue5
  t9 := Tryz.underlying9
  a9 := Tryz.isAgg9
  z9 := Tryz.sizeOf9
  v9 := Tryz.zeroValue9
  t46 := Tryz.underlying113
  a46 := Tryz.isAgg113
  z46 := Tryz.sizeOf113
  v46 := Tryz.zeroValue113
  t51 := Tryz.underlying154
  a51 := Tryz.isAgg154
  z51 := Tryz.sizeOf154
  v51 := Tryz.zeroValue154
  t53 := Tryz.underlying157
  a53 := Tryz.isAgg157
  z53 := Tryz.sizeOf157
  v53 := Tryz.zeroValue157 }
theorem Tryz.bits_Len (x : Int) (w : World) (h0 : 0 ≤ x) (h1 : x ≤ 18446744073709551615) :
    Calls Tryz.prog 165 #[.int .u64 x] w fun e w' => e = .returned (.int .i64 (Lib.bitLen x.toNat)) ∧ w' = w := Any.bits_Len Tryz.lays125 x w h0 h1
def Tryz.laysM171_ren : Go.Shelf.Ren := ⟨fun | 171 => 53 | 243 => 74 | 246 => 101 | 283 => 132 | 284 => 133 | 285 => 134 | 286 => 135 | 129 => 170 | 317 => 169 | 318 => 171 | 319 => 172 | 320 => 173 | 337 => 211 | 338 => 212 | n => n, fun | 3 => 3 | 9 => 9 | 2 => 2 | 4 => 4 | 171 => 164 | 0 => 0 | 53 => 157 | 37 => 40 | 5 => 5 | 173 => 167 | 212 => 215 | 51 => 154 | 20 => 20 | 213 => 216 | 46 => 113 | 232 => 291 | 233 => 292 | n => n, fun | 17 => 3 | 18 => 6 | 19 => 7 | n => n⟩
theorem Tryz.laysM171 : Go.Proofs.LaysM.n171 Tryz.prog Tryz.laysM171_ren := {
  mixed := by kernel_rfl
  f129 := Tryz.func170.trans (congrArg some (by kernel_rfl))
  f171 := Tryz.func53.trans (congrArg some (by kernel_rfl))
  f243 := Tryz.func74.trans (congrArg some (by kernel_rfl))
  f246 := Tryz.func101.trans (congrArg some (by kernel_rfl))
  f283 := Tryz.func132.trans (congrArg some (by kernel_rfl))
  f284 := Tryz.func133.trans (congrArg some (by kernel_rfl))
  f285 := Tryz.func134.trans (congrArg some (by kernel_rfl))
  f286 := Tryz.func135.trans (congrArg some (by kernel_rfl))
  f317 := Tryz.func169.trans (congrArg some (by kernel_rfl))
  f318 := Tryz.func171.trans (congrArg some (by kernel_rfl))
  f319 := Tryz.func172.trans (congrArg some (by kernel_rfl))
  f320 := Tryz.func173.trans (congrArg some (by kernel_rfl))
  f337 := Tryz.func211.trans (congrArg some (by kernel_rfl))
  f338 := Tryz.func212.trans (congrArg some (by kernel_rfl))
  t0 := Tryz.underlying0
  a0 := Tryz.isAgg0
  z0 := Tryz.sizeOf0
  v0 := Tryz.zeroValue0
  t2 := Tryz.underlying2
  a2 := Tryz.isAgg2
  z2 := Tryz.sizeOf2
  v2 := Tryz.zeroValue2
  t3 := Tryz.underlying3
  a3 := Tryz.isAgg3
  z3 := Tryz.sizeOf3
  v3 := Tryz.zeroValue3
  t4 := Tryz.underlying4
  a4 := Tryz.isAgg4
  z4 := Tryz.sizeOf4
  v4 := Tryz.zeroValue4
  t5 := Tryz.underlying5
  a5 := Tryz.isAgg5
  z5 := Tryz.sizeOf5
  v5 := Tryz.zeroValue5
  t9 := Tryz.underlying9
  a9 := Tryz.isAgg9
  z9 := Tryz.sizeOf9
  v9 := Tryz.zeroValue9
  t20 := Tryz.underlying20
  a20 := Tryz.isAgg20
  z20 := Tryz.sizeOf20
  v20 := Tryz.zeroValue20
  t37 := Tryz.underlying40
  a37 := Tryz.isAgg40
  z37 := Tryz.sizeOf40
  v37 := Tryz.zeroValue40
  t46 := Tryz.underlying113
  a46 := Tryz.isAgg113
  z46 := Tryz.sizeOf113
  v46 := Tryz.zeroValue113
  t51 := Tryz.underlying154
  a51 := Tryz.isAgg154
  z51 := Tryz.sizeOf154
  v51 := Tryz.zeroValue154
  t53 := Tryz.underlying157
  a53 := Tryz.isAgg157
  z53 := Tryz.sizeOf157
  v53 := Tryz.zeroValue157
  t171 := Tryz.underlying164
  a171 := Tryz.isAgg164
  z171 := Tryz.sizeOf164
  v171 := Tryz.zeroValue164
  t173 := Tryz.underlying167
  a173 := Tryz.isAgg167
  z173 := Tryz.sizeOf167
  v173 := Tryz.zeroValue167
  t212 := Tryz.underlying215
  a212 := Tryz.isAgg215
  z212 := Tryz.sizeOf215
  v212 := Tryz.zeroValue215
  t213 := Tryz.underlying216
  a213 := Tryz.isAgg216
  z213 := Tryz.sizeOf216
  t232 := Tryz.underlying291
  a232 := Tryz.isAgg291
  z232 := Tryz.sizeOf291
  v232 := Tryz.zeroValue291
  t233 := Tryz.underlying292
  a233 := Tryz.isAgg292
  z233 := Tryz.sizeOf292
  v233 := Tryz.zeroValue292
  g17 := by kernel_rfl
  g18 := by kernel_rfl
  g19 := by kernel_rfl
  i0 := by kernel_rfl
  i2 := by kernel_rfl
  i3 := by kernel_rfl
  i4 := by kernel_rfl
  i5 := by kernel_rfl
  i9 := by kernel_rfl
  i20 := by kernel_rfl
  i37 := by kernel_rfl
  i46 := by kernel_rfl
  i51 := by kernel_rfl
  i53 := by kernel_rfl
  i171 := by kernel_rfl
  i173 := by kernel_rfl
  i212 := by kernel_rfl
  i232 := by kernel_rfl
  i233 := by kernel_rfl
  m17 := by kernel_rfl
  m18 := by kernel_rfl
  m19 := by kernel_rfl }
open Go.RowKit Go.Sort Go.Lib in
theorem Tryz.strconv_Itoa (n : Int) (h0 : -9223372036854775808 ≤ n) (h1 : n ≤ 9223372036854775807) (w : World) (htab : Lib.TabIs Tryz.prog w "internal/strconv.uint64pow10" .u64 Lib.pow10Tab) :
    Calls Tryz.prog 53 #[.int .i64 n] w fun e w' => e = .returned (.string ⟨(Lib.itoa n).toArray⟩) ∧ ∃ k os, w' = grow (w.drewN k) os := Any.strconv_Itoa Tryz.laysM171 n h0 h1 w htab
def Tryz.lays171_ren : Go.Shelf.Ren := ⟨fun | 171 => 53 | 243 => 74 | 246 => 101 | 283 => 132 | 284 => 133 | 285 => 134 | 286 => 135 | 129 => 170 | 317 => 169 | 318 => 171 | 319 => 172 | 320 => 173 | 337 => 211 | 338 => 212 | n => n, fun | 3 => 3 | 9 => 9 | 2 => 2 | 4 => 4 | 171 => 164 | 0 => 0 | 53 => 157 | 37 => 40 | 5 => 5 | 173 => 167 | 212 => 215 | 51 => 154 | 20 => 20 | 213 => 216 | 46 => 113 | 232 => 291 | 233 => 292 | n => n, fun | 17 => 3 | 18 => 6 | 19 => 7 | n => n⟩
theorem Tryz.lays171 : Go.Proofs.Lays.n171 Tryz.prog Tryz.lays171_ren := {
  mixed := by kernel_rfl
  f129 := Tryz.func170.trans (congrArg some (by kernel_rfl))
  f171 := Tryz.func53.trans (congrArg some (by kernel_rfl))
  f243 := Tryz.func74.trans (congrArg some (by kernel_rfl))
  f246 := Tryz.func101.trans (congrArg some (by kernel_rfl))
  f283 := Tryz.func132.trans (congrArg some (by kernel_rfl))
  f284 := Tryz.func133.trans (congrArg some (by kernel_rfl))
  f285 := Tryz.func134.trans (congrArg some (by kernel_rfl))
  f286 := Tryz.func135.trans (congrArg some (by kernel_rfl))
  f317 := Tryz.func169.trans (congrArg some (by kernel_rfl))
  f318 := Tryz.func171.trans (congrArg some (by kernel_rfl))
  f319 := Tryz.func172.trans (congrArg some (by kernel_rfl))
  f320 := Tryz.func173.trans (congrArg some (by kernel_rfl))
  f337 := Tryz.func211.trans (congrArg some (by kernel_rfl))
  f338 := Tryz.func212.trans (congrArg some (by kernel_rfl))
  t0 := Tryz.underlying0
  a0 := Tryz.isAgg0
  z0 := Tryz.sizeOf0
  v0 := Tryz.zeroValue0
  t2 := Tryz.underlying2
  a2 := Tryz.isAgg2
  z2 := Tryz.sizeOf2
  v2 := Tryz.zeroValue2
  t3 := Tryz.underlying3
  a3 := Tryz.isAgg3
  z3 := Tryz.sizeOf3
  v3 := Tryz.zeroValue3
  t4 := Tryz.underlying4
  a4 := Tryz.isAgg4
  z4 := Tryz.sizeOf4
  v4 := Tryz.zeroValue4
  t5 := Tryz.underlying5
  a5 := Tryz.isAgg5
  z5 := Tryz.sizeOf5
  v5 := Tryz.zeroValue5
  t9 := Tryz.underlying9
  a9 := Tryz.isAgg9
  z9 := Tryz.sizeOf9
  v9 := Tryz.zeroValue9
  t20 := Tryz.underlying20
  a20 := Tryz.isAgg20
  z20 := Tryz.sizeOf20
  v20 := Tryz.zeroValue20
  t37 := Tryz.underlying40
  a37 := Tryz.isAgg40
  z37 := Tryz.sizeOf40
  v37 := Tryz.zeroValue40
  t46 := Tryz.underlying113
  a46 := Tryz.isAgg113
  z46 := Tryz.sizeOf113
  v46 := Tryz.zeroValue113
  t51 := Tryz.underlying154
  a51 := Tryz.isAgg154
  z51 := Tryz.sizeOf154
  v51 := Tryz.zeroValue154
  t53 := Tryz.underlying157
  a53 := Tryz.isAgg157
  z53 := Tryz.sizeOf157
  v53 := Tryz.zeroValue157
  t171 := Tryz.underlying164
  a171 := Tryz.isAgg164
  z171 := Tryz.sizeOf164
  v171 := Tryz.zeroValue164
  t173 := Tryz.underlying167
  a173 := Tryz.isAgg167
  z173 := Tryz.sizeOf167
  v173 := Tryz.zeroValue167
  t212 := Tryz.underlying215
  a212 := Tryz.isAgg215
  z212 := Tryz.sizeOf215
  v212 := Tryz.zeroValue215
  t213 := Tryz.underlying216
  a213 := Tryz.isAgg216
  z213 := Tryz.sizeOf216
  t232 := Tryz.underlying291
  a232 := Tryz.isAgg291
  z232 := Tryz.sizeOf291
  v232 := Tryz.zeroValue291
  t233 := Tryz.underlying292
  a233 := Tryz.isAgg292
  z233 := Tryz.sizeOf292
  v233 := Tryz.zeroValue292
  g17 := by kernel_rfl
  g18 := by kernel_rfl
  g19 := by kernel_rfl }
open Go.RowKit Go.Sort Go.Lib in
theorem Tryz.strconv_Itoa_small (i : Nat) (hi : i < 100) (w : World) :
    Calls Tryz.prog 53 #[.int .i64 i] w fun e w' => e = .returned (.string ⟨(Lib.decDigits i).toArray⟩) ∧ w' = w := Any.strconv_Itoa_small Tryz.lays171 i hi w
def Tryz.laysC172_ren : Go.Shelf.Ren := ⟨fun | 172 => 52 | 244 => 72 | 245 => 73 | 247 => 96 | 279 => 97 | 280 => 98 | 281 => 99 | 282 => 100 | 287 => 129 | 316 => 130 | 171 => 53 | 205 => 131 | 321 => 167 | 322 => 168 | 243 => 74 | 246 => 101 | 283 => 132 | 284 => 133 | 285 => 134 | 286 => 135 | 129 => 170 | 317 => 169 | 318 => 171 | 319 => 172 | 320 => 173 | 337 => 211 | 338 => 212 | n => n, fun | 9 => 9 | 3 => 3 | 75 => 69 | 76 => 70 | 4 => 4 | 5 => 5 | 167 => 114 | 37 => 40 | 0 => 0 | 85 => 115 | 2 => 2 | 168 => 117 | 53 => 157 | 175 => 158 | 46 => 113 | 210 => 162 | 127 => 210 | 145 => 213 | 143 => 211 | 21 => 21 | 171 => 164 | 173 => 167 | 212 => 215 | 51 => 154 | 20 => 20 | 213 => 216 | 232 => 291 | 233 => 292 | 80 => 202 | n => n, fun | 15 => 1 | 16 => 2 | 17 => 3 | 18 => 6 | 19 => 7 | n => n⟩
theorem Tryz.laysC172 : Go.Proofs.LaysC.n172 Tryz.prog Tryz.laysC172_ren := {
  mixed := by kernel_rfl
  f129 := Tryz.func170.trans (congrArg some (by kernel_rfl))
  f171 := Tryz.func53.trans (congrArg some (by kernel_rfl))
  f172 := Tryz.func52.trans (congrArg some (by kernel_rfl))
  f205 := Tryz.func131.trans (congrArg some (by kernel_rfl))
  f243 := Tryz.func74.trans (congrArg some (by kernel_rfl))
  f244 := Tryz.func72.trans (congrArg some (by kernel_rfl))
  f245 := Tryz.func73.trans (congrArg some (by kernel_rfl))
  f246 := Tryz.func101.trans (congrArg some (by kernel_rfl))
  f247 := Tryz.func96.trans (congrArg some (by kernel_rfl))
  f279 := Tryz.func97.trans (congrArg some (by kernel_rfl))
  f280 := Tryz.func98.trans (congrArg some (by kernel_rfl))
  f281 := Tryz.func99.trans (congrArg some (by kernel_rfl))
  f282 := Tryz.func100.trans (congrArg some (by kernel_rfl))
  f283 := Tryz.func132.trans (congrArg some (by kernel_rfl))
  f284 := Tryz.func133.trans (congrArg some (by kernel_rfl))
  f285 := Tryz.func134.trans (congrArg some (by kernel_rfl))
  f286 := Tryz.func135.trans (congrArg some (by kernel_rfl))
  f287 := Tryz.func129.trans (congrArg some (by kernel_rfl))
  f316 := Tryz.func130.trans (congrArg some (by kernel_rfl))
  f317 := Tryz.func169.trans (congrArg some (by kernel_rfl))
  f318 := Tryz.func171.trans (congrArg some (by kernel_rfl))
  f319 := Tryz.func172.trans (congrArg some (by kernel_rfl))
  f320 := Tryz.func173.trans (congrArg some (by kernel_rfl))
  f321 := Tryz.func167.trans (congrArg some (by kernel_rfl))
  f322 := Tryz.func168.trans (congrArg some (by kernel_rfl))
  f337 := Tryz.func211.trans (congrArg some (by kernel_rfl))
  f338 := Tryz.func212.trans (congrArg some (by kernel_rfl))
  t0 := Tryz.underlying0
  a0 := Tryz.isAgg0
  z0 := Tryz.sizeOf0
  v0 := Tryz.zeroValue0
  t2 := Tryz.underlying2
  a2 := Tryz.isAgg2
  z2 := Tryz.sizeOf2
  v2 := Tryz.zeroValue2
  t3 := Tryz.underlying3
  a3 := Tryz.isAgg3
  z3 := Tryz.sizeOf3
  v3 := Tryz.zeroValue3
  t4 := Tryz.underlying4
  a4 := Tryz.isAgg4
  z4 := Tryz.sizeOf4
  v4 := Tryz.zeroValue4
  t5 := Tryz.underlying5
  a5 := Tryz.isAgg5
  z5 := Tryz.sizeOf5
  v5 := Tryz.zeroValue5
  t9 := Tryz.underlying9
  a9 := Tryz.isAgg9
  z9 := Tryz.sizeOf9
  v9 := Tryz.zeroValue9
  t20 := Tryz.underlying20
  a20 := Tryz.isAgg20
  z20 := Tryz.sizeOf20
  v20 := Tryz.zeroValue20
  t21 := Tryz.underlying21
  a21 := Tryz.isAgg21
  z21 := Tryz.sizeOf21
  v21 := Tryz.zeroValue21
  t37 := Tryz.underlying40
  a37 := Tryz.isAgg40
  z37 := Tryz.sizeOf40
  v37 := Tryz.zeroValue40
  t46 := Tryz.underlying113
  a46 := Tryz.isAgg113
  z46 := Tryz.sizeOf113
  v46 := Tryz.zeroValue113
  t51 := Tryz.underlying154
  a51 := Tryz.isAgg154
  z51 := Tryz.sizeOf154
  v51 := Tryz.zeroValue154
  t53 := Tryz.underlying157
  a53 := Tryz.isAgg157
  z53 := Tryz.sizeOf157
  v53 := Tryz.zeroValue157
  t75 := Tryz.underlying69
  a75 := Tryz.isAgg69
  z75 := Tryz.sizeOf69
  v75 := Tryz.zeroValue69
  t76 := Tryz.underlying70
  a76 := Tryz.isAgg70
  z76 := Tryz.sizeOf70
  v76 := Tryz.zeroValue70
  t85 := Tryz.underlying115
  a85 := Tryz.isAgg115
  z85 := Tryz.sizeOf115
  v85 := Tryz.zeroValue115
  t127 := Tryz.underlying210
  a127 := Tryz.isAgg210
  z127 := Tryz.sizeOf210
  v127 := Tryz.zeroValue210
  t143 := Tryz.underlying211
  a143 := Tryz.isAgg211
  z143 := Tryz.sizeOf211
  v143 := Tryz.zeroValue211
  t145 := Tryz.underlying213
  a145 := Tryz.isAgg213
  z145 := Tryz.sizeOf213
  v145 := Tryz.zeroValue213
  t167 := Tryz.underlying114
  a167 := Tryz.isAgg114
  z167 := Tryz.sizeOf114
  v167 := Tryz.zeroValue114
  t168 := Tryz.underlying117
  a168 := Tryz.isAgg117
  z168 := Tryz.sizeOf117
  v168 := Tryz.zeroValue117
  t171 := Tryz.underlying164
  a171 := Tryz.isAgg164
  z171 := Tryz.sizeOf164
  v171 := Tryz.zeroValue164
  t173 := Tryz.underlying167
  a173 := Tryz.isAgg167
  z173 := Tryz.sizeOf167
  v173 := Tryz.zeroValue167
  t175 := Tryz.underlying158
  a175 := Tryz.isAgg158
  z175 := Tryz.sizeOf158
  v175 := Tryz.zeroValue158
  t210 := Tryz.underlying162
  a210 := Tryz.isAgg162
  z210 := Tryz.sizeOf162
  v210 := Tryz.zeroValue162
  t212 := Tryz.underlying215
  a212 := Tryz.isAgg215
  z212 := Tryz.sizeOf215
  v212 := Tryz.zeroValue215
  t213 := Tryz.underlying216
  a213 := Tryz.isAgg216
  z213 := Tryz.sizeOf216
  t232 := Tryz.underlying291
  a232 := Tryz.isAgg291
  z232 := Tryz.sizeOf291
  v232 := Tryz.zeroValue291
  t233 := Tryz.underlying292
  a233 := Tryz.isAgg292
  z233 := Tryz.sizeOf292
  v233 := Tryz.zeroValue292
  g15 := by kernel_rfl
  g16 := by kernel_rfl
  g17 := by kernel_rfl
  g18 := by kernel_rfl
  g19 := by kernel_rfl
  t80 := Tryz.underlying202
  a80 := Tryz.isAgg202
  z80 := Tryz.sizeOf202
  v80 := Tryz.zeroValue202
  i0 := by kernel_rfl
  i2 := by kernel_rfl
  i3 := by kernel_rfl
  i4 := by kernel_rfl
  i5 := by kernel_rfl
  i9 := by kernel_rfl
  i20 := by kernel_rfl
  i21 := by kernel_rfl
  i37 := by kernel_rfl
  i46 := by kernel_rfl
  i51 := by kernel_rfl
  i53 := by kernel_rfl
  i75 := by kernel_rfl
  i76 := by kernel_rfl
  i80 := by kernel_rfl
  i85 := by kernel_rfl
  i127 := by kernel_rfl
  i143 := by kernel_rfl
  i145 := by kernel_rfl
  i167 := by kernel_rfl
  i168 := by kernel_rfl
  i171 := by kernel_rfl
  i173 := by kernel_rfl
  i175 := by kernel_rfl
  i210 := by kernel_rfl
  i212 := by kernel_rfl
  i232 := by kernel_rfl
  i233 := by kernel_rfl
  m15 := by kernel_rfl
  m16 := by kernel_rfl
  m17 := by kernel_rfl
  m18 := by kernel_rfl
  m19 := by kernel_rfl
  c0 := by kernel_rfl
  c2 := by kernel_rfl
  c3 := by kernel_rfl
  c4 := by kernel_rfl
  c5 := by kernel_rfl
  c9 := by kernel_rfl
  c20 := by kernel_rfl
  c21 := by kernel_rfl
  c37 := by kernel_rfl
  c46 := by kernel_rfl
  c51 := by kernel_rfl
  c53 := by kernel_rfl
  c75 := by kernel_rfl
  c76 := by kernel_rfl
  c80 := by kernel_rfl
  c85 := by kernel_rfl
  c127 := by kernel_rfl
  c143 := by kernel_rfl
  c145 := by kernel_rfl
  c167 := by kernel_rfl
  c168 := by kernel_rfl
  c171 := by kernel_rfl
  c173 := by kernel_rfl
  c175 := by kernel_rfl
  c210 := by kernel_rfl
  c212 := by kernel_rfl
  c213 := by kernel_rfl
  c232 := by kernel_rfl
  c233 := by kernel_rfl }
open Go.RowKit in
theorem Tryz.strconv_Atoi_ok (s : ByteArray) (hmax : s.size ≤ 9223372036854775806) (v : Int) (h : Lib.atoiAll s.data.toList = .ok v) (w : World) :
    Calls Tryz.prog 52 #[.string s] w fun e w' => e = .returned (.tuple #[.int .i64 v, .nilIface]) ∧ (w' = w ∨ ∃ t, w' = Lib.bytesWorld w 5 t) := Any.strconv_Atoi_ok Tryz.laysC172 s hmax v h w
open Go.RowKit in
theorem Tryz.strconv_Atoi_syntax (s : ByteArray) (hlim : s.size ≤ 281474976710656) (h : Lib.atoiAll s.data.toList = Lib.NumEnd.syntax) (ev : Value) (w : World) (hv : w.cell? ⟨1, 0, none⟩ = some ev) (hev : ev = .nilIface ∨ ∃ te pe, ev = .iface te pe) :
    Calls Tryz.prog 52 #[.string s] w fun e w' => ∃ N, e = .returned (.tuple #[.int .i64 (0), .iface 117 (.pointer (some ⟨N, 0, none⟩))]) ∧ w.heap.size ≤ N ∧ w'.heap[N]? = some (.cells #[.string ⟨#[65, 116, 111, 105]⟩, .string s, ev] 162 (0, 0)) ∧ Below w.heap.size w w' := Any.strconv_Atoi_syntax Tryz.laysC172 s hlim h ev w hv hev
open Go.RowKit in
theorem Tryz.strconv_Atoi_range (s : ByteArray) (hlim : s.size ≤ 281474976710656) (h : Lib.atoiAll s.data.toList = .range) (ev : Value) (w : World) (hv : w.cell? ⟨2, 0, none⟩ = some ev) (hev : ev = .nilIface ∨ ∃ te pe, ev = .iface te pe) :
    Calls Tryz.prog 52 #[.string s] w fun e w' => ∃ N, e = .returned (.tuple #[.int .i64 (Lib.atoiSat s.data.toList), .iface 117 (.pointer (some ⟨N, 0, none⟩))]) ∧ w.heap.size ≤ N ∧ w'.heap[N]? = some (.cells #[.string ⟨#[65, 116, 111, 105]⟩, .string s, ev] 162 (0, 0)) ∧ Below w.heap.size w w' := Any.strconv_Atoi_range Tryz.laysC172 s hlim h ev w hv hev
def Tryz.lays145_ren : Go.Shelf.Ren := ⟨fun | 145 => 26 | 220 => 50 | 219 => 71 | 217 => 92 | 225 => 93 | 224 => 94 | 267 => 95 | 266 => 127 | 314 => 128 | n => n, fun | 9 => 9 | 4 => 4 | 59 => 52 | 3 => 3 | 5 => 5 | 46 => 113 | 146 => 155 | 51 => 154 | n => n, fun | 1 => 0 | n => n⟩
theorem Tryz.lays145 : Go.Proofs.Lays.n145 Tryz.prog Tryz.lays145_ren := {
  mixed := by kernel_rfl
  f145 := Tryz.func26.trans (congrArg some (by kernel_rfl))
  f217 := Tryz.func92.trans (congrArg some (by kernel_rfl))
  f219 := Tryz.func71.trans (congrArg some (by kernel_rfl))
  f220 := Tryz.func50.trans (congrArg some (by kernel_rfl))
  f224 := Tryz.func94.trans (congrArg some (by kernel_rfl))
  f225 := Tryz.func93.trans (congrArg some (by kernel_rfl))
  f266 := Tryz.func127.trans (congrArg some (by kernel_rfl))
  f267 := Tryz.func95.trans (congrArg some (by kernel_rfl))
  f314 := Tryz.func128.trans (congrArg some (by kernel_rfl))
  t3 := Tryz.underlying3
  a3 := Tryz.isAgg3
  z3 := Tryz.sizeOf3
  v3 := Tryz.zeroValue3
  t4 := Tryz.underlying4
  a4 := Tryz.isAgg4
  z4 := Tryz.sizeOf4
  v4 := Tryz.zeroValue4
  t5 := Tryz.underlying5
  a5 := Tryz.isAgg5
  z5 := Tryz.sizeOf5
  v5 := Tryz.zeroValue5
  t9 := Tryz.underlying9
  a9 := Tryz.isAgg9
  z9 := Tryz.sizeOf9
  v9 := Tryz.zeroValue9
  t46 := Tryz.underlying113
  a46 := Tryz.isAgg113
  z46 := Tryz.sizeOf113
  v46 := Tryz.zeroValue113
  t51 := Tryz.underlying154
  a51 := Tryz.isAgg154
  z51 := Tryz.sizeOf154
  v51 := Tryz.zeroValue154
  t59 := Tryz.underlying52
  a59 := Tryz.isAgg52
  z59 := Tryz.sizeOf52
  v59 := Tryz.zeroValue52
  t146 := Tryz.underlying155
  a146 := Tryz.isAgg155
  z146 := Tryz.sizeOf155
  v146 := Tryz.zeroValue155
  g1 := by kernel_rfl }
open Go.RowKit Go.Lib in
theorem Tryz.strings_Cut (s sep : ByteArray) (m : Int) (w : World) (hs : s.size < 4294967281) (hm : w.cell? ⟨0, 0, none⟩ = some (.int .i64 m)) :
    Calls Tryz.prog 26 #[.string s, .string sep] w fun e w' => e = .returned (.tuple #[.string ⟨(Lib.cut s.data.toList sep.data.toList).1.toArray⟩, .string ⟨(Lib.cut s.data.toList sep.data.toList).2.1.toArray⟩, .bool (Lib.cut s.data.toList sep.data.toList).2.2]) ∧ ∃ n, w' = w.drewN n := Any.strings_Cut Tryz.lays145 s sep m w hs hm
def Tryz.lays146_ren : Go.Shelf.Ren := ⟨fun | 146 => 34 | 221 => 56 | 268 => 75 | 138 => 76 | 143 => 77 | 195 => 102 | 197 => 103 | 218 => 104 | 219 => 71 | 260 => 136 | 217 => 92 | 225 => 93 | 224 => 94 | 267 => 95 | 266 => 127 | 314 => 128 | n => n, fun | 9 => 9 | 31 => 45 | 3 => 3 | 4 => 4 | 0 => 0 | 105 => 122 | 21 => 21 | 5 => 5 | 46 => 113 | 119 => 218 | 139 => 221 | 138 => 220 | 146 => 155 | 51 => 154 | n => n, fun | 1 => 0 | 3 => 4 | 4 => 5 | n => n⟩
theorem Tryz.lays146 : Go.Proofs.Lays.n146 Tryz.prog Tryz.lays146_ren := {
  mixed := by kernel_rfl
  f138 := Tryz.func76.trans (congrArg some (by kernel_rfl))
  f143 := Tryz.func77.trans (congrArg some (by kernel_rfl))
  f146 := Tryz.func34.trans (congrArg some (by kernel_rfl))
  f195 := Tryz.func102.trans (congrArg some (by kernel_rfl))
  f197 := Tryz.func103.trans (congrArg some (by kernel_rfl))
  f217 := Tryz.func92.trans (congrArg some (by kernel_rfl))
  f218 := Tryz.func104.trans (congrArg some (by kernel_rfl))
  f219 := Tryz.func71.trans (congrArg some (by kernel_rfl))
  f221 := Tryz.func56.trans (congrArg some (by kernel_rfl))
  f224 := Tryz.func94.trans (congrArg some (by kernel_rfl))
  f225 := Tryz.func93.trans (congrArg some (by kernel_rfl))
  f260 := Tryz.func136.trans (congrArg some (by kernel_rfl))
  f266 := Tryz.func127.trans (congrArg some (by kernel_rfl))
  f267 := Tryz.func95.trans (congrArg some (by kernel_rfl))
  f268 := Tryz.func75.trans (congrArg some (by kernel_rfl))
  f314 := Tryz.func128.trans (congrArg some (by kernel_rfl))
  t0 := Tryz.underlying0
  a0 := Tryz.isAgg0
  z0 := Tryz.sizeOf0
  v0 := Tryz.zeroValue0
  t3 := Tryz.underlying3
  a3 := Tryz.isAgg3
  z3 := Tryz.sizeOf3
  v3 := Tryz.zeroValue3
  t4 := Tryz.underlying4
  a4 := Tryz.isAgg4
  z4 := Tryz.sizeOf4
  v4 := Tryz.zeroValue4
  t5 := Tryz.underlying5
  a5 := Tryz.isAgg5
  z5 := Tryz.sizeOf5
  v5 := Tryz.zeroValue5
  t9 := Tryz.underlying9
  a9 := Tryz.isAgg9
  z9 := Tryz.sizeOf9
  v9 := Tryz.zeroValue9
  t21 := Tryz.underlying21
  a21 := Tryz.isAgg21
  z21 := Tryz.sizeOf21
  v21 := Tryz.zeroValue21
  t31 := Tryz.underlying45
  a31 := Tryz.isAgg45
  z31 := Tryz.sizeOf45
  v31 := Tryz.zeroValue45
  t46 := Tryz.underlying113
  a46 := Tryz.isAgg113
  z46 := Tryz.sizeOf113
  v46 := Tryz.zeroValue113
  t51 := Tryz.underlying154
  a51 := Tryz.isAgg154
  z51 := Tryz.sizeOf154
  v51 := Tryz.zeroValue154
  t105 := Tryz.underlying122
  a105 := Tryz.isAgg122
  z105 := Tryz.sizeOf122
  v105 := Tryz.zeroValue122
  t119 := Tryz.underlying218
  a119 := Tryz.isAgg218
  z119 := Tryz.sizeOf218
  t138 := Tryz.underlying220
  a138 := Tryz.isAgg220
  z138 := Tryz.sizeOf220
  v138 := Tryz.zeroValue220
  t139 := Tryz.underlying221
  a139 := Tryz.isAgg221
  z139 := Tryz.sizeOf221
  v139 := Tryz.zeroValue221
  t146 := Tryz.underlying155
  a146 := Tryz.isAgg155
  z146 := Tryz.sizeOf155
  v146 := Tryz.zeroValue155
  g1 := by kernel_rfl
  g3 := by kernel_rfl
  g4 := by kernel_rfl }
open Go.RowKit Go.Lib in
theorem Tryz.strings_Split (s sep : ByteArray) (m : Int) (w : World) (hs : s.size < 4294967281) (hm : w.cell? ⟨0, 0, none⟩ = some (.int .i64 m)) (h1 : 1 ≤ sep.size) :
    Calls Tryz.prog 34 #[.string s, .string sep] w fun e w' =>
      e = .returned (.slice (some ⟨w.heap.size, 0, none⟩) (Lib.countB s sep + 1) (Lib.countB s sep + 1)) ∧ w' = w.alloc (.cells ((Lib.splitB sep 0 (Lib.countB s sep) s).map Value.string).toArray 9) := Any.strings_Split Tryz.lays146 (by kernel_rfl) s sep m w hs hm h1
def Tryz.lays105_ren : Go.Shelf.Ren := ⟨fun | 105 => 119 | 212 => 158 | 99 => 159 | 165 => 160 | 166 => 161 | 170 => 162 | 169 => 163 | 263 => 197 | 264 => 198 | 206 => 199 | 240 => 200 | 241 => 201 | 276 => 234 | 277 => 235 | n => n, fun | 9 => 9 | 3 => 3 | 4 => 4 | 20 => 20 | 0 => 0 | 46 => 113 | 109 => 194 | 5 => 5 | 72 => 199 | 76 => 70 | 51 => 154 | 146 => 155 | 53 => 157 | 148 => 250 | 70 => 197 | 37 => 40 | 75 => 69 | 127 => 210 | 164 => 281 | 80 => 202 | n => n, fun | n => n⟩
theorem Tryz.lays105 : Go.Proofs.Lays.n105 Tryz.prog Tryz.lays105_ren := {
  mixed := by kernel_rfl
  f99 := Tryz.func159.trans (congrArg some (by kernel_rfl))
  f105 := Tryz.func119.trans (congrArg some (by kernel_rfl))
  f165 := Tryz.func160.trans (congrArg some (by kernel_rfl))
  f166 := Tryz.func161.trans (congrArg some (by kernel_rfl))
  f169 := Tryz.func163.trans (congrArg some (by kernel_rfl))
  f170 := Tryz.func162.trans (congrArg some (by kernel_rfl))
  f206 := Tryz.func199.trans (congrArg some (by kernel_rfl))
  f212 := Tryz.func158.trans (congrArg some (by kernel_rfl))
  f240 := Tryz.func200.trans (congrArg some (by kernel_rfl))
  f241 := Tryz.func201.trans (congrArg some (by kernel_rfl))
  f263 := Tryz.func197.trans (congrArg some (by kernel_rfl))
  f264 := Tryz.func198.trans (congrArg some (by kernel_rfl))
  f276 := Tryz.func234.trans (congrArg some (by kernel_rfl))
  f277 := Tryz.func235.trans (congrArg some (by kernel_rfl))
  t0 := Tryz.underlying0
  a0 := Tryz.isAgg0
  z0 := Tryz.sizeOf0
  v0 := Tryz.zeroValue0
  t3 := Tryz.underlying3
  a3 := Tryz.isAgg3
  z3 := Tryz.sizeOf3
  v3 := Tryz.zeroValue3
  t4 := Tryz.underlying4
  a4 := Tryz.isAgg4
  z4 := Tryz.sizeOf4
  v4 := Tryz.zeroValue4
  t5 := Tryz.underlying5
  a5 := Tryz.isAgg5
  z5 := Tryz.sizeOf5
  v5 := Tryz.zeroValue5
  t9 := Tryz.underlying9
  a9 := Tryz.isAgg9
  z9 := Tryz.sizeOf9
  v9 := Tryz.zeroValue9
  t20 := Tryz.underlying20
  a20 := Tryz.isAgg20
  z20 := Tryz.sizeOf20
  v20 := Tryz.zeroValue20
  t37 := Tryz.underlying40
  a37 := Tryz.isAgg40
  z37 := Tryz.sizeOf40
  v37 := Tryz.zeroValue40
  t46 := Tryz.underlying113
  a46 := Tryz.isAgg113
  z46 := Tryz.sizeOf113
  v46 := Tryz.zeroValue113
  t51 := Tryz.underlying154
  a51 := Tryz.isAgg154
  z51 := Tryz.sizeOf154
  v51 := Tryz.zeroValue154
  t53 := Tryz.underlying157
  a53 := Tryz.isAgg157
  z53 := Tryz.sizeOf157
  v53 := Tryz.zeroValue157
  t70 := Tryz.underlying197
  a70 := Tryz.isAgg197
  z70 := Tryz.sizeOf197
  v70 := Tryz.zeroValue197
  t72 := Tryz.underlying199
  a72 := Tryz.isAgg199
  z72 := Tryz.sizeOf199
  v72 := Tryz.zeroValue199
  t75 := Tryz.underlying69
  a75 := Tryz.isAgg69
  z75 := Tryz.sizeOf69
  v75 := Tryz.zeroValue69
  t76 := Tryz.underlying70
  a76 := Tryz.isAgg70
  z76 := Tryz.sizeOf70
  v76 := Tryz.zeroValue70
  t109 := Tryz.underlying194
  a109 := Tryz.isAgg194
  z109 := Tryz.sizeOf194
  v109 := Tryz.zeroValue194
  t127 := Tryz.underlying210
  a127 := Tryz.isAgg210
  z127 := Tryz.sizeOf210
  v127 := Tryz.zeroValue210
  t146 := Tryz.underlying155
  a146 := Tryz.isAgg155
  z146 := Tryz.sizeOf155
  v146 := Tryz.zeroValue155
  t148 := Tryz.underlying250
  a148 := Tryz.isAgg250
  z148 := Tryz.sizeOf250
  v148 := Tryz.zeroValue250
  t164 := Tryz.underlying281
  a164 := Tryz.isAgg281
  z164 := Tryz.sizeOf281
  v164 := Tryz.zeroValue281 }
theorem Tryz.Builder_Extra_105 : Builder.Extra Tryz.prog Tryz.lays105_ren := {
  sizeBuilder := by kernel_rfl
  liesBuilder := by kernel_rfl
  t5 := Tryz.underlying5
  a5 := Tryz.isAgg5
  z5 := Tryz.sizeOf5
  v5 := Tryz.zeroValue5
  infoByte := by kernel_rfl
  cellsByte := by kernel_rfl
  sizeByte := by kernel_rfl
  neB5 := by decide }
open Go.RowKit Go.Lib in
theorem Tryz.strings_Repeat (s : ByteArray) (c : Nat) (w : World) (hc : c ≤ 9223372036854775807) (hlen : s.size * c ≤ 140737488355328) :
    Calls Tryz.prog 119 #[.string s, .int .i64 c] w fun e w' => e = .returned (.string ⟨(Lib.repeatL s.data.toList c).toArray⟩) ∧ Below w.heap.size w w' := Any.strings_Repeat Tryz.lays105 Tryz.Builder_Extra_105 s c w hc hlen
end Go.Proofs
namespace Go.Proofs.YtkfbakhnpfmfmaaGreatDoor
set_option maxRecDepth 10000
open Go.RowKit
set_option linter.unusedVariables false
set_option linter.unusedSimpArgs false
set_option maxRecDepth 100000
abbrev RP (b : Nat) : Value := .pointer (some ⟨b, 0, none⟩)
theorem rev_emb (w : World) (b f : Nat) (sv : Value) (nm : String) (h : w.cell? ⟨b, 0, none⟩ = some (.iface 153 sv))
    (hm : (((Tryz.prog.info? 206).bind fun i => i.methods.find? (·.name == nm)).map fun m => (m.path, m.func)) = some (#[⟨208, 0, true⟩], none))
    (hi : Sem.run Tryz.prog (method (Tryz.prog.types.size + 99) 153 sv nm) w = .ok (f, sv) w) :
    Sem.run Tryz.prog (method (Tryz.prog.types.size + 100) 206 (RP b) nm) w = .ok (f, sv) w := by
  obtain ⟨m, hm1, hm2⟩ := Option.map_eq_some_iff.1 hm
  obtain ⟨i, hi', hm'⟩ := Option.bind_eq_some_iff.1 hm1
  have hpa : m.path = #[⟨208, 0, true⟩] := congrArg Prod.fst hm2
  have hfu : m.func = none := congrArg Prod.snd hm2
  have u := run_underlying Tryz.underlying208
  unfold method
  have hl : Sem.run Tryz.prog (Sem.load Mode.plain ({ block := b, off := 0 } : Addr) Sem.pure) w = .ok (.iface 153 sv) w := by
    simp [Sem.run, h]
  simp [typeInfo, hi', hm', hpa, hfu, follow, Place.get, u, asAddr, loadVar, isAgg, load, h, fieldPlace]
  rw [show ({ block := b, off := 0 } : Addr).add 0 = { block := b, off := 0 } from rfl, hl]
  exact hi
theorem rev_less (w : World) (b : Nat) (sv : Value) (h : w.cell? ⟨b, 0, none⟩ = some (.iface 153 sv)) :
    Sem.run Tryz.prog (method (Tryz.prog.types.size + 100) 206 (RP b) "Less") w = .ok (277, .agg #[.iface 153 sv]) w := by
  have hm : (((Tryz.prog.info? 206).bind fun i => i.methods.find? (·.name == "Less")).map fun m => (m.path, m.func)) = some (#[], some (277, false)) := by kernel_rfl
  obtain ⟨m, hm1, hm2⟩ := Option.map_eq_some_iff.1 hm
  obtain ⟨i, hi', hm'⟩ := Option.bind_eq_some_iff.1 hm1
  have hpa : m.path = #[] := congrArg Prod.fst hm2
  have hfu : m.func = some (277, false) := congrArg Prod.snd hm2
  have u := run_underlying Tryz.underlying206
  have u2 := run_underlying Tryz.underlying208
  unfold method
  have hlv : Sem.run Tryz.prog (loadVar 208 ⟨b, 0, none⟩) w = .ok (.agg #[.iface 153 sv]) w := by
    have a1 := Tryz.isAgg208
    have a2 := Tryz.sizeOf208
    have hl : Sem.run Tryz.prog (Sem.load Mode.plain ({ block := b, off := 0 } : Addr) Sem.pure) w = .ok (.iface 153 sv) w := by
      simp [Sem.run, h]
    unfold loadVar loadCells
    simp [a1, a2, loadCellsFrom, load]
    rw [show ({ block := b, off := 0 } : Addr).add 0 = { block := b, off := 0 } from rfl, hl]
    rfl
  have hk : ∀ (x y : ByteArray) (w : World), Sem.run Tryz.prog (Builtin.ssaWrapNilChk_ #[206] 206 #[RP b, .string x, .string y]) w = .ok (RP b) w := fun _ _ _ => rfl
  have hf : Sem.run Tryz.prog (follow [] 206 (Place.val (RP b))) w = .ok (206, Place.val (RP b)) w := rfl
  have hr : ∀ x, Sem.run Tryz.prog (receiverAt 206 (Place.val (RP b)) false (some x)) w = .ok (.agg #[.iface 153 sv]) w := by
    intro x
    unfold receiverAt
    simp [u, Place.get, strVal, hk, asAddr, hlv]
  simp [typeInfo, hi', hm', hpa, hfu, hf, hr]
open Go.Lib Go.Sort
set_option maxHeartbeats 4000000
abbrev SV (blk off n c : Nat) : Value := .slice (some ⟨blk, off, none⟩) n c
theorem is_len (blk off n c : Nat) (w : World) : Sem.run Tryz.prog (method (Tryz.prog.types.size + 99) 153 (SV blk off n c) "Len") w = .ok (272, SV blk off n c) w := by kernel_rfl
theorem is_swap (blk off n c : Nat) (w : World) : Sem.run Tryz.prog (method (Tryz.prog.types.size + 99) 153 (SV blk off n c) "Swap") w = .ok (275, SV blk off n c) w := by kernel_rfl
theorem is_less (blk off n c : Nat) (w : World) : Sem.run Tryz.prog (method (Tryz.prog.types.size + 100) 153 (SV blk off n c) "Less") w = .ok (273, SV blk off n c) w := by kernel_rfl
theorem isl_Less (blk off c size : Nat) (W : World) (G : Nat → Int) (hc : ∀ t, t < size → W.cell? ⟨blk, off + t, none⟩ = some (.int .i64 (G t))) (i j : Nat) (hi : i < size) (hj : j < size) (_hsz : size < 4611686018427387904) :
    Calls Tryz.prog 273 #[SV blk off size c, .int .i64 i, .int .i64 j] W fun e w' => e = .returned (.bool (decide (G i < G j))) ∧ ∃ q, w' = W.drewN q := by
  have ci := hc i hi
  have cj := hc j hj
  go_enter Tryz.func273, Tryz.ntmps273
  go_wp2
  go_quiet (fail)
  go_wp2
  go_ret
  exact ⟨rfl, nq, rfl⟩
theorem isl_Swap (blk off c size : Nat) (W : World) (x y : Int) (i j : Nat) (hi : i < size) (hj : j < size) (_hsz : size < 4611686018427387904)
    (ci : W.cell? ⟨blk, off + i, none⟩ = some (.int .i64 x)) (cj : W.cell? ⟨blk, off + j, none⟩ = some (.int .i64 y)) (fi : W.frozen? ⟨blk, off + i, none⟩ = false) (fj : W.frozen? ⟨blk, off + j, none⟩ = false) :
    Calls Tryz.prog 275 #[SV blk off size c, .int .i64 i, .int .i64 j] W fun e w' => e = .returned (.tuple #[]) ∧ ∃ q, w' = ((W.setCell ⟨blk, off + i, none⟩ (.int .i64 y)).setCell ⟨blk, off + j, none⟩ (.int .i64 x)).drewN q := by
  obtain ⟨v', hy'⟩ := cell?_setCell_some (w := W) (p := ⟨blk, off + i, none⟩) (x := .int .i64 y) (q := ⟨blk, off + j, none⟩) cj
  go_enter Tryz.func275, Tryz.ntmps275
  go_wp2
  go_region
  all_goals (try go_wp2)
  all_goals go_end0
  all_goals exact ⟨rfl, 1, rfl⟩
theorem isl_Len (blk off c size : Nat) (W : World) : Calls Tryz.prog 272 #[SV blk off size c] W fun e w' => e = .returned (.int .i64 size) ∧ w' = W := by
  go_enter Tryz.func272, Tryz.ntmps272
  go_wp2
  go_ret
  exact ⟨rfl, rfl⟩
theorem rev_Less (blk off c size : Nat) (W : World) (G : Nat → Int) (hc : ∀ t, t < size → W.cell? ⟨blk, off + t, none⟩ = some (.int .i64 (G t))) (hb : blk < W.heap.size) (i j : Nat) (hi : i < size) (hj : j < size) (hsz : size < 4611686018427387904) :
    Calls Tryz.prog 277 #[.agg #[.iface 153 (SV blk off size c)], .int .i64 i, .int .i64 j] W fun e w' => e = .returned (.bool (decide (G j < G i))) ∧ ∃ o q, w' = (W.alloc o).drewN q := by
  have mL := is_less blk off size c
  have eL : ∀ args w, (callFunc 273 args).run Tryz.prog w = .ok (.enter 273 args) w := enters_of Tryz.func273 (by kernel_rfl) rfl
  simp at mL
  have hl : ∀ o, Calls Tryz.prog 273 #[SV blk off size c, .int .i64 j, .int .i64 i] (W.alloc o) fun e w' => e = .returned (.bool (decide (G j < G i))) ∧ ∃ q, w' = (W.alloc o).drewN q := fun o =>
    isl_Less blk off c size _ G (fun t ht => (Below.cell (Up.al o (Up.rfl' W)) (p := ⟨blk, off + t, none⟩) hb).trans (hc t ht)) j i hj hi hsz
  go_enter Tryz.func277, Tryz.ntmps277
  go_wp2_with (go_at_fn 273; refine (hl _).mono ?_; rintro e w' ⟨rfl, q, rfl⟩)
  go_ret
  exact ⟨rfl, _, q, rfl⟩
theorem SW.cellO {w0 W : World} {blk off : Nat} {dk : Array Int} (h : SW (Value.int .i64) w0 blk off dk W) {b o : Nat} (hb : b < w0.heap.size) (hne : b ≠ blk) : W.cell? ⟨b, o, none⟩ = w0.cell? ⟨b, o, none⟩ := by
  obtain ⟨n, os, rfl⟩ := h
  unfold sortWorld
  rw [cell?_grow _ _ _ (by simpa using hb), cell?_putRow_other _ _ _ _ _ _ (.inl hne)]
  rfl
def gtI (x y : Int) : Bool := decide (y < x)
theorem insSort (blk off c b bR : Nat) (d : Array Int) (w : World) (hH : Holds (Value.int .i64) w blk off d) (hblk : blk < w.heap.size) (hR : w.cell? ⟨bR, 0, none⟩ = some (.iface 153 (SV blk off d.size c))) (hRb : bR < w.heap.size) (hne : bR ≠ blk)
    (hab : 0 ≤ b) (hb : b ≤ d.size) (hsz : d.size < 4611686018427387904) :
    Calls Tryz.prog 203 #[.iface 206 (RP bR), .int .i64 0, .int .i64 b] w fun e w' => e = .returned (.tuple #[]) ∧ SW (Value.int .i64) w blk off (Sort.insertionSort gtI d 0 b) w' := by
  have eL : ∀ args w, (callFunc 277 args).run Tryz.prog w = .ok (.enter 277 args) w := enters_of Tryz.func277 (by kernel_rfl) rfl
  have eS : ∀ args w, (callFunc 275 args).run Tryz.prog w = .ok (.enter 275 args) w := enters_of Tryz.func275 (by kernel_rfl) rfl
  go_enter Tryz.func203, Tryz.ntmps203
  go_wp2
  go_loopw [6] (fun vi wr => ∃ (i : Nat) (dk : Array Int), vi = .int .i64 i ∧ 0 < i ∧ i ≤ b + 1 ∧ dk.size = d.size ∧ SW (Value.int .i64) w blk off dk wr ∧
      insOuter gtI 0 b i dk = insOuter gtI 0 b (0 + 1) d) (fun vi _ => b + 1 - (intOf vi).toNat)
  case atStart => exact ⟨1, d, by go_num, by omega, by omega, rfl, SW.start hH, rfl⟩
  case round =>
    obtain ⟨i, dk, rfl, hai, hib, hsk, hwr, hO⟩ := hrel
    have HO : Hid (insOuter gtI 0 b i dk = insOuter gtI 0 b (0 + 1) d) := hO
    clear hO
    go_wp2
    · go_loopw [7] (fun vj wr2 => ∃ (j : Nat) (dj : Array Int), vj = .int .i64 j ∧ j ≤ i ∧ dj.size = d.size ∧ SW (Value.int .i64) w blk off dj wr2 ∧
          insInner gtI 0 j dj = insInner gtI 0 i dk) (fun vj _ => (intOf vj).toNat)
      case atStart => exact ⟨i, dk, rfl, Nat.le_refl _, hsk, hwr, rfl⟩
      case round =>
        obtain ⟨j, dj, rfl, hji, hsj, hw2, hI⟩ := hrel
        have hlt : i < b := by assumption
        have HW : Hid (SW (Value.int .i64) w blk off dj wr) := hw2
        have HI : Hid (insInner gtI 0 j dj = insInner gtI 0 i dk) := hI
        have hHj := hw2.holds hblk hH hsj
        have hbw := hw2.lt hblk
        have hRw : wr.cell? ⟨bR, 0, none⟩ = some (.iface 153 (SV blk off d.size c)) := (SW.cellO hw2 hRb hne).trans hR
        clear hw2 hI
        have out : (j ≤ 0 ∨ gtI dj[j]! dj[j - 1]! = false) → ∀ W, SW (Value.int .i64) w blk off dj W → ∃ (i' : Nat) (dk' : Array Int), Value.int .i64 ((i : Int) + 1) = .int .i64 (i' : Nat) ∧ 0 < i' ∧ i' ≤ b + 1 ∧ dk'.size = d.size ∧
            SW (Value.int .i64) w blk off dk' W ∧ insOuter gtI 0 b i' dk' = insOuter gtI 0 b (0 + 1) d := fun hs W hW =>
          ⟨i + 1, dj, by go_num, by omega, by omega, hsj, hW,
            by rw [← HO.out, insOuter_go _ _ _ _ _ hlt, ← HI.out, insInner_stop _ _ _ _ hs]⟩
        have OUT : Hid _ := out
        clear out
        by_cases hja : 0 < j
        · have mL := rev_less wr bR _ hRw
          simp at mL
          have hl := rev_Less blk off c d.size wr (fun t => dj[t]!) (fun t ht => (hHj t (by omega)).1) hbw j (j - 1) (by omega) (by omega) hsz
          rw [show (((j - 1 : Nat) : Int)) = (j : Int) - 1 by omega] at hl
          have W2 : Hid (∀ o q, SW (Value.int .i64) w blk off dj ((wr.alloc o).drewN q)) := fun o q => (HW.out.alloc o).drewN q
          have mS : ∀ o q, Sem.run Tryz.prog (method (Tryz.prog.types.size + 100) 206 (RP bR) "Swap") ((wr.alloc o).drewN q) = .ok (275, SV blk off d.size c) ((wr.alloc o).drewN q) := fun o q =>
            rev_emb ((wr.alloc o).drewN q) bR 275 (SV blk off d.size c) "Swap" ((SW.cellO (W2.out o q) hRb hne).trans hR) (by kernel_rfl) (is_swap _ _ _ _ _)
          simp at mS
          have hsw : ∀ o q, Calls Tryz.prog 275 #[SV blk off d.size c, .int .i64 j, .int .i64 ((j - 1 : Nat) : Int)] ((wr.alloc o).drewN q) fun e w' => e = .returned (.tuple #[]) ∧ SW (Value.int .i64) w blk off (swp dj j (j - 1)) w' := fun o q => by
            have hh := (W2.out o q).holds hblk hH hsj
            refine (isl_Swap blk off c d.size _ _ _ j (j - 1) (by omega) (by omega) hsz (hh j (by omega)).1 (hh (j - 1) (by omega)).1 (hh j (by omega)).2 (hh (j - 1) (by omega)).2).mono ?_
            rintro e w' ⟨rfl, q', rfl⟩
            exact ⟨rfl, ((W2.out o q).swap hblk j (j - 1) (by omega) (by omega)).drewN q'⟩
          rw [show (((j - 1 : Nat) : Int)) = (j : Int) - 1 by omega] at hsw
          change Calls _ _ _ _ fun e w' => e = .returned (.bool (gtI dj[j]! dj[j - 1]!)) ∧ _ at hl
          cases hlv : gtI dj[j]! dj[j - 1]! with
          | true =>
            rw [hlv] at hl
            go_wp2_with (first
              | (go_at_fn 277; refine hl.mono ?_; rintro e w' ⟨rfl, o, q, rfl⟩)
              | (go_at_fn 275; refine (hsw _ _).mono ?_; rintro e w' ⟨rfl, hS⟩))
            go_roundw
            case rel =>
              (repeat apply Exists.intro)
              refine ⟨⟨j - 1, swp dj j (j - 1), by congr 1 <;> omega, by omega, by rw [size_swp]; exact hsj, hS, ?_⟩, by rw [decide_eq_true hlt, show ((j - 1 : Nat) : Int) = (j : Int) - 1 by omega]⟩
              rw [← HI.out, insInner_go gtI 0 j dj hja hlv]
            case measure => simp [intOf]; omega
          | false =>
            rw [hlv] at hl
            go_wp2_with (go_at_fn 277; refine hl.mono ?_; rintro e w' ⟨rfl, o, q, rfl⟩)
            go_roundw
            case rel => exact OUT.out (Or.inr hlv) _ (W2.out o q)
            case measure => simp [intOf]; omega
        · go_wp2
          go_roundw
          case rel => exact OUT.out (Or.inl (by omega)) _ HW.out
          case measure => simp [intOf]; omega
    · have hge : ¬ i < b := by assumption
      go_end0
      exact ⟨rfl, by unfold Sort.insertionSort; rw [← HO.out, insOuter_stop _ _ _ _ _ hge]; exact hwr⟩
end Go.Proofs.YtkfbakhnpfmfmaaGreatDoor
namespace Go.Proofs.YtkfbakhnpfmfmaaGreatDoor
set_option maxRecDepth 10000
open Go.RowKit Go.Lib Go.Sort
set_option linter.unusedVariables false
set_option linter.unusedSimpArgs false
set_option maxRecDepth 100000
set_option maxHeartbeats 4000000
theorem pdq3 (blk off c lim bR : Nat) (d : Array Int) (w : World) (hH : Holds (Value.int .i64) w blk off d) (hblk : blk < w.heap.size) (hd : d.size = 3) (hR : w.cell? ⟨bR, 0, none⟩ = some (.iface 153 (SV blk off d.size c))) (hRb : bR < w.heap.size) (hne : bR ≠ blk) :
    Calls Tryz.prog 166 #[.iface 206 (RP bR), .int .i64 0, .int .i64 3, .int .i64 lim] w fun e w' => e = .returned (.tuple #[]) ∧ SW (Value.int .i64) w blk off (Sort.insertionSort gtI d 0 3) w' := by
  have hi := insSort blk off c 3 bR d w hH hblk hR hRb hne (by omega) (by omega) (by omega)
  rw [show ((3 : Nat) : Int) = 3 from rfl] at hi
  clear hH hR
  go_enter Tryz.func166, Tryz.ntmps166
  go_wp2
  go_loopw [1, 2] (fun v1 v2 wr => v1 = .int .i64 0 ∧ v2 = .int .i64 3 ∧ wr = w) (fun _ _ _ => 0)
  case atStart => exact ⟨rfl, rfl, rfl⟩
  case round =>
    obtain ⟨rfl, rfl, rfl⟩ := hrel
    go_wp2_with (go_at_call 203; refine hi.mono ?_; rintro e w' ⟨rfl, hS⟩)
    (try simp only [Exit.inBlock, Exit.then])
    refine bodyPost_ret (results_none rfl _ _ _) rfl ?_
    exact ⟨rfl, hS⟩
theorem sortRev3 (blk off c bR : Nat) (d : Array Int) (w : World) (hH : Holds (Value.int .i64) w blk off d) (hblk : blk < w.heap.size) (hd : d.size = 3) (hR : w.cell? ⟨bR, 0, none⟩ = some (.iface 153 (SV blk off d.size c))) (hRb : bR < w.heap.size) (hne : bR ≠ blk) :
    Calls Tryz.prog 122 #[.iface 206 (RP bR)] w fun e w' => e = .returned (.tuple #[]) ∧ SW (Value.int .i64) w blk off (Sort.insertionSort gtI d 0 3) w' := by
  have mN := rev_emb w bR 272 (SV blk off d.size c) "Len" hR (by kernel_rfl) (is_len _ _ _ _ _)
  simp at mN
  have eN : ∀ args w, (callFunc 272 args).run Tryz.prog w = .ok (.enter 272 args) w := enters_of Tryz.func272 (by kernel_rfl) rfl
  have hN := isl_Len blk off c d.size w
  have hL := Tryz.bits_Len 3 w (by omega) (by omega)
  have hp := fun lim => pdq3 blk off c lim bR d w hH hblk hd hR hRb hne
  rw [hd] at mN hN
  rw [show ((3 : Nat) : Int) = 3 from rfl] at hN
  clear hH hR
  go_enter Tryz.func122, Tryz.ntmps122
  go_wp2_with (first
    | (go_at_fn 272; refine hN.mono ?_; rintro e w' ⟨rfl, rfl⟩)
    | (go_at_call 165; refine hL.mono ?_; rintro e w' ⟨rfl, rfl⟩)
    | (go_at_call 166; refine (hp _).mono ?_; rintro e w' ⟨rfl, hS⟩))
  all_goals first
    | (exfalso; omega)
    | (go_end0; exact ⟨rfl, hS⟩)
theorem el_int3 : ElT Tryz.prog 24 3 (Enc.k Int) 8 := ElT.mk' (z := .int .i64 0) Tryz.underlying24 (by kernel_rfl) rfl
theorem flat_intsI (ls : List Int) : flat ls = ls.map (Value.int .i64) := by
  induction ls with
  | nil => rfl
  | cons x xs ih => rw [flat_cons, ih]; rfl
theorem own3 {w : World} {B : Nat} {v : Value} {xs : List Int} (h : Own w B 3 v xs) (hl : xs.length = 3) : ∃ g cap cur, v = .slice (some ⟨g, 0, none⟩) 3 cap ∧ B ≤ g ∧ w.heap[g]? = some (.cells cur 3 (0, 0)) ∧ 3 ≤ cap ∧ cap ≤ maxLen ∧ cur.size = cap * 1 ∧ cur.toList.take 3 = xs.map (Value.int .i64) := by
  rcases h.2 with ⟨_, h0⟩ | ⟨g, cap, cur, hv, hB, hg, hnc, hcm, hcs, ht⟩
  · omega
  · rw [hl] at hv hnc ht
    rw [flat_intsI] at ht
    exact ⟨g, cap, cur, hv, hB, hg, hnc, hcm, hcs, ht⟩
theorem rev_call (W : World) (sv : Value) : Calls Tryz.prog 123 #[.iface 153 sv] W fun e w' => e = .returned (.iface 206 (RP W.heap.size)) ∧ w' = W.alloc (.cells #[.iface 153 sv] 208) := by
  go_enter Tryz.func123, Tryz.ntmps123
  go_wp2
  go_ret
  exact ⟨rfl, rfl⟩
def srt3 (xs : List Int) : List Int := (Sort.insertionSort gtI xs.toArray 0 3).toList
theorem size_insInner (lt : Int → Int → Bool) (a : Nat) : ∀ (j : Nat) (d : Array Int), (insInner lt a j d).size = d.size
  | 0, d => rfl
  | j + 1, d => by
    unfold insInner
    split
    · rw [size_insInner lt a j, size_swp]
    · rfl
theorem size_insOuter (lt : Int → Int → Bool) (a b : Nat) : ∀ (n i : Nat) (d : Array Int), b - i ≤ n → (insOuter lt a b i d).size = d.size
  | 0, i, d, h => by rw [insOuter, if_neg (by omega)]
  | n + 1, i, d, h => by
    rw [insOuter]
    split
    · rw [size_insOuter lt a b n (i + 1) _ (by omega), size_insInner]
    · rfl
theorem srt3_len (xs : List Int) : (srt3 xs).length = xs.length := by
  unfold srt3 Sort.insertionSort
  rw [Array.length_toList, size_insOuter _ _ _ 3 _ _ (by omega)]
  simp
theorem sortSides_any (A : Option Addr) (xs : List Int) (c : Nat) (w : World) (hr : Rd w w.heap.size A xs) (hl : xs.length = 3) :
    Calls Tryz.prog 86 #[.slice A 3 c] w fun e w' => ∃ v, e = .returned v ∧ Own w' w.heap.size 3 v (srt3 xs) ∧ Up w w' := by
  go_enter Tryz.func86, Tryz.ntmps86
  go_wp2_with (at_builtin; refine wpList_append_rd el_int3 rfl (.tmp 4) (.tmp 5) rfl (base := w.heap.size) (ys := []) (by rfl) (Own.empty w _ _ 0 _ (Nat.le_refl _) (by unfold maxLen; omega) rfl) 3 (by rfl) hl.symm (hr.up (by (repeat (first | exact Up.rfl' _ | (refine Up.al _ ?_) | (refine Up.dr _ ?_) | (refine Up.dr1 ?_) | (refine Up.sc ?_ (by first | exact Nat.le_refl _ | (simp; done) | omega) _) | (refine Up.step (by assumption) ?_))))) (by simp; omega) (by unfold maxLen; simp; omega) (by first | (simp; done) | (simp; omega) | (have h_ := hB.size; omega) | (have h_ := hB.size; simp; omega)) ?_; intro v' w1 ho1 hg1 _ hu1; refine Hid.out ?_)
  refine Lib.hid ?_
  have ho : Own w1 w.heap.size 3 v' xs := by simpa using ho1
  have hu := hu1 w (Nat.le_refl _) (by (repeat (first | exact Up.rfl' _ | (refine Up.al _ ?_) | (refine Up.dr _ ?_) | (refine Up.dr1 ?_) | (refine Up.sc ?_ (by first | exact Nat.le_refl _ | (simp; done) | omega) _) | (refine Up.step (by assumption) ?_))))
  obtain ⟨g, cap, cur, rfl, hgB, hgh, h3, hcm, hcs, hct⟩ := own3 ho hl
  have hgl : g < w1.heap.size := (Array.getElem?_eq_some_iff.1 hgh).1
  have hRv := rev_call w1 (SV g 0 3 cap)
  have hg2 : ∀ o, (w1.alloc o).heap[g]? = some (.cells cur 3 (0, 0)) := fun o => (Below.block (Up.al o (Up.rfl' w1)) g hgl).trans hgh
  have hsz : ∀ o, (w1.alloc o).heap.size = w1.heap.size + 1 := fun o => by simp
  have hS : ∀ o, o = Obj.cells #[.iface 153 (SV g 0 3 cap)] 208 (0, 0) → _ := fun o ho => sortRev3 g 0 cap w1.heap.size xs.toArray (w1.alloc o) (holds_of_blockI (hg2 o) (by rw [hl]; exact hct)) (by rw [hsz]; omega) (by simp [hl]) (by subst ho; rw [cell_of_row _ _ 0 _ _ (0, 0) (heap_alloc_new w1 _)]; simp [hl]) (by rw [hsz]; omega) (by omega)
  have hS2 := hS _ rfl
  clear hS
  go_wp2_with (first
    | (go_at_call 123; refine hRv.mono ?_; rintro e w' ⟨rfl, rfl⟩)
    | (go_at_call 122; refine hS2.mono ?_; rintro e w' ⟨rfl, hSW⟩))
  go_ret
  obtain ⟨n, os, rfl⟩ := hSW
  have hlt : (srt3 xs).length = xs.length := srt3_len xs
  have hown := ownsRow_sortedI (n := n) (os := os) (ss := xs) (ts := srt3 xs) hlt hgB (hg2 (Obj.cells #[.iface 153 (SV g 0 3 cap)] 208 (0, 0))) (by omega) hcm hcs
  refine ⟨_, rfl, ?_, ?_⟩
  · unfold Own
    rw [hlt, flat_intsI]
    rw [hl] at hown ⊢
    unfold srt3 at hown ⊢
    exact hown
  · have hgr := grownBy_sortedI (w := w1.alloc (Obj.cells #[.iface 153 (SV g 0 3 cap)] 208 (0, 0))) (g := g) (n := n) (os := os) (Sort.insertionSort gtI xs.toArray 0 3)
    have hu2 := Up.al (Obj.cells #[.iface 153 (SV g 0 3 cap)] 208 (0, 0)) hu
    exact ⟨hgr.os.trans hu2.os, hgr.tape.trans hu2.tape, hgr.output.trans hu2.output, Nat.le_trans hu2.size hgr.size, fun b hb => (hgr.block b (Nat.lt_of_lt_of_le hb hu2.size) (by simp; omega)).trans (hu2.block b hb)⟩
end Go.Proofs.YtkfbakhnpfmfmaaGreatDoor
namespace Go.Proofs.YtkfbakhnpfmfmaaGreatDoor
set_option maxRecDepth 10000
open Go.RowKit
set_option linter.unusedVariables false
set_option linter.unusedSimpArgs false
theorem ms_of_own {α : Type} [Enc α] {c : α → List PV} {T : TypeId} {S : Nat → Prop} {β : Nat → Option Blk} {w w' : World} {v : Value} {ys : List α} {ω : Nat → Key → Prop} (hk : Ok w (own0 β) (E1 S β 0 ω) w []) (ho : Own w' w.heap.size T v ys) (hu : Up w w')
    (hc : ∀ (x : α), (c x).length = Enc.k α ∧ ∀ (j : Nat) (p : PV), (c x)[j]? = some p → ∃ u, (Enc.cells x)[j]? = some u ∧ u.oneCell' = true ∧ ∀ (w : World) (E : Env), Rep w E p u) :
    ∃ E', Ok w (own0 β) E' w' [some ⟨T, Enc.k α, ys.map c⟩] ∧ (∀ b, S b → E'.S b) ∧ (∀ b, E'.S b → S b ∨ w.heap.size ≤ b ∨ own0 β b) ∧ ((∀ l B, l < 0 → E'.β l = some B → β l = some B) ∧ ∀ b q, E'.ω b q → ω b q ∨ w.heap.size ≤ b ∨ own0 β b) ∧ Rep w' E' (.ms 0) v := by
  have hesl : ∀ (i : Nat) (cs : List PV), (ys.map c)[i]? = some cs → cs.length = Enc.k α := by
    intro i cs hi
    rw [List.getElem?_map] at hi
    obtain ⟨y, _, rfl⟩ := Option.map_eq_some_iff.1 hi
    exact (hc y).1
  have key : ∀ (B : Blk), v = B.sv → v.oneCell' = true → (B.z = false → w.heap.size ≤ B.b ∧ B.b < w'.heap.size) → (∀ E, BlkRep w' E ⟨T, Enc.k α, ys.map c⟩ B) →
      ∃ E', Ok w (own0 β) E' w' [some ⟨T, Enc.k α, ys.map c⟩] ∧ (∀ b, S b → E'.S b) ∧ (∀ b, E'.S b → S b ∨ w.heap.size ≤ b ∨ own0 β b) ∧ ((∀ l B, l < 0 → E'.β l = some B → β l = some B) ∧ ∀ b q, E'.ω b q → ω b q ∨ w.heap.size ≤ b ∨ own0 β b) ∧ Rep w' E' (.ms 0) v := by
    intro B hv h1 hB hb
    obtain ⟨h2, _⟩ := hk.new (ν := 0) (fun h => absurd h (Nat.not_lt_zero 0)) ⟨T, Enc.k α, ys.map c⟩ B hu.os hu.tape hu.output hu.size (fun b hb => hu.block b hb) hB (fun _ => hb _)
    refine ⟨_, h2, fun b h => h, fun b h => .inl h, ⟨fun l B h => absurd h (Nat.not_lt_zero l), fun _ _ h => .inl h⟩, .ms 0 v (.inl rfl) h1 fun B' hB' => ?_⟩
    have : B' = B := by simpa [Env.add, eq_comm] using hB'
    rw [this]; exact hv
  rcases ho.2 with ⟨hv, h0⟩ | ⟨g, cap, cur, hv, hB, hg, hnc, hcm, hcs, ht⟩
  · have hy : ys = [] := List.length_eq_zero_iff.1 h0
    subst hy
    exact key ⟨0, 0, 0, Enc.k α, T, true⟩ (by rw [hv]; rfl) (by rw [hv]; rfl) (fun h => by cases h) fun E => ⟨rfl, rfl, rfl, Enc.pos, Nat.le_refl _, Nat.zero_le _, hesl, fun _ => rfl, fun h => (by cases h), fun _ h => by cases h⟩
  · refine key ⟨g, cap, ys.length, Enc.k α, T, false⟩ (by rw [hv]; rfl) (by rw [hv]; rfl) (fun _ => ⟨hB, (Array.getElem?_eq_some_iff.1 hg).1⟩) fun E => ⟨rfl, by simp, rfl, Enc.pos, hnc, hcm, hesl, (fun h => by cases h), fun _ => ⟨cur, hg, hcs, fun i cs j p hi hj => ?_⟩, fun _ h => by cases h⟩
    rw [List.getElem?_map] at hi
    obtain ⟨y, hy, rfl⟩ := Option.map_eq_some_iff.1 hi
    obtain ⟨hl, hcc⟩ := hc y
    obtain ⟨u, hu1, hu2, hu3⟩ := hcc j p hj
    refine ⟨u, ?_, hu2, hu3 _ _⟩
    have hf := flat_at hy hu1
    have hlt := (List.getElem?_eq_some_iff.1 hf).1
    rw [flat_len] at hlt
    have := congrArg (fun l : List Value => l[i * Enc.k α + j]?) ht
    have h2 : (cur.toList.take (ys.length * Enc.k α))[i * Enc.k α + j]? = (flat ys)[i * Enc.k α + j]? := this
    rw [List.getElem?_take_of_lt hlt, Array.getElem?_toList, hf] at h2
    exact h2
end Go.Proofs.YtkfbakhnpfmfmaaGreatDoor
namespace Go.Proofs.YtkfbakhnpfmfmaaGreatDoor
set_option maxRecDepth 10000
open Go.RowKit Go.Lib
set_option linter.unusedVariables false
set_option linter.unusedSimpArgs false
def m_impl_SortSides (l : List Int) : Option (List Int) := if l.length = 3 then some (srt3 l) else none
theorem rd_ints {w : World} {S : Nat → Prop} {xs : List Int} {x : Value} (hsz : ∀ b, S b → b < w.heap.size) (h : RepC w S (.sl (xs.map cInt)) x) : ∃ A c, x = .slice A xs.length c ∧ xs.length ≤ c ∧ Rd w w.heap.size A xs := by
  generalize hq : PV.sl (xs.map cInt) = q at h
  cases h with
  | v x h => cases hq
  | ud => cases hq
  | un => cases hq
  | rp => cases hq
  | fn => cases hq
  | nil A c =>
    have : xs = [] := by simpa using hq
    exact ⟨A, c, by rw [this]; rfl, by rw [this]; simp, by rw [this]; exact Rd.nil_⟩
  | sl es b off k c u hS hkp hnc hm hes hcc h1 hrr =>
    obtain rfl : xs.map cInt = es := by simpa using hq
    refine ⟨_, c, by simp, by simpa using hnc, fun hne => ⟨b, off, rfl, hsz b hS, fun j u' hu' => ?_⟩⟩
    have hpos : 0 < xs.length := List.length_pos_iff.2 hne
    have hk1 : k = 1 := (hes 0 (cInt xs[0]) (by simp [hpos])).symm
    subst hk1
    rw [flat_intsI] at hu'
    rw [List.getElem?_map] at hu'
    obtain ⟨y, hy, rfl⟩ := Option.map_eq_some_iff.1 hu'
    have hj := (List.getElem?_eq_some_iff.1 hy).1
    have e1 : (xs.map cInt)[j]? = some (cInt y) := by rw [List.getElem?_map, hy]; rfl
    have hc := hcc j _ 0 (vi y) e1 rfl
    have hz := hrr j _ 0 (vi y) e1 rfl
    have hz' : u j 0 = .int .i64 y := by
      generalize hp : u j 0 = z at hz
      cases hz with
      | v _ _ => rfl
    rw [hz'] at hc
    rw [show off + j = off + j * 1 + 0 by omega]
    exact hc
theorem ok_impl_SortSides (l : List Int) {r : List Int} (H : m_impl_SortSides l = some r) : CallM Tryz.prog 86 [.sl (l.map cInt)] [] (.ms 0) [some ⟨.of 3, 1, r.map cInt⟩] := by
  unfold m_impl_SortSides at H
  split at H
  case isFalse => cases H
  rename_i hl3
  obtain rfl := Option.some.inj H
  intro S β w vs ω hk hl ha
  obtain ⟨x, hx0, hr⟩ := ha 0 _ rfl
  have hv : vs = #[x] := by
    have h1 : vs.size = 1 := hl
    apply Array.ext (by simp [h1])
    intro i h2 h3
    have : i = 0 := by omega
    subst this
    have := (Array.getElem?_eq_some_iff.1 hx0).2
    simpa using this
  subst hv
  have hr0 : RepC w S (.sl (l.map cInt)) x := by cases hr with | c h => exact h
  obtain ⟨A, c, rfl, hcap, hrd⟩ := rd_ints hk.sz hr0
  rw [hl3]
  refine (sortSides_any A l c w hrd hl3).mono ?_
  rintro e w' ⟨v, rfl, ho, hu⟩
  obtain ⟨E', h1, h2, h3, h4, h5⟩ := ms_of_own (c := cInt) hk ho hu (fun x => ⟨rfl, fun j p hj => by
    cases j with
    | zero => obtain rfl : vi x = p := by simpa using hj
              exact ⟨_, rfl, rfl, fun w E => .c (.v _ rfl)⟩
    | succ j => simp [cInt] at hj⟩)
  exact ⟨v, E', rfl, h1, h2, h3, h4, h5⟩
instance (l : List Int) : CT Tryz.prog (m_impl_SortSides l) := ⟨86, [.sl (l.map cInt)], [], fun r => .ms 0, fun r => [some ⟨.of 3, 1, r.map cInt⟩], ok_impl_SortSides l⟩
end Go.Proofs.YtkfbakhnpfmfmaaGreatDoor
namespace Go.Proofs.YtkfbakhnpfmfmaaGreatDoor
set_option maxRecDepth 10000
open Go.RowKit
set_option linter.unusedVariables false
set_option linter.unusedSimpArgs false
def dg (u : Nat) : List UInt8 := if h : u = 0 then [] else dg (u / 10) ++ [UInt8.ofNat (48 + u % 10)]
termination_by u
decreasing_by omega
theorem dg_zero : dg 0 = [] := by rw [dg, dif_pos rfl]
theorem dg_pos {u : Nat} (h : 0 < u) : dg u = dg (u / 10) ++ [UInt8.ofNat (48 + u % 10)] := by rw [dg, dif_neg (by omega)]
theorem dg_dec : ∀ (k u : Nat), u ≤ k → 0 < u → dg u = Lib.decDigits u
  | 0, u, h, h0 => by omega
  | k + 1, u, h, h0 => by
    rw [dg_pos h0, Lib.decDigits]
    by_cases h10 : u < 10
    · rw [dif_pos h10, show u / 10 = 0 by omega, dg_zero, show u % 10 = u by omega]; rfl
    · rw [dif_neg h10, dg_dec k (u / 10) (by omega) (by omega)]
def txt (l : List UInt8) : ByteArray := ⟨l.toArray⟩
theorem txt_cons (c : Nat) (l : List UInt8) : strOfNums [(c : Int)] ++ txt l = txt (UInt8.ofNat c :: l) := by
  apply ByteArray.ext
  rw [ByteArray.data_append]
  simp [strOfNums, txt]
theorem txt_size (l : List UInt8) : (txt l).size = l.length := by simp [txt, ByteArray.size]
theorem dg_len (u : Nat) (h : u ≤ 9223372036854775808) : (dg u).length ≤ 21 := by
  rcases Nat.eq_zero_or_pos u with rfl | h0
  · rw [dg_zero]; simp
  · rw [dg_dec u u (Nat.le_refl _) h0]
    have := Lib.itoa_length_le (-(u : Int)) (by omega) (by omega)
    unfold Lib.itoa at this
    rw [if_pos (by omega), show (-(u : Int)).natAbs = u by omega] at this
    simp at this
    omega
theorem formatInt_spec (n : Int) (h0 : -9223372036854775808 ≤ n) (h1 : n ≤ 9223372036854775807) (w : World) :
    Calls Tryz.prog 47 #[.int .i64 n] w fun e w' => e = .returned (.string (txt (Lib.itoa n))) ∧ Up w w' := by
  by_cases hn0 : n = 0
  · subst hn0
    go_enter Tryz.func47, Tryz.ntmps47
    go_wp2
    go_ret
    refine ⟨?_, by (repeat (first | exact Up.rfl' _ | (refine Up.al _ ?_) | (refine Up.dr _ ?_) | (refine Up.dr1 ?_) | (refine Up.sc ?_ (by first | exact Nat.le_refl _ | (simp; done) | omega) _) | (refine Up.step (by assumption) ?_)))⟩
    congr 1
    unfold Lib.itoa
    rw [if_neg (by omega), Lib.decDigits, dif_pos (by decide)]
    rfl
  · have hfin : ∀ l : List UInt8, dg n.natAbs = l → (if n < 0 then 45 :: l else l) = Lib.itoa n := by
      rintro l rfl
      rw [dg_dec _ _ (Nat.le_refl _) (by omega)]
      unfold Lib.itoa
      split
      · rfl
      · rw [show n.natAbs = n.toNat by omega]
    have hlen := dg_len n.natAbs (by omega)
    go_enter Tryz.func47, Tryz.ntmps47
    go_wp2
    go_loopw [3, 4] (fun ss xx wr => ∃ (m : Int) (l : List UInt8), xx = .int .i64 m ∧ ss = .string (txt l) ∧ dg m.natAbs ++ l = dg n.natAbs ∧ -9223372036854775808 ≤ m ∧ m ≤ 9223372036854775807 ∧ Up w wr) (fun _ xx _ => (intOf xx).natAbs)
    case atStart => exact ⟨n, [], rfl, rfl, by simp, h0, h1, by (repeat (first | exact Up.rfl' _ | (refine Up.al _ ?_) | (refine Up.dr _ ?_) | (refine Up.dr1 ?_) | (refine Up.sc ?_ (by first | exact Nat.le_refl _ | (simp; done) | omega) _) | (refine Up.step (by assumption) ?_)))⟩
    case round =>
      obtain ⟨m, l, rfl, rfl, hd, hm0, hm1, hb⟩ := hrel
      have hl : l.length ≤ 21 := by
        have := congrArg List.length hd
        rw [List.length_append] at this
        omega
      by_cases hz : m = 0
      · subst hz
        have hd' : l = dg n.natAbs := by simpa [dg_zero] using hd
        have hs : (txt l).size ≤ 30 := by rw [txt_size]; omega
        have hf := hfin l hd'.symm
        clear hfin
        have h45 : (⟨#[45]⟩ : ByteArray).size = 1 := rfl
        have HF := Lib.hid hf
        clear hf hd hd'
        go_wp2
        all_goals (try (exfalso; omega))
        all_goals (go_ret; refine ⟨?_, by (repeat (first | exact Up.rfl' _ | (refine Up.al _ ?_) | (refine Up.dr _ ?_) | (refine Up.dr1 ?_) | (refine Up.sc ?_ (by first | exact Nat.le_refl _ | (simp; done) | omega) _) | (refine Up.step (by assumption) ?_)))⟩; have hf := HF.out; first | (rw [if_pos (by omega)] at hf; rw [← hf]; rfl) | (rw [if_neg (by omega)] at hf; exact congrArg (fun l => Ending.returned (.string (txt l))) hf))
      · have hs : (txt l).size ≤ 30 := by rw [txt_size]; omega
        have hu8 : ∀ c : Nat, c < 10 → UInt8.ofNat (48 + c) = UInt8.ofNat (48 + c) := fun _ _ => rfl
        by_cases hneg : m < 0
        · obtain ⟨u, rfl⟩ : ∃ u : Nat, m = -(u : Int) := ⟨m.natAbs, by omega⟩
          have hu : 0 < u := by omega
          rw [show (-(u : Int)).natAbs = u by omega, dg_pos hu] at hd
          have hcv := fun z : Int => run_convert_bytes_arg (P := Tryz.prog) (wr.alloc (.cells #[.int .u8 z] 5)) 40 5 Tryz.underlying40 Tryz.underlying5 wr.heap.size 0 1 1 [z] rfl (fun i hi => (by obtain rfl : i = 0 := (by omega); simp [go_sem])) 9 Tryz.underlying9
          have hcv1 := hcv (48 + (u : Int) % 10)
          have hcv2 := hcv (48 + -((u : Int) % 10))
          clear hcv
          have hsz : (strOfNums [48 + (u : Int) % 10]).size = 1 := by simp [strOfNums, ByteArray.size]
          have hsz2 : (strOfNums [48 + -((u : Int) % 10)]).size = 1 := by simp [strOfNums, ByteArray.size]
          go_wp2
          all_goals (try (exfalso; omega))
          · refine ⟨⟨-((u / 10 : Nat) : Int), UInt8.ofNat (48 + u % 10) :: l, by congr 1, ?_, ?_, by omega, by omega, by (repeat (first | exact Up.rfl' _ | (refine Up.al _ ?_) | (refine Up.dr _ ?_) | (refine Up.dr1 ?_) | (refine Up.sc ?_ (by first | exact Nat.le_refl _ | (simp; done) | omega) _) | (refine Up.step (by assumption) ?_)))⟩, by simp [intOf]; omega⟩
            · rw [show (48 + (u : Int) % 10) = ((48 + u % 10 : Nat) : Int) by omega, txt_cons]
            · rw [show (-((u / 10 : Nat) : Int)).natAbs = u / 10 by omega, ← hd]; simp
          · refine ⟨⟨-((u / 10 : Nat) : Int), UInt8.ofNat (48 + u % 10) :: l, by congr 1, ?_, ?_, by omega, by omega, by (repeat (first | exact Up.rfl' _ | (refine Up.al _ ?_) | (refine Up.dr _ ?_) | (refine Up.dr1 ?_) | (refine Up.sc ?_ (by first | exact Nat.le_refl _ | (simp; done) | omega) _) | (refine Up.step (by assumption) ?_)))⟩, by simp [intOf]; omega⟩
            · rw [show (48 + -((u : Int) % 10)) = ((48 + u % 10 : Nat) : Int) by omega, txt_cons]
            · rw [show (-((u / 10 : Nat) : Int)).natAbs = u / 10 by omega, ← hd]; simp
        · obtain ⟨u, rfl⟩ : ∃ u : Nat, m = (u : Int) := ⟨m.toNat, by omega⟩
          have hu : 0 < u := by omega
          rw [show ((u : Int)).natAbs = u by omega, dg_pos hu] at hd
          have hcv := run_convert_bytes_arg (P := Tryz.prog) (wr.alloc (.cells #[.int .u8 (48 + (u : Int) % 10)] 5)) 40 5 Tryz.underlying40 Tryz.underlying5 wr.heap.size 0 1 1 [48 + (u : Int) % 10] rfl (fun i hi => (by obtain rfl : i = 0 := (by omega); simp [go_sem])) 9 Tryz.underlying9
          have hsz : (strOfNums [48 + (u : Int) % 10]).size = 1 := by simp [strOfNums, ByteArray.size]
          go_wp2
          refine ⟨⟨((u / 10 : Nat) : Int), UInt8.ofNat (48 + u % 10) :: l, by congr 1, ?_, ?_, by omega, by omega, by (repeat (first | exact Up.rfl' _ | (refine Up.al _ ?_) | (refine Up.dr _ ?_) | (refine Up.dr1 ?_) | (refine Up.sc ?_ (by first | exact Nat.le_refl _ | (simp; done) | omega) _) | (refine Up.step (by assumption) ?_)))⟩, by simp [intOf]; omega⟩
          · rw [show (48 + (u : Int) % 10) = ((48 + u % 10 : Nat) : Int) by omega, txt_cons]
          · rw [show (((u / 10 : Nat) : Int)).natAbs = u / 10 by omega, ← hd]; simp
end Go.Proofs.YtkfbakhnpfmfmaaGreatDoor
namespace Go.Proofs.YtkfbakhnpfmfmaaGreatDoor
set_option maxRecDepth 10000
open Go.RowKit Go.Shelf
set_option linter.unusedVariables false
set_option linter.unusedSimpArgs false
set_option maxRecDepth 100000
set_option maxHeartbeats 2000000
abbrev TB : Nat := 199
theorem bld_used (b : Nat) (w : World) (h0 : w.cell? ⟨b, 0, none⟩ = some (.pointer (some ⟨b, 0, none⟩))) :
    Calls Tryz.prog 200 #[.pointer (some ⟨b, 0, none⟩)] w fun e w' => e = .returned (.tuple #[]) ∧ w' = w := by
  have X := Tryz.Builder_Extra_169
  obtain ⟨j, hj, _⟩ := Option.map_eq_some_iff.1 X.sizeBuilder
  go_enter Tryz.func200, Tryz.ntmps200
  go_wp2
  rw [Lib.run_neq_ptr_same w _ Tryz.underlying197 hj]
  go_wp2
  go_end0
  exact ⟨rfl, rfl⟩
theorem bld_fresh (b : Nat) (w : World) (h0 : w.cell? ⟨b, 0, none⟩ = some (.pointer none)) (hsh : w.shape? b = some (TB, 2)) (hfz : w.frozen? ⟨b, 0, none⟩ = false) :
    Calls Tryz.prog 200 #[.pointer (some ⟨b, 0, none⟩)] w fun e w' => e = .returned (.tuple #[]) ∧ w' = w.setCell ⟨b, 0, none⟩ (.pointer (some ⟨b, 0, none⟩)) := by
  have X := Tryz.Builder_Extra_169
  obtain ⟨j, hj, hjs⟩ := Option.map_eq_some_iff.1 X.sizeBuilder
  go_enter Tryz.func200, Tryz.ntmps200
  go_wp2
  rw [Lib.run_to_unsafe w ⟨b, 0, none⟩ Tryz.underlying197 Tryz.underlying281 hj (by rw [hjs]; decide) hsh (Nat.zero_lt_succ 1)]
  simp only [Result.andThen]
  rw [Oper.upon_value]
  go_wp2
  rw [run_callFunc_extern Tryz.func234 (by kernel_rfl) (by kernel_rfl) (by kernel_rfl) (e := Extern.AbiNoEscape.same) (by kernel_rfl)]
  rw [Lib.run_noEscape]
  simp only [Result.andThen]
  rw [Oper.upon_value]
  go_wp2
  rw [Lib.run_from_unsafe w ⟨b, 0, none⟩ Tryz.underlying281 Tryz.underlying197 hj hsh X.toX72.liesBuilder]
  simp only [Result.andThen]
  rw [Oper.upon_value]
  go_wp2
  go_end0
  exact ⟨rfl, rfl⟩
theorem bld_copy (B b : Nat) (bs : List Value) (w : World) (h : Lib.IsBuilder TB 5 B b bs w) :
    Calls Tryz.prog 200 #[.pointer (some ⟨b, 0, none⟩)] w fun e w' => e = .returned (.tuple #[]) ∧ (Lib.BuilderAt TB 5 B b (.pointer (some ⟨b, 0, none⟩)) bs w' ∧ Below B w w') := by
  rcases h with h | h
  · refine (bld_fresh b w h.cell0 h.shape h.frozen0).mono ?_
    rintro e w' ⟨rfl, rfl⟩
    exact ⟨rfl, h.used _, (Below.refl B w).setCell (p := ⟨b, 0, none⟩) h.1 _⟩
  · refine (bld_used b w h.cell0).mono ?_
    rintro e w' ⟨rfl, rfl⟩
    exact ⟨rfl, h, Below.refl B _⟩
theorem bld_byte (B b : Nat) (bs : List Value) (c : Int) (w : World) (h : Lib.IsBuilder TB 5 B b bs w) (hlen : bs.length + 1 ≤ 140737488355328) (hBw : B ≤ w.heap.size) :
    Calls Tryz.prog 164 #[.pointer (some ⟨b, 0, none⟩), .int .u8 c] w fun e w' => e = .returned .nilIface ∧ (Lib.BuilderAt TB 5 B b (.pointer (some ⟨b, 0, none⟩)) (bs ++ [.int .u8 c]) w' ∧ Below B w w') := by
  have X := Tryz.Builder_Extra_169
  obtain ⟨i0, hi, hz0, hz1, hz2⟩ := info_parts X.infoByte
  go_enter Tryz.func164, Tryz.ntmps164
  go_wp2_with (go_at_call 200; refine (bld_copy B b bs _ h).mono ?_)
  rintro e w1 ⟨rfl, h1, hb1⟩
  obtain ⟨hB, v, hbk, hown, hne⟩ := h1
  have c0 : w1.cell? ⟨b, 0, none⟩ = some (.pointer (some ⟨b, 0, none⟩)) := by rw [Lib.cell_of_heap hbk]; rfl
  have c1 : w1.cell? ⟨b, 1, none⟩ = some v := by rw [Lib.cell_of_heap hbk]; rfl
  go_wp2_with (at_builtin; refine wpList_append_own _ rfl _ _ 40 rfl B 5 i0 (.int .u8 0) 1 1 Tryz.underlying40 hi hz0 hz1 hz2 rfl (by decide) _ _ _ rfl (hown.alloc _) ⟨w1.heap.size, 0, none⟩ 1 1 [.int .u8 c] rfl rfl ?c1 ?c2 ?c3 ?c4 ?c5 ?_)
  case c1 =>
    intro j u hj
    match j, hj with
    | 0, hj => simp at hj; subst hj; simp [Addr.add]
  case c2 => intro u hu; simp at hu; subst hu; rfl
  case c3 => unfold maxLen; omega
  case c4 => omega
  case c5 => have := hb1.size; simp; omega
  intro v' w2 hown' hgrow _
  have hlt : b < w1.heap.size := by
    rcases Nat.lt_or_ge b w1.heap.size with h' | h'
    · exact h'
    · simp [Array.getElem?_eq_none h'] at hbk
  have hb2 : w2.heap[b]? = some (.cells #[.pointer (some ⟨b, 0, none⟩), v] TB (0, 0)) := by
    rw [hgrow.block b (by simp; omega) (fun e => hne e.symm), Lib.alloc_old w1 _ b hlt]
    exact hbk
  have d0 : w2.cell? ⟨b, 0, none⟩ = some (.pointer (some ⟨b, 0, none⟩)) := by rw [Lib.cell_of_heap hb2]; rfl
  have d1 : w2.cell? ⟨b, 1, none⟩ = some v := by rw [Lib.cell_of_heap hb2]; rfl
  have f1 : w2.frozen? ⟨b, 1, none⟩ = false := Lib.frozen_of_heap hb2 1
  obtain ⟨g, cap, rfl⟩ : ∃ g cap, v' = .slice (some ⟨g, 0, none⟩) (bs.length + 1) cap := by
    rcases hown'.2 with ⟨_, h0⟩ | ⟨g, cap, cur, hv, _⟩
    · omega
    · exact ⟨g, cap, hv⟩
  go_wp2
  go_ret
  refine ⟨rfl, ?_, ?_⟩
  · exact Lib.BuilderAt.put (T := TB) (e := 5) hB hb2 (bs' := bs ++ [.int .u8 c]) (by simpa using hown') X.neB5
  · exact ((hb1.alloc (by have := hb1.size; omega) _).grown hgrow (by have := hb1.size; simp; omega) (fun k hk => (hown.lt k hk).1)).setCell (p := ⟨b, 1, none⟩) hB _
theorem bld_str (B b : Nat) (bs : List Value) (s : ByteArray) (w : World) (h : Lib.IsBuilder TB 5 B b bs w) (hlen : bs.length + s.size ≤ 140737488355328) (hBw : B ≤ w.heap.size) :
    Calls Tryz.prog 161 #[.pointer (some ⟨b, 0, none⟩), .string s] w fun e w' => e = .returned (.tuple #[.int .i64 s.size, .nilIface]) ∧ (Lib.BuilderAt TB 5 B b (.pointer (some ⟨b, 0, none⟩)) (bs ++ Lib.strCells s) w' ∧ Below B w w') := by
  have X := Tryz.Builder_Extra_169
  obtain ⟨i0, hi, hz0, hz1, hz2⟩ := info_parts X.infoByte
  go_enter Tryz.func161, Tryz.ntmps161
  go_wp2_with (go_at_call 200; refine (bld_copy B b bs _ h).mono ?_)
  rintro e w1 ⟨rfl, h1, hb1⟩
  obtain ⟨hB, v, hbk, hown, hne⟩ := h1
  have c0 : w1.cell? ⟨b, 0, none⟩ = some (.pointer (some ⟨b, 0, none⟩)) := by rw [Lib.cell_of_heap hbk]; rfl
  have c1 : w1.cell? ⟨b, 1, none⟩ = some v := by rw [Lib.cell_of_heap hbk]; rfl
  go_wp2_with (at_builtin; refine Lib.wpList_append_own_string _ rfl _ _ 40 9 rfl B 5 i0 Tryz.underlying40 Tryz.underlying9 hi hz0 hz1 hz2 _ _ _ rfl hown s rfl ?c3 ?c4 ?c5 ?_)
  case c3 => unfold maxLen; omega
  case c4 => omega
  case c5 => have := hb1.size; omega
  intro v' w2 hown' hgrow _
  have hlt : b < w1.heap.size := by
    rcases Nat.lt_or_ge b w1.heap.size with h' | h'
    · exact h'
    · simp [Array.getElem?_eq_none h'] at hbk
  have hb2 : w2.heap[b]? = some (.cells #[.pointer (some ⟨b, 0, none⟩), v] TB (0, 0)) := by
    rw [hgrow.block b hlt (fun e => hne e.symm)]
    exact hbk
  have d0 : w2.cell? ⟨b, 0, none⟩ = some (.pointer (some ⟨b, 0, none⟩)) := by rw [Lib.cell_of_heap hb2]; rfl
  have d1 : w2.cell? ⟨b, 1, none⟩ = some v := by rw [Lib.cell_of_heap hb2]; rfl
  have f1 : w2.frozen? ⟨b, 1, none⟩ = false := Lib.frozen_of_heap hb2 1
  obtain ⟨ao, n', cap, rfl⟩ : ∃ ao n' cap, v' = .slice ao n' cap := by
    rcases hown'.2 with ⟨hv, _⟩ | ⟨g, cap, cur, hv, _⟩
    · exact ⟨_, _, _, hv⟩
    · exact ⟨_, _, _, hv⟩
  go_wp2
  go_ret2
  refine ⟨rfl, ?_, ?_⟩
  · exact Lib.BuilderAt.put (T := TB) (e := 5) hB hb2 (bs' := bs ++ Lib.strCells s) (by simpa [Lib.strCells_length] using hown') X.neB5
  · exact (hb1.grown hgrow (by have := hb1.size; omega) (fun k hk => (hown.lt k hk).1)).setCell (p := ⟨b, 1, none⟩) hB _
end Go.Proofs.YtkfbakhnpfmfmaaGreatDoor
namespace Go.Proofs.YtkfbakhnpfmfmaaGreatDoor
set_option maxRecDepth 10000
open Go.RowKit
set_option linter.unusedVariables false
set_option linter.unusedSimpArgs false
set_option maxHeartbeats 2000000
theorem up_grow (w : World) (k : Nat) (os : Array Obj) : Up w (Sort.grow (w.drewN k) os) :=
  ⟨rfl, rfl, rfl, by simp, fun b hb => Sort.heap_grow_old _ _ hb⟩
theorem formatInt_impl (n : Int) (h0 : -9223372036854775808 ≤ n) (h1 : n ≤ 9223372036854775807) (w : World) (ht : TabF w) :
    Calls Tryz.prog 40 #[.int .i64 n] w fun e w' => e = .returned (.string (txt (Lib.itoa n))) ∧ Up w w' := by
  have hI := Tryz.strconv_Itoa n h0 h1 w ht.tab
  go_enter Tryz.func40, Tryz.ntmps40
  go_wp2_with (go_at_call 53; refine hI.mono ?_; rintro e w' ⟨rfl, k, os, rfl⟩)
  go_ret
  exact ⟨rfl, up_grow _ _ _⟩
theorem itoa_nat (i : Nat) : Lib.itoa (i : Int) = Lib.decDigits i := by
  unfold Lib.itoa
  rw [if_neg (by omega)]
  rfl
theorem formatInt_small (i : Nat) (hi : i < 100) (w : World) :
    Calls Tryz.prog 40 #[.int .i64 i] w fun e w' => e = .returned (.string (txt (Lib.itoa i))) ∧ w' = w := by
  have hI := Tryz.strconv_Itoa_small i hi w
  rw [itoa_nat]
  go_enter Tryz.func40, Tryz.ntmps40
  go_wp2_with (go_at_call 53; refine hI.mono ?_; rintro e w' ⟨rfl, rfl⟩)
  go_ret
  exact ⟨rfl, rfl⟩
def padL (n : Int) (d : Nat) : List UInt8 := List.replicate (d - (Lib.itoa n).length) 48 ++ Lib.itoa n
theorem repeat48 (c : Nat) : Lib.repeatL [48] c = List.replicate c (48 : UInt8) := by
  induction c with
  | zero => rfl
  | succ c ih =>
    rw [Lib.repeatL, ih, List.replicate_succ]; rfl
theorem padded_impl (n : Int) (d : Nat) (h0 : -9223372036854775808 ≤ n) (h1 : n ≤ 9223372036854775807) (hd : d ≤ 20) (w : World) (ht : TabF w) :
    Calls Tryz.prog 84 #[.int .i64 n, .int .i64 d] w fun e w' => e = .returned (.string (txt (padL n d))) ∧ Up w w' := by
  have hF := formatInt_impl n h0 h1 w ht
  have hlen := Lib.itoa_length_le n h0 h1
  have hsz : (txt (Lib.itoa n)).size = (Lib.itoa n).length := txt_size _
  have hR := fun w1 => Tryz.strings_Repeat ⟨#[48]⟩ (d - (Lib.itoa n).length) w1 (by omega) (by show 1 * _ ≤ _; omega)
  have hsR : (⟨(Lib.repeatL [48] (d - (Lib.itoa n).length)).toArray⟩ : ByteArray).size = d - (Lib.itoa n).length := by simp [ByteArray.size, Lib.repeatL_length]
  rw [show ((d - (Lib.itoa n).length : Nat) : Int) = max 0 ((d : Int) - ((Lib.itoa n).length : Int)) by omega] at hR
  go_enter Tryz.func84, Tryz.ntmps84
  go_wp2_with (first
    | (go_at_call 40; refine hF.mono ?_; rintro e w1 ⟨rfl, hu1⟩)
    | (go_at_call 119; refine (hR _).mono ?_; rintro e w2 ⟨rfl, hu2⟩))
  all_goals (try (exfalso; omega))
  go_ret
  refine ⟨?_, Up.step hu2 hu1⟩
  show Ending.returned (.string (⟨(Lib.repeatL [48] (d - (Lib.itoa n).length)).toArray⟩ ++ txt (Lib.itoa n))) = _
  congr 2
  apply ByteArray.ext
  rw [ByteArray.data_append]
  simp [txt, padL, repeat48]
def dgt (c : UInt8) : Option (List UInt8) := if 48 ≤ c.toNat ∧ c.toNat ≤ 57 then some [c] else if 65 ≤ c.toNat ∧ c.toNat ≤ 90 then some (Lib.itoa ((c.toNat - 55 : Nat) : Int)) else none
def dgts : List UInt8 → Option (List UInt8)
  | [] => some []
  | c :: cs => match dgt c, dgts cs with
    | some a, some b => some (a ++ b)
    | _, _ => none
theorem dgts_snoc (l : List UInt8) (c : UInt8) : dgts (l ++ [c]) = match dgts l, dgt c with
    | some a, some b => some (a ++ b)
    | _, _ => none := by
  induction l with
  | nil =>
    show dgts [c] = _
    simp only [dgts]
    cases dgt c <;> simp
  | cons x l ih =>
    simp only [List.cons_append, dgts, ih]
    cases dgt x <;> cases dgts l <;> cases dgt c <;> simp
theorem dgts_none {l : List UInt8} {i : Nat} {c : UInt8} (h : l[i]? = some c) (hc : dgt c = none) : dgts l = none := by
  induction l generalizing i with
  | nil => simp at h
  | cons x l ih =>
    cases i with
    | zero => simp at h; subst h; simp [dgts, hc]
    | succ i =>
      have := ih (i := i) (by simpa using h)
      simp only [dgts, this]
      cases dgt x <;> rfl
theorem txt_get (l : List UInt8) (k : Nat) (h : k < (txt l).size) : l[k]? = some ((txt l)[k]'h) := by
  have h' : k < l.length := by rw [txt_size] at h; exact h
  rw [List.getElem?_eq_getElem h']
  rfl
theorem itoa_small_len (i : Nat) (h : i < 100) : (Lib.itoa (i : Int)).length ≤ 21 :=
  Lib.itoa_length_le (i : Int) (by omega) (by omega)
theorem dgt_len {c : UInt8} {a : List UInt8} (h : dgt c = some a) : a.length ≤ 21 := by
  unfold dgt at h
  split at h
  · cases h; simp
  · split at h
    · cases h; exact itoa_small_len _ (by have := c.toNat_lt; omega)
    · cases h
theorem digits_impl (l : List UInt8) (hl : l.length ≤ 1000000000) (w : World) :
    Calls Tryz.prog 120 #[.string (txt l)] w fun e w' => e = .returned (.tuple #[.string (txt ((dgts l).getD [])), .bool ((dgts l).isSome)]) ∧ Up w w' := by
  have hsz : (txt l).size = l.length := txt_size _
  go_enter Tryz.func120, Tryz.ntmps120
  go_wp2
  go_loopw [5] (fun ii wr => ∃ (k : Nat) (acc : List UInt8), k ≤ l.length ∧ ii = .int .i64 k ∧ dgts (l.take k) = some acc ∧ acc.length ≤ 21 * k ∧ Lib.IsBuilder 199 5 w.heap.size w.heap.size (Lib.byteCells acc) wr ∧ Up w wr) (fun ii _ => l.length - (intOf ii).toNat)
  case atStart =>
    exact ⟨0, [], by omega, rfl, by simp [dgts], by simp, Lib.fresh_isBuilder 199 5 w, by (repeat (first | exact Up.rfl' _ | (refine Up.al _ ?_) | (refine Up.dr _ ?_) | (refine Up.dr1 ?_) | (refine Up.sc ?_ (by first | exact Nat.le_refl _ | (simp; done) | omega) _) | (refine Up.step (by assumption) ?_)))⟩
  case round =>
    obtain ⟨k, acc, hk, rfl, hacc, hal, hI, hu⟩ := hrel
    have hws := hu.size
    by_cases hlt : k < l.length
    · have hlt2 : k < (txt l).size := by omega
      have hg := txt_get l k hlt2
      have htk : dgts (l.take (k + 1)) = match some acc, dgt ((txt l)[k]'hlt2) with
          | some a, some b => some (a ++ b)
          | _, _ => none := by
        rw [List.take_add_one, hg, show (some (txt l)[k]).toList = [(txt l)[k]] from rfl, dgts_snoc, hacc] <;> rfl
      have hcl := ((txt l)[k]'hlt2).toNat_lt
      generalize hc : (txt l)[k]'hlt2 = c at *
      by_cases h1 : 48 ≤ c.toNat ∧ c.toNat ≤ 57
      · obtain ⟨h1a, h1b⟩ := h1
        have hd : dgt c = some [c] := by unfold dgt; rw [if_pos ⟨h1a, h1b⟩]
        rw [hd] at htk
        go_wp2_with (go_at_call 164; refine (bld_byte w.heap.size w.heap.size _ _ _ hI (by rw [Lib.byteCells_length]; omega) hws).mono ?_; rintro e W1 ⟨rfl, hI1, hb1⟩)
        go_roundw
        case rel =>
          refine ⟨k + 1, acc ++ [c], by omega, by simp, htk, by simp; omega, ?_, Below.trans hu hb1⟩
          rw [Lib.byteCells_append]
          exact Or.inr hI1
        case measure => simp [intOf]; omega
      · by_cases h2 : 65 ≤ c.toNat ∧ c.toNat ≤ 90
        · obtain ⟨h2a, h2b⟩ := h2
          have hd : dgt c = some (Lib.itoa ((c.toNat - 55 : Nat) : Int)) := by unfold dgt; rw [if_neg h1, if_pos ⟨h2a, h2b⟩]
          have hdl := dgt_len hd
          rw [hd] at htk
          have hF := formatInt_small (c.toNat - 55) (by omega)
          rw [show ((c.toNat - 55 : Nat) : Int) = ((c.toNat : Int) - 65) + 10 by omega] at hF htk hdl
          go_wp2_with (first
            | (go_at_call 40; refine (hF _).mono ?_; rintro e w1 ⟨rfl, rfl⟩)
            | (go_at_call 161; refine (bld_str w.heap.size w.heap.size _ _ _ hI (by rw [Lib.byteCells_length, txt_size]; omega) hws).mono ?_; rintro e W1 ⟨rfl, hI1, hb1⟩))
          go_roundw
          case rel =>
            refine ⟨k + 1, acc ++ _, by omega, by simp, htk, by simp; omega, ?_, Below.trans hu hb1⟩
            rw [Lib.byteCells_append]
            rw [Lib.strCells_eq] at hI1
            exact Or.inr hI1
          case measure => simp [intOf]; omega
        · have hd : dgt c = none := by unfold dgt; rw [if_neg h1, if_neg h2]
          have hn := dgts_none hg (by rw [hd])
          go_wp2
          all_goals (go_ret2; first | exact ⟨rfl, hu⟩ | (rw [hn]; exact ⟨rfl, hu⟩))
    · have hkl : k = l.length := by omega
      subst hkl
      rw [List.take_length] at hacc
      go_wp2_with (go_at_call 163; refine (Tryz.Builder_String_any w.heap.size w.heap.size acc _ hI hws).mono ?_; rintro e W1 ⟨rfl, hb1⟩)
      go_ret2
      rw [hacc]
      exact ⟨rfl, Below.trans hu hb1⟩
theorem callM_r {P : Program} {f : FuncId} {args : List PV} {r : PV} {val : Value} (h1 : ∀ (w : World) (E : Env), Rep w E r val)
    (h : ∀ (S : Nat → Prop) (β : Nat → Option Blk) (w : World) (vs : Array Value), (∀ b, S b → b < w.heap.size) → TabF w → vs.size = args.length → (∀ (i : Nat) (p : PV), args[i]? = some p → ∃ x, vs[i]? = some x ∧ Rep w (E1 S β 0) p x) →
      Calls P f vs w fun e w' => e = .returned val ∧ Up w w') : CallM P f args [] r [] := by
  intro S β w vs ω hk hl ha
  refine (h S β w vs hk.sz hk.tab.here hl fun i p hp => by obtain ⟨x, h1, h2⟩ := ha i p hp; exact ⟨x, h1, h2.toω⟩).mono ?_
  rintro e w' ⟨rfl, hu⟩
  refine ⟨val, E1 S β 0, rfl, ⟨⟨hu.os, hu.tape, hu.output, hu.size, fun b hb _ => hu.block b hb⟩, fun b hb => Nat.lt_of_lt_of_le (hk.sz b hb) hu.size, fun l B hB hz => ?_, hk.inj, hk.used, hk.bu, fun l mb hm => (by simp at hm), hk.dom, hk.tab, fun _ _ h => h.elim⟩, fun b h => h, fun b h => .inl h, ⟨fun l B _ h => h, fun _ _ h => h.elim⟩, h1 _ _⟩
  obtain ⟨a, b, c⟩ := hk.own l B hB hz
  exact ⟨a, Nat.lt_of_lt_of_le b hu.size, c⟩
theorem rv1 {w : World} {E : Env} {a x : Value} (h : Rep w E (.v a) x) : x = a := h.v_inv.1
theorem ar1 {vs : Array Value} {x0 : Value} (h : vs.size = 1) (h0 : vs[0]? = some x0) : vs = #[x0] := by
  apply Array.ext (by simp [h])
  intro i h2 h3
  obtain rfl : i = 0 := by omega
  simpa using (Array.getElem?_eq_some_iff.1 h0).2
theorem ar2 {vs : Array Value} {x0 x1 : Value} (h : vs.size = 2) (h0 : vs[0]? = some x0) (h1 : vs[1]? = some x1) : vs = #[x0, x1] := by
  apply Array.ext (by simp [h])
  intro i hi h3
  have a0 := (Array.getElem?_eq_some_iff.1 h0).2
  have a1 := (Array.getElem?_eq_some_iff.1 h1).2
  match i, hi with
  | 0, _ => simpa using a0
  | 1, _ => simpa using a1
  | i + 2, hi => omega
def in64 (n : Int) : Prop := -9223372036854775808 ≤ n ∧ n ≤ 9223372036854775807
instance (n : Int) : Decidable (in64 n) := by unfold in64; infer_instance
def m_impl_FormatInt (n : Int) : Option ByteArray := if in64 n then some (txt (Lib.itoa n)) else none
theorem ok_impl_FormatInt (n : Int) {r : ByteArray} (H : m_impl_FormatInt n = some r) : CallM Tryz.prog 40 [vi n] [] (Go.Proofs.YtkfbakhnpfmfmaaGreatDoor.vs r) [] := by
  unfold m_impl_FormatInt at H
  split at H
  case isFalse => cases H
  rename_i hn
  obtain rfl := Option.some.inj H
  refine callM_r (fun w E => .c (.v _ rfl)) fun S β w vs hsz ht hl ha => ?_
  obtain ⟨x, hx, hr⟩ := ha 0 _ rfl
  obtain rfl := ar1 hl hx
  obtain rfl := rv1 hr
  exact formatInt_impl n hn.1 hn.2 w ht
instance (n : Int) : CT Tryz.prog (m_impl_FormatInt n) := ⟨40, [vi n], [], fun r => vs r, fun r => [], ok_impl_FormatInt n⟩
def m_spec_FormatInt (n : Int) : Option ByteArray := if in64 n then some (txt (Lib.itoa n)) else none
theorem ok_spec_FormatInt (n : Int) {r : ByteArray} (H : m_spec_FormatInt n = some r) : CallM Tryz.prog 47 [vi n] [] (Go.Proofs.YtkfbakhnpfmfmaaGreatDoor.vs r) [] := by
  unfold m_spec_FormatInt at H
  split at H
  case isFalse => cases H
  rename_i hn
  obtain rfl := Option.some.inj H
  refine callM_r (fun w E => .c (.v _ rfl)) fun S β w vs hsz ht hl ha => ?_
  obtain ⟨x, hx, hr⟩ := ha 0 _ rfl
  obtain rfl := ar1 hl hx
  obtain rfl := rv1 hr
  exact formatInt_spec n hn.1 hn.2 w
instance (n : Int) : CT Tryz.prog (m_spec_FormatInt n) := ⟨47, [vi n], [], fun r => vs r, fun r => [], ok_spec_FormatInt n⟩
def m_impl_padded (n d : Int) : Option ByteArray := if in64 n ∧ 0 ≤ d ∧ d ≤ 20 then some (txt (padL n d.toNat)) else none
theorem ok_impl_padded (n d : Int) {r : ByteArray} (H : m_impl_padded n d = some r) : CallM Tryz.prog 84 [vi n, vi d] [] (Go.Proofs.YtkfbakhnpfmfmaaGreatDoor.vs r) [] := by
  unfold m_impl_padded at H
  split at H
  case isFalse => cases H
  rename_i hn
  obtain rfl := Option.some.inj H
  refine callM_r (fun w E => .c (.v _ rfl)) fun S β w vs hsz ht hl ha => ?_
  obtain ⟨x, hx, hr⟩ := ha 0 _ rfl
  obtain ⟨x1, hx1, hr1⟩ := ha 1 _ rfl
  obtain rfl := ar2 hl hx hx1
  obtain rfl := rv1 hr
  obtain rfl := rv1 hr1
  have := padded_impl n d.toNat hn.1.1 hn.1.2 (by omega) w ht
  rwa [show ((d.toNat : Nat) : Int) = d by omega] at this
instance (n d : Int) : CT Tryz.prog (m_impl_padded n d) := ⟨84, [vi n, vi d], [], fun r => vs r, fun r => [], ok_impl_padded n d⟩
def m_impl_Digits (s : ByteArray) : Option (ByteArray × Bool) := if s.size ≤ 1000000000 then some (txt ((dgts s.data.toList).getD []), (dgts s.data.toList).isSome) else none
theorem ok_impl_Digits (s : ByteArray) {r : ByteArray × Bool} (H : m_impl_Digits s = some r) : CallM Tryz.prog 120 [Go.Proofs.YtkfbakhnpfmfmaaGreatDoor.vs s] [] (.tu [Go.Proofs.YtkfbakhnpfmfmaaGreatDoor.vs r.1, vb r.2]) [] := by
  unfold m_impl_Digits at H
  split at H
  case isFalse => cases H
  rename_i hn
  obtain rfl := Option.some.inj H
  refine callM_r (val := .tuple #[.string (txt ((dgts s.data.toList).getD [])), .bool ((dgts s.data.toList).isSome)]) (fun w E => .tu _ _ rfl fun j p x hp hx => ?_) fun S β w vs hsz ht hl ha => ?_
  · match j, hp, hx with
    | 0, hp, hx => simp at hp hx; subst hp hx; exact .c (.v _ rfl)
    | 1, hp, hx => simp at hp hx; subst hp hx; exact .c (.v _ rfl)
    | j + 2, hp, hx => simp at hx
  · obtain ⟨x, hx, hr⟩ := ha 0 _ rfl
    obtain rfl := ar1 hl hx
    obtain rfl := rv1 hr
    have := digits_impl s.data.toList (by rw [Array.length_toList]; exact hn) w
    rwa [show txt s.data.toList = s from ByteArray.ext (by simp [txt])] at this
instance (s : ByteArray) : CT Tryz.prog (m_impl_Digits s) := ⟨120, [vs s], [], fun r => .tu [vs r.1, vb r.2], fun r => [], ok_impl_Digits s⟩
end Go.Proofs.YtkfbakhnpfmfmaaGreatDoor
namespace Go.Proofs.YtkfbakhnpfmfmaaGreatDoor
set_option maxRecDepth 10000
open Go
set_option linter.unusedVariables false
set_option linter.unusedSimpArgs false
theorem u8_dig {k : Nat} (h : k < 10) : (UInt8.ofNat (48 + k)).toNat = 48 + k := by simp; omega
theorem parse_app : ∀ (a b : List UInt8) (acc : Nat), Lib.parseUint10 acc (a ++ b) = match Lib.parseUint10 acc a with
    | .ok u => Lib.parseUint10 u b
    | Lib.NumEnd.syntax => Lib.NumEnd.syntax
    | .range => .range
  | [], b, acc => rfl
  | c :: a, b, acc => by
    simp only [List.cons_append, Lib.parseUint10]
    split
    · split
      · rfl
      · split
        · rfl
        · exact parse_app a b _
    · rfl
theorem parse_dec : ∀ (n u : Nat), u ≤ n → u < 1844674407370955161 → Lib.parseUint10 0 (Lib.decDigits u) = .ok u
  | n, u, hn, hu => by
    rw [Lib.decDigits]
    split
    · rename_i h
      have e := u8_dig h
      simp only [Lib.parseUint10, e]
      rw [if_pos (by omega), if_neg (by omega), if_neg (by omega)]
      congr 1; omega
    · rename_i h
      have e := u8_dig (k := u % 10) (by omega)
      match n, hn with
      | 0, hn => omega
      | n + 1, hn =>
        rw [parse_app, parse_dec n (u / 10) (by omega) (by omega)]
        simp only [Lib.parseUint10, e]
        rw [if_pos (by omega), if_neg (by omega), if_neg (by omega)]
        congr 1; omega
theorem dec_ne (u : Nat) : Lib.decDigits u ≠ [] := by
  rw [Lib.decDigits]; split <;> simp
theorem dec_dig : ∀ (n u : Nat), u ≤ n → ∀ c ∈ Lib.decDigits u, 48 ≤ c.toNat ∧ c.toNat ≤ 57
  | n, u, hn, c, hc => by
    rw [Lib.decDigits] at hc
    split at hc
    · rename_i h
      rw [List.mem_singleton.1 hc, u8_dig h]; omega
    · rename_i h
      rcases List.mem_append.1 hc with h1 | h1
      · match n, hn with
        | 0, hn => omega
        | n + 1, hn => exact dec_dig n (u / 10) (by omega) c h1
      · rw [List.mem_singleton.1 h1, u8_dig (by omega)]; omega
theorem itoaN (u : Nat) : Lib.itoa (u : Int) = Lib.decDigits u := by unfold Lib.itoa; rw [if_neg (by omega)]; simp
theorem itoa_dig {n : Int} (h : 0 ≤ n) : ∀ c ∈ Lib.itoa n, 48 ≤ c.toNat ∧ c.toNat ≤ 57 := by
  obtain ⟨u, rfl⟩ := Int.eq_ofNat_of_zero_le h
  rw [itoaN]; exact dec_dig u u (Nat.le_refl _)
theorem not_dig {l : List UInt8} (h : ∀ c ∈ l, 48 ≤ c.toNat ∧ c.toNat ≤ 57) {c : UInt8} (hc : c.toNat < 48 ∨ 57 < c.toNat) : c ∉ l := fun hm => by have := h c hm; omega
theorem atoi_itoa {n : Int} (h0 : 0 ≤ n) (h1 : n ≤ 1000000000000) : Lib.atoiAll (Lib.itoa n) = .ok n := by
  obtain ⟨u, rfl⟩ := Int.eq_ofNat_of_zero_le h0
  have hp := parse_dec u u (Nat.le_refl _) (by omega)
  have hd := dec_dig u u (Nat.le_refl _)
  have hne := dec_ne u
  rw [itoaN]
  revert hp hd hne
  generalize Lib.decDigits u = l
  intro hp hd hne
  cases l with
  | nil => exact absurd rfl hne
  | cons c r =>
    have := hd c List.mem_cons_self
    have e1 : ¬ c.toNat = 43 := by omega
    have e2 : ¬ c.toNat = 45 := by omega
    have e3 : ¬ (9223372036854775808 : Nat) ≤ u := by omega
    unfold Lib.atoiAll Lib.parseMag
    simp [e1, e2, hp, e3]
theorem atoi_in {l : List UInt8} {v : Int} (h : Lib.atoiAll l = .ok v) : -9223372036854775808 ≤ v ∧ v ≤ 9223372036854775807 := by
  cases l with
  | nil => cases h
  | cons c r =>
    unfold Lib.atoiAll at h
    simp only at h
    split at h
    · cases h
    · cases h
    · split at h
      · cases h
      · split at h
        · cases h
        · injection h with h
          subst h
          split <;> omega
def splitL (c : UInt8) : List UInt8 → List (List UInt8)
  | [] => [[]]
  | x :: xs => if x = c then [] :: splitL c xs else match splitL c xs with
    | [] => [[x]]
    | p :: ps => (x :: p) :: ps
theorem splitL_none {c : UInt8} : ∀ {l : List UInt8}, c ∉ l → splitL c l = [l]
  | [], _ => rfl
  | x :: xs, h => by
    have h1 : ¬ x = c := fun e => h (by simp [e])
    have h2 : c ∉ xs := fun e => h (List.mem_cons_of_mem _ e)
    simp [splitL, h1, splitL_none h2]
theorem splitL_app {c : UInt8} {b : List UInt8} : ∀ {a : List UInt8}, c ∉ a → splitL c (a ++ c :: b) = a :: splitL c b
  | [], _ => by simp [splitL]
  | x :: xs, h => by
    have h1 : ¬ x = c := fun e => h (by simp [e])
    have h2 : c ∉ xs := fun e => h (List.mem_cons_of_mem _ e)
    simp [splitL, h1, splitL_app h2]
theorem in_parts (c : UInt8) : ∀ l : List UInt8, c ∉ l ∨ ∃ a b, l = a ++ c :: b ∧ c ∉ a
  | [] => .inl (by simp)
  | x :: xs => by
    by_cases hx : x = c
    · exact .inr ⟨[], xs, by simp [hx], by simp⟩
    · rcases in_parts c xs with h | ⟨a, b, rfl, h⟩
      · exact .inl (by simp [h, Ne.symm hx])
      · exact .inr ⟨x :: a, b, rfl, by simp [h, Ne.symm hx]⟩
theorem occ_at {c : UInt8} {l : List UInt8} {i : Nat} : Lib.occAt l [c] i = true ↔ l[i]? = some c := by
  unfold Lib.occAt
  rw [← List.head?_drop]
  cases l.drop i with
  | nil => simp
  | cons x xs =>
    simp only [List.head?_cons, Option.some.injEq]
    constructor
    · intro h; simp [List.isPrefixOf] at h; exact h.symm
    · rintro rfl; simp [List.isPrefixOf]
theorem occ_no {c : UInt8} {l : List UInt8} {i : Nat} (h : l[i]? ≠ some c) : Lib.occAt l [c] i = false := by
  cases e : Lib.occAt l [c] i with
  | false => rfl
  | true => exact absurd (occ_at.1 e) h
theorem index_app {c : UInt8} {a b : List UInt8} (h : c ∉ a) : Lib.index (a ++ c :: b) [c] = a.length := by
  refine Lib.index_first (by simp) (occ_at.2 (by simp)) fun j hj => occ_no fun e => h ?_
  rw [List.getElem?_append_left hj] at e
  exact List.mem_of_getElem? e
theorem index_no {c : UInt8} {l : List UInt8} (h : c ∉ l) : Lib.index l [c] = -1 :=
  Lib.index_none fun j _ => occ_no fun e => h (List.mem_of_getElem? e)
theorem splitK_eq (c : UInt8) : ∀ (n : Nat) (l : List UInt8), l.length ≤ n → Lib.splitK [c] 0 (Lib.count l [c]) l = splitL c l
  | n, l, hn => by
    rcases in_parts c l with h | ⟨a, b, rfl, h⟩
    · rw [Lib.count_miss (index_no h), splitL_none h]; rfl
    · have hi := index_app (b := b) h
      have hd : (a ++ c :: b).drop (a.length + 1) = b := by simp
      rw [Lib.count_hit (by simp) hi, splitL_app h, Nat.add_comm 1]
      simp only [List.length_cons, List.length_nil, Nat.zero_add, hd]
      unfold Lib.splitK
      have hm : ¬ (Lib.index (a ++ c :: b) [c] == -1) = true := fun e => by have := beq_iff_eq.1 e; omega
      rw [if_neg hm, hi]
      simp only [Int.toNat_natCast, Nat.add_zero, List.length_cons, List.length_nil, Nat.zero_add, List.take_left', hd]
      match n, hn with
      | 0, hn => simp at hn
      | n + 1, hn =>
        rw [splitK_eq c n b (by simp at hn; omega)]
theorem cut_app {c : UInt8} {a b : List UInt8} (h : c ∉ a) : Lib.cut (a ++ c :: b) [c] = (a, b, true) := by
  have hi := index_app (b := b) h
  unfold Lib.cut
  simp [hi]
theorem cut_no {c : UInt8} {l : List UInt8} (h : c ∉ l) : Lib.cut l [c] = (l, [], false) := by
  have hi := index_no h
  unfold Lib.cut
  simp [hi]
end Go.Proofs.YtkfbakhnpfmfmaaGreatDoor
namespace Go.Proofs.YtkfbakhnpfmfmaaGreatDoor
set_option maxRecDepth 10000
open Go.RowKit
set_option linter.unusedVariables false
set_option linter.unusedSimpArgs false
def m_strings_Cut (s sep : ByteArray) : Option (ByteArray × ByteArray × Bool) := if s.size ≤ 100000000 then some (txt (Lib.cut s.data.toList sep.data.toList).1, txt (Lib.cut s.data.toList sep.data.toList).2.1, (Lib.cut s.data.toList sep.data.toList).2.2) else none
def m_strings_Split (s sep : ByteArray) : Option (List ByteArray) := if s.size ≤ 100000000 ∧ 1 ≤ sep.size then some (Lib.splitB sep 0 (Lib.countB s sep) s) else none
def m_impl_ParseInt (s : ByteArray) : Option (Int × Bool) := if s.size ≤ 100000000 then some (match Lib.atoiAll s.data.toList with
  | .ok n => if 0 ≤ n ∧ n ≤ 1000000000 ∧ txt (Lib.itoa n) = s then (n, true) else (0, false)
  | _ => (0, false)) else none
theorem txt_l (l : List UInt8) : (txt l).data.toList = l := by simp [txt]
theorem iint_itoa {n : Int} (h0 : 0 ≤ n) (h1 : n ≤ 1000000000) (hl : (Lib.itoa n).length ≤ 100000000) : m_impl_ParseInt (txt (Lib.itoa n)) = some (n, true) := by
  unfold m_impl_ParseInt
  rw [if_pos (by rw [txt_size]; exact hl), txt_l, atoi_itoa h0 (by omega)]
  simp [h0, h1]
theorem iint_tot {s : ByteArray} (hs : s.size ≤ 100000000) : ∃ r : Int × Bool, m_impl_ParseInt s = some r ∧ in64 r.1 := by
  unfold m_impl_ParseInt
  rw [if_pos hs]
  have z : in64 0 := ⟨by omega, by omega⟩
  cases h : Lib.atoiAll s.data.toList with
  | ok n =>
    simp only
    by_cases hc : 0 ≤ n ∧ n ≤ 1000000000 ∧ txt (Lib.itoa n) = s
    · rw [if_pos hc]; exact ⟨_, rfl, ⟨by omega, by omega⟩⟩
    · rw [if_neg hc]; exact ⟨_, rfl, z⟩
  | _ => exact ⟨_, rfl, z⟩
theorem cut_at {c : UInt8} {a b : List UInt8} (h : c ∉ a) (hl : a.length + b.length < 100000000) : m_strings_Cut (txt (a ++ c :: b)) (txt [c]) = some (txt a, txt b, true) := by
  unfold m_strings_Cut
  rw [if_pos (by rw [txt_size]; simp; omega), txt_l, txt_l, cut_app h]
theorem cut_not {c : UInt8} {a : List UInt8} (h : c ∉ a) (hl : a.length ≤ 100000000) : m_strings_Cut (txt a) (txt [c]) = some (txt a, txt [], false) := by
  unfold m_strings_Cut
  rw [if_pos (by rw [txt_size]; exact hl), txt_l, txt_l, cut_no h]
theorem split_at {c : UInt8} {L : List UInt8} (hL : L.length ≤ 100000000) : m_strings_Split (txt L) (txt [c]) = some ((splitL c L).map txt) := by
  unfold m_strings_Split
  rw [if_pos ⟨by rw [txt_size]; exact hL, by rw [txt_size]; simp⟩]
  congr 1
  have h := Lib.splitB_data (txt [c]) 0 (Lib.countB (txt L) (txt [c])) (txt L)
  rw [txt_l, txt_l] at h
  have hc : Lib.countB (txt L) (txt [c]) = Lib.count L [c] := by unfold Lib.countB; rw [txt_l, txt_l]
  rw [hc] at h ⊢
  rw [splitK_eq c L.length L (Nat.le_refl _)] at h
  rw [← h, List.map_map]
  have e : (txt ∘ fun x : ByteArray => x.data.toList) = id := by funext x; exact ByteArray.ext (by simp [txt])
  rw [e, List.map_id]
theorem own_none {b : Nat} : ¬ own0 (fun _ => none) b := by rintro ⟨l, B, h, _⟩; cases h
theorem CallM.val {P : Program} {f : FuncId} {args : List PV} {val : Value} (h : CallM P f args [] (.v val) []) {w : World} (ht : Tab w (own0 fun _ => none)) {vs : Array Value} (hl : vs.size = args.length) (ha : ∀ (i : Nat) (p : PV), args[i]? = some p → ∃ x, vs[i]? = some x ∧ Rep w (E1 (fun b => b < w.heap.size) (fun _ => none) 0) p x) :
    Calls P f vs w fun e w' => e = .returned val ∧ Up w w' := by
  have hok : Ok w (own0 fun _ => none) (E1 (fun b => b < w.heap.size) (fun _ => none) 0) w [] :=
    ⟨UpO.refl _ _, fun b h => h, fun l B h => (by cases h), fun l l' B B' h => (by cases h), fun l h => absurd h (Nat.not_lt_zero l), fun l B h => (by cases h), fun l mb h => (by simp at h), fun l B h => (by cases h), ht, fun _ _ h => h.elim⟩
  refine (h (fun b => b < w.heap.size) (fun _ => none) w vs (fun _ _ => False) hok hl ha).mono ?_
  rintro e w' ⟨v, E', rfl, hk, _, _, _, hr⟩
  obtain ⟨rfl, _⟩ := hr.v_inv
  exact ⟨rfl, hk.up.os, hk.up.tape, hk.up.output, hk.up.size, fun b hb => hk.up.block b hb own_none⟩
theorem tabT_eq {w w' : World} (h : TabT w) (he : ∀ b, b < w.heap.size → w'.heap[b]? = w.heap[b]?) : TabT w' := by
  unfold TabT Lib.TabIs World.var? at *
  cases hg : Tryz.prog.globalNamed "internal/strconv.uint64pow10" with
  | none => rw [hg] at h; cases h
  | some g =>
    rw [hg] at h
    simp only [Option.bind_some] at h ⊢
    have hlt : g < w.heap.size := by
      rcases Nat.lt_or_ge g w.heap.size with h' | h'
      · exact h'
      · rw [Array.getElem?_eq_none h'] at h; cases h
    rw [he g hlt]
    exact h
theorem cell_eq' {w w' : World} {b : Nat} {v : Value} (h : w.cell? ⟨b, 0, none⟩ = some v) (he : ∀ b, b < w.heap.size → w'.heap[b]? = w.heap[b]?) : w'.cell? ⟨b, 0, none⟩ = some v := by
  have hlt : b < w.heap.size := by
    rcases Nat.lt_or_ge b w.heap.size with h' | h'
    · exact h'
    · simp [World.cell?, Array.getElem?_eq_none h'] at h
  rw [← h]
  simp [World.cell?, he b hlt]
theorem tabF_eq {w w' : World} (h : TabF w) (he : ∀ b, b < w.heap.size → w'.heap[b]? = w.heap[b]?) : TabF w' := by
  obtain ⟨m, hm⟩ := h.mx
  obtain ⟨t, p, ht⟩ := h.es
  obtain ⟨t1, p1, ht1⟩ := h.er
  exact ⟨tabT_eq h.tab he, ⟨m, cell_eq' hm he⟩, ⟨t, p, cell_eq' ht he⟩, ⟨t1, p1, cell_eq' ht1 he⟩⟩
theorem tabF_up {w w' : World} (h : TabF w) (hu : Up w w') : TabF w' := tabF_eq h fun b hb => hu.block b hb
theorem tab_of_F {w : World} (h : TabF w) : Tab w (own0 fun _ => none) := ⟨fun b => b < w.heap.size, fun b hb => ⟨hb, own_none⟩, fun w' hw' => tabF_eq h hw'⟩
instance : Enc ByteArray where
  cells x := [.string x]
  k := 1
  len _ := rfl
  pos := by decide
  one := by simp [Value.oneCell']
theorem flat_strs (ls : List ByteArray) : flat ls = ls.map Value.string := by
  induction ls with
  | nil => rfl
  | cons x xs ih => rw [flat_cons, ih]; rfl
set_option maxHeartbeats 2000000
theorem ok_strings_Cut (s sep : ByteArray) {r : ByteArray × ByteArray × Bool} (H : m_strings_Cut s sep = some r) : CallM Tryz.prog 26 [Go.Proofs.YtkfbakhnpfmfmaaGreatDoor.vs s, Go.Proofs.YtkfbakhnpfmfmaaGreatDoor.vs sep] [] (.tu [Go.Proofs.YtkfbakhnpfmfmaaGreatDoor.vs r.1, Go.Proofs.YtkfbakhnpfmfmaaGreatDoor.vs r.2.1, vb r.2.2]) [] := by
  unfold m_strings_Cut at H
  split at H
  case isFalse => cases H
  rename_i hn
  obtain rfl := Option.some.inj H
  refine callM_r (val := .tuple #[.string (txt (Lib.cut s.data.toList sep.data.toList).1), .string (txt (Lib.cut s.data.toList sep.data.toList).2.1), .bool (Lib.cut s.data.toList sep.data.toList).2.2]) (fun w E => .tu _ _ rfl fun j p x hp hx => ?_) fun S β w vs hsz ht hl ha => ?_
  · match j, hp, hx with
    | 0, hp, hx | 1, hp, hx | 2, hp, hx => simp at hp hx; subst hp hx; exact .c (.v _ rfl)
    | j + 3, hp, hx => simp at hx
  · obtain ⟨x, hx, hr⟩ := ha 0 _ rfl
    obtain ⟨x1, hx1, hr1⟩ := ha 1 _ rfl
    obtain rfl := ar2 hl hx hx1
    obtain rfl := rv1 hr
    obtain rfl := rv1 hr1
    obtain ⟨m, hm⟩ := ht.mx
    refine (Tryz.strings_Cut s sep m w (by omega) hm).mono ?_
    rintro e w' ⟨rfl, n, rfl⟩
    exact ⟨rfl, by (repeat (first | exact Up.rfl' _ | (refine Up.al _ ?_) | (refine Up.dr _ ?_) | (refine Up.dr1 ?_) | (refine Up.sc ?_ (by first | exact Nat.le_refl _ | (simp; done) | omega) _) | (refine Up.step (by assumption) ?_)))⟩
instance (s sep : ByteArray) : CT Tryz.prog (m_strings_Cut s sep) := ⟨26, [vs s, vs sep], [], fun r => .tu [vs r.1, vs r.2.1, vb r.2.2], fun r => [], ok_strings_Cut s sep⟩
theorem ok_strings_Split (s sep : ByteArray) {r : List ByteArray} (H : m_strings_Split s sep = some r) : CallM Tryz.prog 34 [Go.Proofs.YtkfbakhnpfmfmaaGreatDoor.vs s, Go.Proofs.YtkfbakhnpfmfmaaGreatDoor.vs sep] [] (.ms 0) [some ⟨.of 9, 1, r.map cStr⟩] := by
  unfold m_strings_Split at H
  split at H
  case isFalse => cases H
  rename_i hn
  obtain rfl := Option.some.inj H
  intro S β w vs ω hk hl ha
  obtain ⟨x, hx, hr⟩ := ha 0 _ rfl
  obtain ⟨x1, hx1, hr1⟩ := ha 1 _ rfl
  obtain rfl := ar2 hl hx hx1
  obtain rfl := rv1 hr
  obtain rfl := rv1 hr1
  obtain ⟨m, hm⟩ := hk.tab.here.mx
  refine (Tryz.strings_Split s sep m w (by omega) hm hn.2).mono ?_
  rintro e w' ⟨rfl, rfl⟩
  have hl2 := Lib.splitB_all sep hn.2 0 _ s rfl
  have hle := Lib.countB_le sep hn.2 _ s (Nat.le_refl _)
  have ho : Own (w.alloc (.cells ((Lib.splitB sep 0 (Lib.countB s sep) s).map Value.string).toArray 9)) w.heap.size 9 (.slice (some ⟨w.heap.size, 0, none⟩) (Lib.countB s sep + 1) (Lib.countB s sep + 1)) (Lib.splitB sep 0 (Lib.countB s sep) s) := by
    refine ⟨flat_len _, .inr ⟨w.heap.size, Lib.countB s sep + 1, ((Lib.splitB sep 0 (Lib.countB s sep) s).map Value.string).toArray, by rw [hl2], Nat.le_refl _, Array.getElem?_push_size, by omega, by unfold maxLen; omega, ?_, ?_⟩⟩
    · rw [List.size_toArray, List.length_map, hl2]; exact (Nat.mul_one _).symm
    · rw [flat_strs, List.toList_toArray]; exact List.take_of_length_le (by rw [List.length_map]; exact Nat.le_of_eq (Nat.mul_one _).symm)
  obtain ⟨E', h1, h2, h3, h4, h5⟩ := ms_of_own (c := cStr) hk ho (by (repeat (first | exact Up.rfl' _ | (refine Up.al _ ?_) | (refine Up.dr _ ?_) | (refine Up.dr1 ?_) | (refine Up.sc ?_ (by first | exact Nat.le_refl _ | (simp; done) | omega) _) | (refine Up.step (by assumption) ?_)))) (fun x => ⟨rfl, fun j p hj => by
    cases j with
    | zero => obtain rfl : Go.Proofs.YtkfbakhnpfmfmaaGreatDoor.vs x = p := by simpa using hj
              exact ⟨_, rfl, rfl, fun w E => .c (.v _ rfl)⟩
    | succ j => simp [cStr] at hj⟩)
  exact ⟨_, E', rfl, h1, h2, h3, h4, h5⟩
instance (s sep : ByteArray) : CT Tryz.prog (m_strings_Split s sep) := ⟨34, [vs s, vs sep], [], fun r => .ms 0, fun r => [some ⟨.of 9, 1, r.map cStr⟩], ok_strings_Split s sep⟩
@[go_sem] theorem fnCut : isFn Tryz.prog 26 := ⟨_, Tryz.func26, rfl, by kernel_rfl⟩
@[go_sem] theorem fnSplit : isFn Tryz.prog 34 := ⟨_, Tryz.func34, rfl, by kernel_rfl⟩
theorem up_bytes {w w' : World} {T : TypeId} (h : w' = w ∨ ∃ t, w' = Lib.bytesWorld w T t) : Up w w' := by
  rcases h with rfl | ⟨t, rfl⟩
  · exact Below.refl _ _
  · exact Lib.bytesWorld_below _ _ _
theorem atoi_good (s : ByteArray) (hs : s.size ≤ 100000000) {v : Int} (h : Lib.atoiAll s.data.toList = .ok v) (w : World) : Calls Tryz.prog 52 #[.string s] w fun e w' => e = .returned (.tuple #[.int .i64 v, .nilIface]) ∧ Up w w' :=
  (Tryz.strconv_Atoi_ok s (by omega) v h w).mono fun e w' ⟨h1, h2⟩ => ⟨h1, up_bytes h2⟩
theorem atoi_bad (s : ByteArray) (hs : s.size ≤ 100000000) (h : ∀ v, Lib.atoiAll s.data.toList ≠ .ok v) (w : World) (ht : TabF w) : Calls Tryz.prog 52 #[.string s] w fun e w' => ∃ n t p, e = .returned (.tuple #[.int .i64 n, .iface t p]) ∧ Up w w' := by
  obtain ⟨t1, p1, h1⟩ := ht.es
  obtain ⟨t2, p2, h2⟩ := ht.er
  cases hc : Lib.atoiAll s.data.toList with
  | ok v => exact absurd hc (h v)
  | range => exact (Tryz.strconv_Atoi_range s (by omega) hc _ w h2 (.inr ⟨_, _, rfl⟩)).mono fun e w' ⟨N, h1, _, _, h2⟩ => ⟨_, _, _, h1, h2⟩
  | _ => exact (Tryz.strconv_Atoi_syntax s (by omega) hc _ w h1 (.inr ⟨_, _, rfl⟩)).mono fun e w' ⟨N, h1, _, _, h2⟩ => ⟨_, _, _, h1, h2⟩
theorem bts_ne {z s : ByteArray} (h : ¬ z = s) : (z.toList == s.toList) = false := by
  rw [beq_eq_false_iff_ne, ByteArray.toList_eq, ByteArray.toList_eq]
  exact fun e => h (ByteArray.ext (Array.toList_inj.1 e))
theorem parseInt_good (s : ByteArray) (hs : s.size ≤ 100000000) {v : Int} (h : Lib.atoiAll s.data.toList = .ok v) (w : World) (ht : TabF w) : Calls Tryz.prog 28 #[.string s] w fun e w' => e = .returned (.tuple #[.int .i64 (if 0 ≤ v ∧ v ≤ 1000000000 ∧ txt (Lib.itoa v) = s then v else 0), .bool (decide (0 ≤ v ∧ v ≤ 1000000000 ∧ txt (Lib.itoa v) = s))]) ∧ Up w w' := by
  obtain ⟨b0, b1⟩ := atoi_in h
  have hA := atoi_good s hs h
  have hI := fun w1 (hu : Up w w1) => Tryz.strconv_Itoa v b0 b1 w1 (tabF_up ht hu).tab
  by_cases c0 : v < 0
  · rw [if_neg (by omega), decide_eq_false (by omega)]
    go_enter Tryz.func28, Tryz.ntmps28
    go_wp2_with (go_at_call 52; refine (hA _).mono ?_; rintro e w1 ⟨rfl, hu1⟩)
    go_ret2
    exact ⟨rfl, hu1⟩
  by_cases c1 : 1000000000 < v
  · rw [if_neg (by omega), decide_eq_false (by omega)]
    go_enter Tryz.func28, Tryz.ntmps28
    go_wp2_with (go_at_call 52; refine (hA _).mono ?_; rintro e w1 ⟨rfl, hu1⟩)
    go_ret2
    exact ⟨rfl, hu1⟩
  have hI2 : ∀ w1, Up w w1 → Calls Tryz.prog 53 #[.int .i64 v] w1 fun e w' => e = .returned (.string (txt (Lib.itoa v))) ∧ Up w1 w' := fun w1 hu => (hI w1 hu).mono fun e w' ⟨h1, k, os, h2⟩ => ⟨h1, h2 ▸ up_grow _ _ _⟩
  by_cases ce : txt (Lib.itoa v) = s
  · rw [if_pos ⟨by omega, by omega, ce⟩, decide_eq_true ⟨by omega, by omega, ce⟩]
    rw [ce] at hI2
    clear hI ce
    go_enter Tryz.func28, Tryz.ntmps28
    go_wp2_with (first
      | (go_at_call 52; refine (hA _).mono ?_; rintro e w1 ⟨rfl, hu1⟩)
      | (go_at_call 53; refine (hI2 _ (by assumption)).mono ?_; rintro e w2 ⟨rfl, hu2⟩))
    go_ret2
    exact ⟨rfl, Up.step hu2 hu1⟩
  · rw [if_neg fun h => ce h.2.2, decide_eq_false fun h => ce h.2.2]
    clear hI
    generalize txt (Lib.itoa v) = z at *
    have hq := bts_ne ce
    go_enter Tryz.func28, Tryz.ntmps28
    go_wp2_with (first
      | (go_at_call 52; refine (hA _).mono ?_; rintro e w1 ⟨rfl, hu1⟩)
      | (go_at_call 53; refine (hI2 _ (by assumption)).mono ?_; rintro e w2 ⟨rfl, hu2⟩))
    go_ret2
    exact ⟨rfl, Up.step hu2 hu1⟩
theorem parseInt_bad (s : ByteArray) (hs : s.size ≤ 100000000) (h : ∀ v, Lib.atoiAll s.data.toList ≠ .ok v) (w : World) (ht : TabF w) : Calls Tryz.prog 28 #[.string s] w fun e w' => e = .returned (.tuple #[.int .i64 0, .bool false]) ∧ Up w w' := by
  have hA := atoi_bad s hs h
  go_enter Tryz.func28, Tryz.ntmps28
  go_wp2_with (go_at_call 52; refine (hA _ ht).mono ?_; rintro e w1 ⟨n, t, p, rfl, hu1⟩)
  go_ret2
  exact ⟨rfl, hu1⟩
theorem ok_impl_ParseInt (s : ByteArray) {r : Int × Bool} (H : m_impl_ParseInt s = some r) : CallM Tryz.prog 28 [Go.Proofs.YtkfbakhnpfmfmaaGreatDoor.vs s] [] (.tu [vi r.1, vb r.2]) [] := by
  unfold m_impl_ParseInt at H
  split at H
  case isFalse => cases H
  rename_i hn
  have hr := Option.some.inj H
  refine callM_r (val := .tuple #[.int .i64 r.1, .bool r.2]) (fun w E => .tu _ _ rfl fun j p x hp hx => ?_) fun S β w vs hsz ht hl ha => ?_
  · match j, hp, hx with
    | 0, hp, hx | 1, hp, hx => simp at hp hx; subst hp hx; exact .c (.v _ rfl)
    | j + 2, hp, hx => simp at hx
  · obtain ⟨x, hx, hr1⟩ := ha 0 _ rfl
    obtain rfl := ar1 hl hx
    obtain rfl := rv1 hr1
    cases h : Lib.atoiAll s.data.toList with
    | ok v =>
      refine (parseInt_good s hn h w ht).mono fun e w' ⟨h1, h2⟩ => ⟨?_, h2⟩
      rw [h1]
      rw [h] at hr
      simp only at hr
      by_cases c : 0 ≤ v ∧ v ≤ 1000000000 ∧ txt (Lib.itoa v) = s
      · rw [if_pos c] at hr; rw [if_pos c, decide_eq_true c, ← hr]
      · rw [if_neg c] at hr; rw [if_neg c, decide_eq_false c, ← hr]
    | _ =>
      rw [h] at hr
      rw [← hr]
      exact parseInt_bad s hn (fun v e => by rw [h] at e; cases e) w ht
instance (s : ByteArray) : CT Tryz.prog (m_impl_ParseInt s) := ⟨28, [vs s], [], fun r => .tu [vi r.1, vb r.2], fun r => [], ok_impl_ParseInt s⟩
set_option maxHeartbeats 16000000
def m_impl_bodyOf (l : YLabel) : Option ByteArray :=
 (m_impl_FormatInt l.service).bind fun y1 =>
 (m_impl_padded l.serial 9).bind fun y2 =>
 (chk (strOk y1 y2)).bind fun _ =>
 (chk (strOk (y1 ++ y2) l.to_)).bind fun _ =>
 some ((y1 ++ y2) ++ l.to_)
instance (l : YLabel) : CT Tryz.prog (m_impl_bodyOf l) := ⟨83, [.ag (cLabel l)], [], fun r => vs r, fun r => [], fun H => by replace H := H0 H; unfold m_impl_bodyOf at H; exact callM_of Tryz.func83 rfl Tryz.ntmps83 Tryz.results83 fun Q hQ hQn => wk3⟩
def m_impl_Mod97_b0 (s : ByteArray) (s0 : Int × Int) : Option ((Int × Int) ⊕ (Int ⊕ Int)) :=
 cond (decide (s0.2 < (s.size : Int)))
 ((getB s s0.2).bind fun y1 =>
 cond (decide (y1 < 48))
 (some (.inr (.inr (-1))))
 ((getB s s0.2).bind fun y2 =>
 cond (decide (57 < y2))
 (some (.inr (.inr (-1))))
 ((getB s s0.2).bind fun y3 =>
 some (.inl ((Int.tmod (w64 ((w64 (10 * s0.1)) + (IntKind.i64.wrap (IntKind.u8.wrap (y3 - 48))))) 97), (w64 (s0.2 + 1)))))))
 (some (.inr (.inl s0.1)))
instance (s : ByteArray) : LoopE (m_impl_Mod97_b0 s) := ⟨fun s0 => (vs s :: .un :: .un :: vi s0.1 :: vi s0.2 :: (U 28 [])), fun s0 => []⟩
def m_impl_Mod97 (s : ByteArray) : Option Int :=
 (iterF (m_impl_Mod97_b0 s) NN (0, 0)).bind (selim (fun o0 =>
 cond (decide (s = ⟨#[]⟩))
 (some (-1))
 (some o0)) (fun r => some r))
instance (s : ByteArray) : CT Tryz.prog (m_impl_Mod97 s) := ⟨121, [vs s], [], fun r => vi r, fun r => [], fun H => by replace H := H0 H; unfold m_impl_Mod97 at H; exact callM_of Tryz.func121 rfl Tryz.ntmps121 Tryz.results121 fun Q hQ hQn => wk3⟩
def m_impl_within (n : Int) (low : Int) (high : Int) : Option Bool :=
 cond (decide (low ≤ n))
 (some (decide (n ≤ high)))
 (some false)
instance (n : Int) (low : Int) (high : Int) : CT Tryz.prog (m_impl_within n low high) := ⟨43, [vi n, vi low, vi high], [], fun r => vb r, fun r => [], fun H => by replace H := H0 H; unfold m_impl_within at H; exact callM_of Tryz.func43 rfl Tryz.ntmps43 Tryz.results43 fun Q hQ hQn => wk3⟩
def m_impl_IsPlace_b0 (s : ByteArray) (s0 : Int) : Option (Int ⊕ (Unit ⊕ Bool)) :=
 cond (decide (s0 < (s.size : Int)))
 ((getB s s0).bind fun y1 =>
 cond (decide (y1 < 65))
 (some (.inr (.inr false)))
 ((getB s s0).bind fun y2 =>
 cond (decide (90 < y2))
 (some (.inr (.inr false)))
 (some (.inl (w64 (s0 + 1))))))
 (some (.inr (.inl ())))
instance (s : ByteArray) : LoopE (m_impl_IsPlace_b0 s) := ⟨fun s0 => (vs s :: .un :: .un :: vi s0 :: (U 19 [])), fun s0 => []⟩
def m_impl_IsPlace (s : ByteArray) : Option Bool :=
 (iterF (m_impl_IsPlace_b0 s) NN 0).bind (selim (fun o0 =>
 some (decide ((s.size : Int) = 3))) (fun r => some r))
instance (s : ByteArray) : CT Tryz.prog (m_impl_IsPlace s) := ⟨62, [vs s], [], fun r => vb r, fun r => [], fun H => by replace H := H0 H; unfold m_impl_IsPlace at H; exact callM_of Tryz.func62 rfl Tryz.ntmps62 Tryz.results62 fun Q hQ hQn => wk3⟩
def m_impl_IsLabel (l : YLabel) : Option Bool :=
 (m_impl_within l.service 1 3).bind fun y1 =>
 cond y1
 ((m_impl_within l.serial 0 999999999).bind fun y2 =>
 cond y2
 ((m_impl_IsPlace l.to_).bind fun y3 =>
 some y3)
 (some false))
 (some false)
instance (l : YLabel) : CT Tryz.prog (m_impl_IsLabel l) := ⟨61, [.ag (cLabel l)], [], fun r => vb r, fun r => [], fun H => by replace H := H0 H; unfold m_impl_IsLabel at H; exact callM_of Tryz.func61 rfl Tryz.ntmps61 Tryz.results61 fun Q hQ hQn => wk3⟩
def m_impl_CheckOf (l : YLabel) : Option Int :=
 (m_impl_IsLabel l).bind fun y1 =>
 cond (!y1)
 (some (-1))
 ((m_impl_bodyOf l).bind fun y2 =>
 (m_impl_Digits y2).bind fun y3 =>
 (chk (strOk y3.1 (⟨#[48, 48]⟩))).bind fun _ =>
 (m_impl_Mod97 (y3.1 ++ ⟨#[48, 48]⟩)).bind fun y4 =>
 some (w64 (98 - y4)))
instance (l : YLabel) : CT Tryz.prog (m_impl_CheckOf l) := ⟨85, [.ag (cLabel l)], [], fun r => vi r, fun r => [], fun H => by replace H := H0 H; unfold m_impl_CheckOf at H; exact callM_of Tryz.func85 rfl Tryz.ntmps85 Tryz.results85 fun Q hQ hQn => wk3⟩
def m_impl_FormatLabel (l : YLabel) : Option ByteArray :=
 (m_impl_IsLabel l).bind fun y1 =>
 cond (!y1)
 (some (⟨#[]⟩))
 ((m_impl_bodyOf l).bind fun y2 =>
 (m_impl_CheckOf l).bind fun y3 =>
 (m_impl_padded y3 2).bind fun y4 =>
 (chk (strOk y2 y4)).bind fun _ =>
 some (y2 ++ y4))
instance (l : YLabel) : CT Tryz.prog (m_impl_FormatLabel l) := ⟨60, [.ag (cLabel l)], [], fun r => vs r, fun r => [], fun H => by replace H := H0 H; unfold m_impl_FormatLabel at H; exact callM_of Tryz.func60 rfl Tryz.ntmps60 Tryz.results60 fun Q hQ hQn => wk3⟩
end Go.Proofs.YtkfbakhnpfmfmaaGreatDoor
