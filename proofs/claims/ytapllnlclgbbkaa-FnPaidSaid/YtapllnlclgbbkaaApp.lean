/- append onto a slice of the call's own, the source any slice that reads as a list. No program in sight. -/
import Derived.Test.YtapllnlclgbbkaaKit
import Derived.Laws.AppendOwnNone
namespace Go.Proofs.Ytapllnlclgbbkaa
set_option maxRecDepth 10000
open Go.RowKit

/-- The facts on a slice type and its element type that append asks. -/
structure ElT (P : Program) (t e : TypeId) (k bytes : Nat) : Prop where
  ht : P.underlying t = some (.slice e)
  info : ∃ i z, P.info? e = some i ∧ i.zero = some z ∧ i.size = k ∧ i.bytes = bytes ∧ z.cells.size = k
theorem ElT.mk' {P : Program} {t e : TypeId} {k bytes : Nat} {z : Value} (ht : P.underlying t = some (.slice e)) (h : (P.info? e).map (fun i => (i.zero, i.size, i.bytes)) = some (some z, k, bytes)) (hz : z.cells.size = k) : ElT P t e k bytes := by
  obtain ⟨i, h1, h2, h3, h4⟩ := info_parts h
  exact ⟨ht, i, z, h1, h2, h3, h4, hz⟩

theorem Own.form {α : Type} [Enc α] {w : World} {B E : Nat} {v : Value} {xs : List α} (h : Own w B E v xs) : ∃ A c, v = .slice A xs.length c ∧ xs.length ≤ c ∧ c ≤ maxLen := by
  rcases h.2 with ⟨hv, h0⟩ | ⟨g, cap, cur, hv, _, _, hnc, hcm, _⟩
  · exact ⟨none, 0, by rw [hv, h0], by omega, by unfold maxLen; omega⟩
  · exact ⟨_, cap, hv, hnc, hcm⟩
theorem Own.nil_ {α : Type} [Enc α] (w : World) (B E : Nat) : Own w B E (.slice none 0 0) ([] : List α) := World.ownsRow_nil _ _ _ _
theorem Own.empty {α : Type} [Enc α] (w : World) (B E c : Nat) (cur : Array Value) (hB : B ≤ w.heap.size) (hm : c ≤ maxLen) (hs : cur.size = c * Enc.k α) :
    Own (w.alloc (.cells cur E)) B E (.slice (some ⟨w.heap.size, 0, none⟩) 0 c) ([] : List α) := World.ownsRow_made w cur c hB hm hs
theorem Own.more {α : Type} [Enc α] {w : World} {B B' E : Nat} {v : Value} {xs : List α} (h : Own w B E v xs) (hB : B' ≤ B) : Own w B' E v xs := by
  refine ⟨h.1, ?_⟩
  rcases h.2 with h2 | ⟨g, cap, cur, hv, hb, r⟩
  · exact .inl h2
  · exact .inr ⟨g, cap, cur, hv, by omega, r⟩
theorem Own.down {α : Type} [Enc α] {w0 W w : World} {E : Nat} {v : Value} {xs : List α} (h : Own w W.heap.size E v xs) (hu : Up w0 W) : Own w w0.heap.size E v xs := h.more hu.size
theorem Up.le {w0 w : World} (h : Up w0 w) : w0.heap.size ≤ w.heap.size := h.size
theorem Own.grown {α : Type} [Enc α] {w w' : World} {B E : Nat} {v : Value} {xs : List α} {row : Option Nat} (h : Own w B E v xs) (hg : w.grownBy w' row) (hne : v.ownBlock = none ∨ v.ownBlock ≠ row) : Own w' B E v xs :=
  World.ownsRow.kept h hg hne
/-- A fresh slice of one element, as append's last argument is laid. -/
theorem Rd.one {α : Type} [Enc α] (w : World) (T : TypeId) (x : α) (B : Nat) (hB : w.heap.size < B) : Rd (w.alloc (.cells (Enc.cells x).toArray T)) B (some ⟨w.heap.size, 0, none⟩) [x] := by
  intro _
  refine ⟨w.heap.size, 0, rfl, hB, fun j u hu => ?_⟩
  rw [flat_one] at hu
  rw [Nat.zero_add, cell_of_row _ _ j _ T (0, 0) (heap_alloc_new w _)]
  simpa using hu

/-- The row at a block, as a loop that writes into it sees it: its first m cells are ys's. -/
def Marking (w0 w : World) (B E k : Nat) (g n cap m : Nat) (ys : List Value) : Prop :=
  ∃ cs : List Value, w.ownsRow B E k (.slice (some ⟨g, 0, none⟩) n cap) n cs ∧ cs.take m = ys.take m ∧ w0.grownBy w (some g)
theorem Marking.start {w : World} {B E k g n cap : Nat} {cs ys : List Value} (h : w.ownsRow B E k (.slice (some ⟨g, 0, none⟩) n cap) n cs) : Marking w w B E k g n cap 0 ys :=
  ⟨cs, h, by simp, ⟨rfl, rfl, rfl, Nat.le_refl _, fun _ _ _ => rfl⟩⟩
theorem Marking.cell {w0 w : World} {B E k g n cap m : Nat} {ys : List Value} (h : Marking w0 w B E k g n cap m ys) {j : Nat} (hj : j < n * k) : ∃ u, w.cell? ⟨g, j, none⟩ = some u := by
  obtain ⟨cs, ho, _⟩ := h
  have hl : cs.length = n * k := ho.1
  exact ⟨cs[j]'(by omega), by rw [ho.cellAt j hj]; exact List.getElem?_eq_getElem _⟩
theorem Marking.frozen {w0 w : World} {B E k g n cap m : Nat} {ys : List Value} (h : Marking w0 w B E k g n cap m ys) (j : Nat) : w.frozen? ⟨g, j, none⟩ = false := by
  obtain ⟨cs, ho, _⟩ := h
  exact ho.frozenAt j
theorem grownBy_trans {a b c : World} {row : Option Nat} (h : a.grownBy b row) (k : b.grownBy c row) : a.grownBy c row :=
  ⟨k.os.trans h.os, k.tape.trans h.tape, k.output.trans h.output, Nat.le_trans h.size k.size, fun i hi hne => (k.block i (Nat.lt_of_lt_of_le hi h.size) hne).trans (h.block i hi hne)⟩
theorem Marking.set1 {w0 w : World} {B E k g n cap m : Nat} {ys : List Value} {v : Value} (h : Marking w0 w B E k g n cap m ys) (hm : m < n * k) (hy : ys[m]? = some v) :
    Marking w0 (w.setCell ⟨g, m, none⟩ v) B E k g n cap (m + 1) ys := by
  obtain ⟨cs, ho, ht, hg⟩ := h
  have hl : cs.length = n * k := ho.1
  obtain ⟨h1, h2⟩ := ho.stored m v
  exact ⟨cs.set m v, h1, take_set_succ (by omega) hy ht, grownBy_trans hg h2⟩
theorem Marking.drewN {w0 w : World} {B E k g n cap m : Nat} {ys : List Value} (h : Marking w0 w B E k g n cap m ys) (q : Nat) : Marking w0 (w.drewN q) B E k g n cap m ys := by
  obtain ⟨cs, ho, ht, hg⟩ := h
  exact ⟨cs, ho, ht, ⟨hg.os, hg.tape, hg.output, hg.size, hg.block⟩⟩
theorem Marking.own {α : Type} [Enc α] {w0 w : World} {B E g n cap : Nat} {ys : List α} (h : Marking w0 w B E (Enc.k α) g n cap (n * Enc.k α) (flat ys)) (hn : ys.length = n) : Own w B E (.slice (some ⟨g, 0, none⟩) n cap) ys ∧ w0.grownBy w (some g) := by
  obtain ⟨cs, ho, ht, hg⟩ := h
  have hl : cs.length = n * Enc.k α := ho.1
  have e1 : (flat ys).take (n * Enc.k α) = flat ys := List.take_of_length_le (by rw [flat_len, hn]; exact Nat.le_refl _)
  rw [e1, List.take_of_length_le (by omega)] at ht
  subst ht
  refine ⟨?_, hg⟩
  unfold Own
  rw [hn]
  exact ho
theorem Own.sep1 {α β : Type} [Enc α] [Enc β] {w w' we : World} {B E Bx Ex : Nat} {v vx : Value} {xs : List α} {ys : List β} (hv : Own w B E v xs) (hx : Own we Bx Ex vx ys) (hle : we.heap.size ≤ B) (hg : w.grownBy w' vx.ownBlock) : Own w' B E v xs := by
  refine hv.grown hg ?_
  cases hb : v.ownBlock with
  | none => exact .inl rfl
  | some k =>
    refine .inr fun e => ?_
    have h1 := (World.ownsRow.lt hv k hb).1
    have h2 := (World.ownsRow.lt hx k e.symm).2
    omega
theorem Own.sep2 {α β : Type} [Enc α] [Enc β] {w w' we : World} {B B' E Bx Ex : Nat} {v vx : Value} {xs xs' : List α} {ys : List β} (hv : Own w B E v xs) (hv0 : Own we B' E v xs') (hx : Own w Bx Ex vx ys) (hle : we.heap.size ≤ Bx) (hg : w.grownBy w' vx.ownBlock) : Own w' B E v xs := by
  refine hv.grown hg ?_
  cases hb : v.ownBlock with
  | none => exact .inl rfl
  | some k =>
    refine .inr fun e => ?_
    have h1 := (World.ownsRow.lt hv0 k hb).2
    have h2 := (World.ownsRow.lt hx k e.symm).1
    omega
theorem addr_add (b o j : Nat) : (⟨b, o, none⟩ : Addr).add j = ⟨b, o + j, none⟩ := by unfold Addr.add; split <;> simp_all

theorem run_append_nil_src {α : Type} [Enc α] {P : Program} (w : World) {t ty e : Nat} {i : TypeInfo} (ht : P.underlying t = some (.slice e)) (hi : P.info? e = some i) {base : Nat} {v : Value} {ys : List α} (hown : Own w base e v ys) (c : Nat) :
    (Builtin.append_ #[t, t] ty #[v, .slice none 0 c]).run P w = .ok v w := by
  rcases hown.2 with ⟨rfl, h0⟩ | ⟨g, cap, cur, rfl, _, _, hnc, _⟩
  · simp [Builtin.append_, run_underlying ht, sizeOf, typeInfo, hi, Builtin.lenOf, Builtin.firstCells]
  · simp [Builtin.append_, run_underlying ht, sizeOf, typeInfo, hi, Builtin.lenOf, Builtin.firstCells, hnc, storeCells]
theorem run_append_rd {α : Type} [Enc α] {P : Program} (w : World) {t ty e bytes : Nat} (T : ElT P t e (Enc.k α) bytes) {base : Nat} {v : Value} {ys : List α} (hown : Own w base e v ys)
    {B : Nat} {A : Option Addr} {c : Nat} {xs : List α} (hr : Rd w B A xs) (hbytes : (ys.length + xs.length) * bytes ≤ 140737488355328) (h63 : ys.length + xs.length ≤ maxLen) (hbase : base ≤ w.heap.size) :
    ∃ v' w', (Builtin.append_ #[t, t] ty #[v, .slice A xs.length c]).run P w = .ok v' w' ∧ Own w' base e v' (ys ++ xs) ∧ w.grownBy w' v.ownBlock ∧ (v'.ownBlock = v.ownBlock ∨ v'.ownBlock = some w.heap.size) := by
  obtain ⟨i, z, hi, hz, hs, hb, hzs⟩ := T.info
  cases A with
  | none =>
    have hx : xs = [] := by
      rcases Classical.em (xs = []) with h | h
      · exact h
      · obtain ⟨_, _, h', _⟩ := hr h
        cases h'
    subst hx
    have hrun := run_append_nil_src (P := P) w (ty := ty) T.ht hi hown c
    exact ⟨v, w, by simpa using hrun, by simpa using hown, ⟨rfl, rfl, rfl, Nat.le_refl _, fun _ _ _ => rfl⟩, .inl rfl⟩
  | some ad =>
    have hnews : ∀ j u, (flat xs)[j]? = some u → w.cell? (ad.add j) = some u := by
      intro j u hu
      have hne : xs ≠ [] := by rintro rfl; simp [flat] at hu
      obtain ⟨b, off, hA', _, hc⟩ := hr hne
      injection hA' with hA'
      subst hA'
      rw [addr_add]
      exact hc j u hu
    obtain ⟨v', w', hrun, h2, h3, _, h5⟩ := run_append_own_at (P := P) w base t ty e i z (Enc.k α) bytes T.ht hi hz hs hb hzs Enc.pos v ys.length (flat ys) hown ad xs.length c (flat xs) (flat_len xs) hnews (flat_oneCell xs) h63 hbytes hbase
    refine ⟨v', w', hrun, ?_, h3, h5⟩
    have e1 : (ys ++ xs).length = ys.length + xs.length := List.length_append
    unfold Own
    rw [e1, flat_append]
    exact h2

theorem Up.grown' {α : Type} [Enc α] {w0 w w' : World} {base e : Nat} {v : Value} {ys : List α} (h : Up w0 w) (hg : w.grownBy w' v.ownBlock) (hown : Own w base e v ys) (hb : w0.heap.size ≤ base) : Up w0 w' :=
  Below.grown h hg h.size (fun k hk => Nat.le_trans hb (World.ownsRow.lt hown k hk).1)

theorem wp_append_rd {α : Type} [Enc α] {P : Program} {w : World} {o : Oper} {a : Act} {K : Act → World → Prop} {Q : Exit → Act → World → Prop} {t e bytes : Nat} (T : ElT P t e (Enc.k α) bytes)
    (s x : Operand) (ho : o.op = .call { callee := .builtin .append, args := #[s, x], argTypes := #[t, t] })
    {base : Nat} {v : Value} {ys : List α} (hs : a.eval s = v) (hown : Own w base e v ys)
    {B : Nat} {A : Option Addr} {c : Nat} {xs : List α} (n : Nat) (hx : a.eval x = .slice A n c) (hn : n = xs.length) (hr : Rd w B A xs)
    (hbytes : (ys.length + xs.length) * bytes ≤ 140737488355328) (h63 : ys.length + xs.length ≤ maxLen) (hbase : base ≤ w.heap.size)
    (h : ∀ v' w', Own w' base e v' (ys ++ xs) → w.grownBy w' v.ownBlock → (v'.ownBlock = v.ownBlock ∨ v'.ownBlock = some w.heap.size) → (∀ w0, w0.heap.size ≤ base → Up w0 w → Up w0 w') → K (a.put o.dst v') w') :
    o.wp P a w K Q := by
  subst hn
  obtain ⟨v', w', hrun, h2, h3, h4⟩ := run_append_rd (P := P) w (ty := o.type) (c := c) T hown hr hbytes h63 hbase
  unfold Oper.wp execOp
  simp only [ho, resolve, invoke, builtin, Sem.run_bind, Sem.run_pure, Result.andThen_ok, List.map_toArray, List.map_cons, List.map_nil, hs, hx, hrun]
  exact h v' w' h2 h3 h4 fun w0 hb hu => Up.grown' hu h3 hown hb
theorem wpList_append_rd {α : Type} [Enc α] {P : Program} {w : World} {ops : Array Oper} {rest : List Oper} {o : Oper} {a : Act} {Q : Exit → Act → World → Prop} {t e bytes : Nat} (T : ElT P t e (Enc.k α) bytes)
    (hgd : o.guard = none) (s x : Operand) (ho : o.op = .call { callee := .builtin .append, args := #[s, x], argTypes := #[t, t] })
    {base : Nat} {v : Value} {ys : List α} (hs : a.eval s = v) (hown : Own w base e v ys)
    {B : Nat} {A : Option Addr} {c : Nat} {xs : List α} (n : Nat) (hx : a.eval x = .slice A n c) (hn : n = xs.length) (hr : Rd w B A xs)
    (hbytes : (ys.length + xs.length) * bytes ≤ 140737488355328) (h63 : ys.length + xs.length ≤ maxLen) (hbase : base ≤ w.heap.size)
    (h : ∀ v' w', Own w' base e v' (ys ++ xs) → w.grownBy w' v.ownBlock → (v'.ownBlock = v.ownBlock ∨ v'.ownBlock = some w.heap.size) → (∀ w0, w0.heap.size ≤ base → Up w0 w → Up w0 w') → wpList P ops Q rest (a.put o.dst v') w') :
    wpList P ops Q (o :: rest) a w :=
  wpList_plain hgd fun _ hK => wp_append_rd T s x ho hs hown n hx hn hr hbytes h63 hbase fun v' w' h2 h3 h4 h5 => hK _ _ (h v' w' h2 h3 h4 h5)
theorem step_append_rd {α : Type} [Enc α] {P : Program} {w : World} {ops : Array Oper} {o : Oper} {a : Act} {K : Act → World → Prop} {Q : Exit → Act → World → Prop} {E : Prop} {t e bytes : Nat} (T : ElT P t e (Enc.k α) bytes)
    (hgd : o.guard = none) (s x : Operand) (ho : o.op = .call { callee := .builtin .append, args := #[s, x], argTypes := #[t, t] })
    {base : Nat} {v : Value} {ys : List α} (hs : a.eval s = v) (hown : Own w base e v ys)
    {B : Nat} {A : Option Addr} {c : Nat} {xs : List α} (n : Nat) (hx : a.eval x = .slice A n c) (hn : n = xs.length) (hr : Rd w B A xs)
    (hbytes : (ys.length + xs.length) * bytes ≤ 140737488355328) (h63 : ys.length + xs.length ≤ maxLen) (hbase : base ≤ w.heap.size)
    (h : ∀ v' w', Own w' base e v' (ys ++ xs) → w.grownBy w' v.ownBlock → (v'.ownBlock = v.ownBlock ∨ v'.ownBlock = some w.heap.size) → (∀ w0, w0.heap.size ≤ base → Up w0 w → Up w0 w') → K (a.put o.dst v') w') :
    if Region.wanted o (yielded ops a.tmps) = true then Oper.wp P o a w K Q else E := by
  rw [if_pos (by simp [Region.wanted, hgd])]
  exact wp_append_rd T s x ho hs hown n hx hn hr hbytes h63 hbase h
end Go.Proofs.Ytapllnlclgbbkaa
