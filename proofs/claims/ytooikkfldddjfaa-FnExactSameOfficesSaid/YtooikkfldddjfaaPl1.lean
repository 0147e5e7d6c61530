/- A layer of plain values: what a frame's temporaries hold, as trees of plain values, wherever they lie in memory. No program in sight. -/
import Derived.Test.YtooikkfldddjfaaKit
import Derived.Maps.AppendAt
import Derived.Laws.StructEq
import Derived.Deep.DeepCutAuto
import Derived.StillTailTactics
namespace Go.Proofs.Ytooikkfldddjfaa
set_option maxRecDepth 10000
open Go.RowKit

/-- A plain value: a value of one cell (v), the value of what was not carried out (ud), anything (un), a slice that is read only (sl), a pointer to cells that are read only (rp), a slice that is the whole of an own row (ms), a pointer into an own row (be: row, element, cell), a struct's cells (ag), a call's results (tu). -/
inductive PV where
  | v (x : Value)
  | ud
  | un
  | sl (es : List (List PV))
  | rp (cs : List PV)
  | ms (l : Nat)
  | be (l i o : Nat)
  | ag (cs : List PV)
  | tu (vs : List PV)
instance : Inhabited PV := ⟨.un⟩

/-- An own row: its element's type, an element's cells, its elements. -/
structure MB where
  T : TypeId
  k : Nat
  es : List (List PV)
abbrev Mem := List (Option MB)
structure St where
  t : List PV
  m : Mem

inductive RepC (w : World) (S : Nat → Prop) : PV → Value → Prop
  | v (x : Value) (h : x.oneCell' = true) : RepC w S (.v x) x
  | ud : RepC w S .ud undef
  | un (x : Value) : RepC w S .un x
  | nil (A : Option Addr) (c : Nat) : RepC w S (.sl []) (.slice A 0 c)
  | sl (es : List (List PV)) (b off k c : Nat) (u : Nat → Nat → Value) (hS : S b) (hk : 0 < k) (hn : es.length ≤ c) (hm : c ≤ maxLen)
      (hes : ∀ (i : Nat) (cs : List PV), es[i]? = some cs → cs.length = k)
      (hc : ∀ (i : Nat) (cs : List PV) (j : Nat) (p : PV), es[i]? = some cs → cs[j]? = some p → w.cell? ⟨b, off + i * k + j, none⟩ = some (u i j))
      (h1 : ∀ (i : Nat) (cs : List PV) (j : Nat) (p : PV), es[i]? = some cs → cs[j]? = some p → (u i j).oneCell' = true)
      (hr : ∀ (i : Nat) (cs : List PV) (j : Nat) (p : PV), es[i]? = some cs → cs[j]? = some p → RepC w S p (u i j)) : RepC w S (.sl es) (.slice (some ⟨b, off, none⟩) es.length c)
  | rp (cs : List PV) (b off : Nat) (u : Nat → Value) (hS : S b)
      (hc : ∀ (j : Nat) (p : PV), cs[j]? = some p → w.cell? ⟨b, off + j, none⟩ = some (u j))
      (h1 : ∀ (j : Nat) (p : PV), cs[j]? = some p → (u j).oneCell' = true)
      (hr : ∀ (j : Nat) (p : PV), cs[j]? = some p → RepC w S p (u j)) : RepC w S (.rp cs) (.pointer (some ⟨b, off, none⟩))

structure Blk where
  b : Nat
  c : Nat
  n : Nat
  k : Nat
  T : TypeId
structure Env where
  S : Nat → Prop
  β : Nat → Option Blk
  top : Nat

inductive Rep (w : World) (E : Env) : PV → Value → Prop
  | c {p : PV} {x : Value} (h : RepC w E.S p x) : Rep w E p x
  | ms (l : Nat) (x : Value) (hl : l < E.top) (h1 : x.oneCell' = true) (h : ∀ B, E.β l = some B → x = .slice (some ⟨B.b, 0, none⟩) B.n B.c) : Rep w E (.ms l) x
  | be (l i o : Nat) (x : Value) (hl : l < E.top) (h1 : x.oneCell' = true) (h : ∀ B, E.β l = some B → x = .pointer (some ⟨B.b, i * B.k + o, none⟩)) : Rep w E (.be l i o) x
  | ag (cs : List PV) (vs : Array Value) (hl : vs.size = cs.length) (h1 : ∀ (j : Nat) (x : Value), vs[j]? = some x → x.oneCell' = true)
      (hr : ∀ (j : Nat) (p : PV) (x : Value), cs[j]? = some p → vs[j]? = some x → Rep w E p x) : Rep w E (.ag cs) (.agg vs)
  | tu (ps : List PV) (vs : Array Value) (hl : vs.size = ps.length)
      (hr : ∀ (j : Nat) (p : PV) (x : Value), ps[j]? = some p → vs[j]? = some x → Rep w E p x) : Rep w E (.tu ps) (.tuple vs)

/-- From (w, E) to (w', E'): what was represented still is. -/
structure Ext (w w' : World) (E E' : Env) : Prop where
  S : ∀ b, E.S b → E'.S b
  cell : ∀ b o, E.S b → w'.cell? ⟨b, o, none⟩ = w.cell? ⟨b, o, none⟩
  β : ∀ l B, l < E.top → E'.β l = some B → E.β l = some B
  top : E.top ≤ E'.top
  S' : ∀ b, E'.S b → E.S b ∨ w.heap.size ≤ b
  size : w.heap.size ≤ w'.heap.size

theorem Ext.refl (w : World) (E : Env) : Ext w w E E := ⟨fun _ h => h, fun _ _ _ => rfl, fun _ _ _ h => h, Nat.le_refl _, fun _ h => .inl h, Nat.le_refl _⟩
theorem Ext.trans {w w1 w2 : World} {E E1 E2 : Env} (h : Ext w w1 E E1) (k : Ext w1 w2 E1 E2) : Ext w w2 E E2 :=
  ⟨fun b hb => k.S b (h.S b hb), fun b o hb => (k.cell b o (h.S b hb)).trans (h.cell b o hb), fun l B hl hB => h.β l B hl (k.β l B (Nat.lt_of_lt_of_le hl h.top) hB), Nat.le_trans h.top k.top,
    fun b hb => by
      rcases k.S' b hb with h1 | h1
      · exact h.S' b h1
      · exact .inr (Nat.le_trans h.size h1), Nat.le_trans h.size k.size⟩

theorem RepC.ext {w w' : World} {S S' : Nat → Prop} (hS : ∀ b, S b → S' b) (hc : ∀ b o, S b → w'.cell? ⟨b, o, none⟩ = w.cell? ⟨b, o, none⟩) {p : PV} {x : Value} (h : RepC w S p x) : RepC w' S' p x := by
  induction h with
  | v x h => exact .v x h
  | ud => exact .ud
  | un x => exact .un x
  | nil A c => exact .nil A c
  | sl es b off k c u hSb hk hn hm hes hcc h1 hr ih =>
    exact .sl es b off k c u (hS b hSb) hk hn hm hes (fun i cs j p h h' => (hc _ _ hSb).trans (hcc i cs j p h h')) h1 ih
  | rp cs b off u hSb hcc h1 hr ih =>
    exact .rp cs b off u (hS b hSb) (fun j p h => (hc _ _ hSb).trans (hcc j p h)) h1 ih

theorem Rep.ext {w w' : World} {E E' : Env} (hx : Ext w w' E E') {p : PV} {x : Value} (h : Rep w E p x) : Rep w' E' p x := by
  induction h with
  | c h => exact .c (h.ext hx.S hx.cell)
  | ms l x hl h1 h => exact .ms l x (Nat.lt_of_lt_of_le hl hx.top) h1 fun B hB => h B (hx.β l B hl hB)
  | be l i o x hl h1 h => exact .be l i o x (Nat.lt_of_lt_of_le hl hx.top) h1 fun B hB => h B (hx.β l B hl hB)
  | ag cs vs hl h1 hr ih => exact .ag cs vs hl h1 ih
  | tu ps vs hl hr ih => exact .tu ps vs hl ih

/-- A row in memory holds what its plain row says. -/
structure BlkRep (w : World) (E : Env) (mb : MB) (B : Blk) : Prop where
  k : B.k = mb.k
  n : B.n = mb.es.length
  T : B.T = mb.T
  pos : 0 < B.k
  nc : B.n ≤ B.c
  cm : B.c ≤ maxLen
  es : ∀ (i : Nat) (cs : List PV), mb.es[i]? = some cs → cs.length = B.k
  mem : ∃ cells : Array Value, w.heap[B.b]? = some (.cells cells B.T (0, 0)) ∧ cells.size = B.c * B.k ∧
    ∀ (i : Nat) (cs : List PV) (j : Nat) (p : PV), mb.es[i]? = some cs → cs[j]? = some p → ∃ x, cells[i * B.k + j]? = some x ∧ x.oneCell' = true ∧ Rep w E p x

structure Ok (w0 : World) (E : Env) (w : World) (m : Mem) : Prop where
  up : Up w0 w
  sz : ∀ b, E.S b → b < w.heap.size
  own : ∀ l B, E.β l = some B → w0.heap.size ≤ B.b ∧ B.b < w.heap.size ∧ ¬ E.S B.b
  inj : ∀ l l' B B', E.β l = some B → E.β l' = some B' → B.b = B'.b → l = l'
  top : E.top = m.length
  mem : ∀ l mb, m[l]? = some (some mb) → ∃ B, E.β l = some B ∧ BlkRep w E mb B
  dom : ∀ l B, E.β l = some B → ∃ mb, m[l]? = some (some mb)

theorem BlkRep.ext {w w' : World} {E E' : Env} {mb : MB} {B : Blk} (h : BlkRep w E mb B) (hx : Ext w w' E E') (hh : w'.heap[B.b]? = w.heap[B.b]?) : BlkRep w' E' mb B := by
  obtain ⟨cells, h1, h2, h3⟩ := h.mem
  exact ⟨h.k, h.n, h.T, h.pos, h.nc, h.cm, h.es, cells, hh.trans h1, h2, fun i cs j p e e' => by
    obtain ⟨x, a, b, c⟩ := h3 i cs j p e e'
    exact ⟨x, a, b, c.ext hx⟩⟩

/-- A new row is made. -/
def Env.add (E : Env) (l : Nat) (B : Blk) : Env := { S := E.S, β := fun l' => if l' = l then some B else E.β l', top := l + 1 }

theorem cell_of_heap {w w' : World} {b o : Nat} (h : w'.heap[b]? = w.heap[b]?) : w'.cell? ⟨b, o, none⟩ = w.cell? ⟨b, o, none⟩ := by simp [World.cell?, h]

theorem Ok.alloc {w0 w : World} {E : Env} {m : Mem} (h : Ok w0 E w m) (mb : MB) (c : Nat) (cells : Array Value) (hk : 0 < mb.k) (hn : mb.es.length ≤ c) (hc : c ≤ maxLen)
    (hes : ∀ (i : Nat) (cs : List PV), mb.es[i]? = some cs → cs.length = mb.k) (hs : cells.size = c * mb.k)
    (hr : ∀ (i : Nat) (cs : List PV) (j : Nat) (p : PV), mb.es[i]? = some cs → cs[j]? = some p → ∃ x, cells[i * mb.k + j]? = some x ∧ x.oneCell' = true ∧ Rep w E p x) :
    Ok w0 (E.add m.length ⟨w.heap.size, c, mb.es.length, mb.k, mb.T⟩) (w.alloc (.cells cells mb.T (0, 0))) (m ++ [some mb]) ∧
    Ext w (w.alloc (.cells cells mb.T (0, 0))) E (E.add m.length ⟨w.heap.size, c, mb.es.length, mb.k, mb.T⟩) := by
  have hsz : (w.alloc (.cells cells mb.T (0, 0))).heap.size = w.heap.size + 1 := by show (w.heap.push _).size = _; simp
  have hold : ∀ b, b < w.heap.size → (w.alloc (.cells cells mb.T (0, 0))).heap[b]? = w.heap[b]? := fun b hb => heap_alloc_old _ _ hb
  have hlt : ∀ l B, E.β l = some B → l < m.length := fun l B hB => by
    obtain ⟨mb', hm'⟩ := h.dom l B hB
    exact (List.getElem?_eq_some_iff.1 hm').1
  have hx : Ext w (w.alloc (.cells cells mb.T (0, 0))) E (E.add m.length ⟨w.heap.size, c, mb.es.length, mb.k, mb.T⟩) := by
    refine ⟨fun _ hb => hb, fun b o hb => cell_of_heap (hold b (h.sz b hb)), fun l B hl hB => ?_, by simp [Env.add, h.top], fun _ hb => .inl hb, by omega⟩
    rw [h.top] at hl
    simpa [Env.add, Nat.ne_of_lt hl] using hB
  refine ⟨⟨Up.al _ h.up, fun b hb => by have := h.sz b hb; omega, ?_, ?_, by simp [Env.add], ?_, ?_⟩, hx⟩
  · intro l B hB
    by_cases hl : l = m.length
    · subst hl
      have e : B = ⟨w.heap.size, c, mb.es.length, mb.k, mb.T⟩ := by simpa [Env.add, eq_comm] using hB
      subst e
      exact ⟨h.up.size, by simp only; omega, fun hS => by have := h.sz _ hS; simp only at this; omega⟩
    · have hB' : E.β l = some B := by simpa [Env.add, hl] using hB
      obtain ⟨a, b, d⟩ := h.own l B hB'
      exact ⟨a, by omega, d⟩
  · intro l l' B B' hB hB' e
    by_cases hl : l = m.length <;> by_cases hl' : l' = m.length
    · rw [hl, hl']
    · have e1 : B = ⟨w.heap.size, c, mb.es.length, mb.k, mb.T⟩ := by simpa [Env.add, hl, eq_comm] using hB
      have h2 : E.β l' = some B' := by simpa [Env.add, hl'] using hB'
      have := (h.own l' B' h2).2.1
      subst e1; simp only at e; omega
    · have e1 : B' = ⟨w.heap.size, c, mb.es.length, mb.k, mb.T⟩ := by simpa [Env.add, hl', eq_comm] using hB'
      have h2 : E.β l = some B := by simpa [Env.add, hl] using hB
      have := (h.own l B h2).2.1
      subst e1; simp only at e; omega
    · exact h.inj l l' B B' (by simpa [Env.add, hl] using hB) (by simpa [Env.add, hl'] using hB') e
  · intro l mb' hm'
    by_cases hl : l = m.length
    · subst hl
      have e : mb' = mb := by simpa [eq_comm] using hm'
      subst e
      refine ⟨⟨w.heap.size, c, mb'.es.length, mb'.k, mb'.T⟩, by simp [Env.add], rfl, rfl, rfl, hk, hn, hc, hes, cells, heap_alloc_new w _, hs, fun i cs j p e e' => ?_⟩
      obtain ⟨x, a, b, d⟩ := hr i cs j p e e'
      exact ⟨x, a, b, d.ext hx⟩
    · have hll : l < m.length := by
        have := (List.getElem?_eq_some_iff.1 hm').1
        simp at this; omega
      rw [List.getElem?_append_left hll] at hm'
      obtain ⟨B, hB, hb⟩ := h.mem l mb' hm'
      exact ⟨B, by simpa [Env.add, hl] using hB, hb.ext hx (hold _ (h.own l B hB).2.1)⟩
  · intro l B hB
    by_cases hl : l = m.length
    · subst hl; exact ⟨mb, by simp⟩
    · obtain ⟨mb', hm'⟩ := h.dom l B (by simpa [Env.add, hl] using hB)
      exact ⟨mb', by rw [List.getElem?_append_left (List.getElem?_eq_some_iff.1 hm').1]; exact hm'⟩

/-- An own row is written. -/
theorem Ok.put {w0 w w' : World} {E : Env} {m : Mem} (h : Ok w0 E w m) {l : Nat} {B : Blk} (hB : E.β l = some B) (mb : MB)
    (hos : w'.os = w.os) (htape : w'.tape = w.tape) (hout : w'.output = w.output) (hsize : w'.heap.size = w.heap.size) (hh : ∀ b, b ≠ B.b → w'.heap[b]? = w.heap[b]?)
    (hb : Ext w w' E E → BlkRep w' E mb B) : Ok w0 E w' (m.set l (some mb)) ∧ Ext w w' E E := by
  obtain ⟨o1, o2, o3⟩ := h.own l B hB
  have hx : Ext w w' E E := ⟨fun _ hb => hb, fun b o hb => cell_of_heap (hh b (fun e => o3 (e ▸ hb))), fun _ _ _ h => h, Nat.le_refl _, fun _ hb => .inl hb, by omega⟩
  have hll : l < m.length := by
    obtain ⟨mb', hm'⟩ := h.dom l B hB
    exact (List.getElem?_eq_some_iff.1 hm').1
  refine ⟨⟨⟨hos.trans h.up.os, htape.trans h.up.tape, hout.trans h.up.output, by rw [hsize]; exact h.up.size, fun k hk => (hh k (by omega)).trans (h.up.block k hk)⟩,
    fun b hb => by rw [hsize]; exact h.sz b hb, fun l' B' hB' => by rw [hsize]; exact h.own l' B' hB', h.inj, by simp [h.top], ?_, ?_⟩, hx⟩
  · intro l' mb' hm'
    by_cases hl : l' = l
    · subst hl
      rw [List.getElem?_set_self hll] at hm'
      obtain rfl : mb = mb' := by simpa using hm'
      exact ⟨B, hB, hb hx⟩
    · rw [List.getElem?_set_ne (fun e => hl e.symm)] at hm'
      obtain ⟨B', hB', hb'⟩ := h.mem l' mb' hm'
      exact ⟨B', hB', hb'.ext hx (hh _ (fun e => hl (h.inj l' l B' B hB' hB e)))⟩
  · intro l' B' hB'
    by_cases hl : l' = l
    · subst hl; exact ⟨mb, List.getElem?_set_self hll⟩
    · obtain ⟨mb', hm'⟩ := h.dom l' B' hB'
      exact ⟨mb', by rw [List.getElem?_set_ne (fun e => hl e.symm)]; exact hm'⟩

/-- An own row is given up, another takes its elements on (append). -/
def Env.move (E : Env) (l l' : Nat) (B : Blk) : Env := { S := E.S, β := fun i => if i = l' then some B else if i = l then none else E.β i, top := l' + 1 }
theorem Ok.move {w0 w w' : World} {E : Env} {m : Mem} (h : Ok w0 E w m) {l : Nat} {B : Blk} (hB : E.β l = some B) (mb : MB) (B' : Blk)
    (hos : w'.os = w.os) (htape : w'.tape = w.tape) (hout : w'.output = w.output) (hsize : w.heap.size ≤ w'.heap.size) (hh : ∀ b, b < w.heap.size → b ≠ B.b → w'.heap[b]? = w.heap[b]?)
    (hB' : B'.b = B.b ∨ w.heap.size ≤ B'.b) (hlt : B'.b < w'.heap.size) (hb : Ext w w' E (E.move l m.length B') → BlkRep w' (E.move l m.length B') mb B') :
    Ok w0 (E.move l m.length B') w' (m.set l none ++ [some mb]) ∧ Ext w w' E (E.move l m.length B') := by
  obtain ⟨o1, o2, o3⟩ := h.own l B hB
  have hll : l < m.length := by
    obtain ⟨mb', hm'⟩ := h.dom l B hB
    exact (List.getElem?_eq_some_iff.1 hm').1
  have hx : Ext w w' E (E.move l m.length B') := by
    refine ⟨fun _ hb => hb, fun b o hb => cell_of_heap (hh b (h.sz b hb) (fun e => o3 (e ▸ hb))), fun i B1 hi hB1 => ?_, by simp [Env.move, h.top], fun _ hb => .inl hb, hsize⟩
    rw [h.top] at hi
    simp only [Env.move, Nat.ne_of_lt hi, if_false] at hB1
    split at hB1
    · cases hB1
    · exact hB1
  have old : ∀ i B1, (E.move l m.length B').β i = some B1 → i ≠ m.length → i ≠ l ∧ E.β i = some B1 := by
    intro i B1 hB1 hi
    simp only [Env.move, hi, if_false] at hB1
    split at hB1
    · cases hB1
    · exact ⟨by assumption, hB1⟩
  have new : ∀ B1, (E.move l m.length B').β m.length = some B1 → B1 = B' := by
    intro B1 hB1
    simpa [Env.move, eq_comm] using hB1
  have apart : ∀ i B1, E.β i = some B1 → i ≠ l → B1.b ≠ B'.b := by
    intro i B1 hB1 hi e
    rcases hB' with e' | e'
    · exact hi (h.inj i l B1 B hB1 hB (e.trans e'))
    · have := (h.own i B1 hB1).2.1; omega
  refine ⟨⟨⟨hos.trans h.up.os, htape.trans h.up.tape, hout.trans h.up.output, Nat.le_trans h.up.size hsize, fun k hk => (hh k (by have := h.up.size; omega) (by omega)).trans (h.up.block k hk)⟩,
    fun b hb => by have := h.sz b hb; omega, ?_, ?_, by simp [Env.move], ?_, ?_⟩, hx⟩
  · intro i B1 hB1
    by_cases hi : i = m.length
    · subst hi
      obtain rfl := new B1 hB1
      refine ⟨?_, hlt, ?_⟩
      · rcases hB' with e' | e'
        · rw [e']; exact o1
        · have := h.up.size; omega
      · intro hS
        rcases hB' with e' | e'
        · rw [e'] at hS; exact o3 hS
        · have := h.sz _ hS; omega
    · obtain ⟨_, h2⟩ := old i B1 hB1 hi
      obtain ⟨a, b, d⟩ := h.own i B1 h2
      exact ⟨a, by omega, d⟩
  · intro i i' B1 B2 h1 h2 e
    by_cases hi : i = m.length <;> by_cases hi' : i' = m.length
    · rw [hi, hi']
    · subst hi
      obtain rfl := new B1 h1
      obtain ⟨h3, h4⟩ := old i' B2 h2 hi'
      exact absurd e.symm (apart i' B2 h4 h3)
    · subst hi'
      obtain rfl := new B2 h2
      obtain ⟨h3, h4⟩ := old i B1 h1 hi
      exact absurd e (apart i B1 h4 h3)
    · exact h.inj i i' B1 B2 (old i B1 h1 hi).2 (old i' B2 h2 hi').2 e
  · intro i mb' hm'
    by_cases hi : i = m.length
    · subst hi
      have e : mb = mb' := by simpa using hm'
      subst e
      exact ⟨B', by simp [Env.move], hb hx⟩
    · have hil : i < m.length := by
        have := (List.getElem?_eq_some_iff.1 hm').1
        simp at this; omega
      rw [List.getElem?_append_left (by simpa using hil)] at hm'
      have hne : i ≠ l := by
        rintro rfl
        rw [List.getElem?_set_self hll] at hm'
        simp at hm'
      rw [List.getElem?_set_ne (fun e => hne e.symm)] at hm'
      obtain ⟨B1, hB1, hb1⟩ := h.mem i mb' hm'
      refine ⟨B1, by simp [Env.move, hi, hne, hB1], hb1.ext hx (hh _ (h.own i B1 hB1).2.1 (fun e => hne (h.inj i l B1 B hB1 hB e)))⟩
  · intro i B1 hB1
    by_cases hi : i = m.length
    · subst hi; exact ⟨mb, by simp⟩
    · obtain ⟨h3, h4⟩ := old i B1 hB1 hi
      obtain ⟨mb', hm'⟩ := h.dom i B1 h4
      refine ⟨mb', ?_⟩
      rw [List.getElem?_append_left (by simpa using (List.getElem?_eq_some_iff.1 hm').1), List.getElem?_set_ne (fun e => h3 e.symm)]
      exact hm'
/-- Nothing but draws. -/
theorem Ok.drew {w0 w : World} {E : Env} {m : Mem} (h : Ok w0 E w m) (n : Nat) : Ok w0 E (w.drewN n) m ∧ Ext w (w.drewN n) E E := by
  have hx : Ext w (w.drewN n) E E := ⟨fun _ h => h, fun _ _ _ => rfl, fun _ _ _ h => h, Nat.le_refl _, fun _ h => .inl h, Nat.le_refl _⟩
  exact ⟨⟨Up.dr n h.up, h.sz, h.own, h.inj, h.top, fun l mb hm => by obtain ⟨B, hB, hb⟩ := h.mem l mb hm; exact ⟨B, hB, hb.ext hx rfl⟩, h.dom⟩, hx⟩
end Go.Proofs.Ytooikkfldddjfaa
