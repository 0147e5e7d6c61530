/- The layer of plain values: building, making, storing, appending. No program in sight. -/
import Derived.Test.YtooikkfldddjfaaPl4
namespace Go.Proofs.Ytooikkfldddjfaa
set_option maxRecDepth 10000
open Go.RowKit

/-- The cells of an array represent these. -/
def CellsRep (w : World) (E : Env) (cs : List PV) (a : Array Value) : Prop :=
  a.size = cs.length ∧ ∀ (j : Nat) (p : PV), cs[j]? = some p → ∃ x, a[j]? = some x ∧ x.oneCell' = true ∧ Rep w E p x
def setR (cs : List PV) (off : Nat) (qs : List PV) : List PV := cs.take off ++ qs ++ cs.drop (off + qs.length)
def fillP (place : Nat → Option (Nat × Nat)) : List PV → List (Nat × PV) → Option (List PV)
  | cs, [] => some cs
  | cs, (i, p) :: rest => match place i, pc p with
    | some (off, size), some qs => if qs.length = size ∧ off + qs.length ≤ cs.length then fillP place (setR cs off qs) rest else none
    | _, _ => none

section
variable {w : World} {E : Env} {w0 : World} {m : Mem} {P : Program}

theorem setR_length {cs qs : List PV} {off : Nat} (h : off + qs.length ≤ cs.length) : (setR cs off qs).length = cs.length := by
  simp only [setR, List.length_append, List.length_take, List.length_drop]; omega
theorem setR_get {cs qs : List PV} {off : Nat} (h : off + qs.length ≤ cs.length) (j : Nat) : (setR cs off qs)[j]? = if off ≤ j ∧ j < off + qs.length then qs[j - off]? else cs[j]? := by
  have hl : (cs.take off).length = off := by rw [List.length_take]; omega
  unfold setR
  rw [List.append_assoc]
  rcases Nat.lt_or_ge j off with h1 | h1
  · rw [List.getElem?_append_left (by omega), List.getElem?_take_of_lt h1, if_neg (by omega)]
  · rw [List.getElem?_append_right (by omega), hl]
    rcases Nat.lt_or_ge j (off + qs.length) with h2 | h2
    · rw [List.getElem?_append_left (by omega), if_pos ⟨h1, h2⟩]
    · rw [List.getElem?_append_right (by omega), List.getElem?_drop, if_neg (by omega)]
      congr 1; omega
theorem foldl_set (qs : List Value) : ∀ (i off : Nat) (a : Array Value), ((qs.zipIdx i).foldl (fun cs (c, j) => cs.setIfInBounds (off + j) c) a).size = a.size ∧
    ∀ j, ((qs.zipIdx i).foldl (fun cs (c, j) => cs.setIfInBounds (off + j) c) a)[j]? = if off + i ≤ j ∧ j < off + i + qs.length ∧ j < a.size then qs[j - (off + i)]? else a[j]? := by
  induction qs with
  | nil => intro i off a; exact ⟨rfl, fun j => by simp; intro h1 h2; omega⟩
  | cons q qs ih =>
    intro i off a
    simp only [List.zipIdx_cons, List.foldl_cons]
    obtain ⟨h1, h2⟩ := ih (i + 1) off (a.setIfInBounds (off + i) q)
    refine ⟨by rw [h1]; simp, fun j => ?_⟩
    rw [h2 j]
    simp only [Array.size_setIfInBounds, List.length_cons]
    by_cases e : j = off + i
    · subst e
      rw [if_neg (by omega)]
      by_cases hs : off + i < a.size
      · rw [if_pos (by omega), Array.getElem?_setIfInBounds_self_of_lt hs]; simp
      · rw [if_neg (by omega), Array.getElem?_eq_none (by simp; omega), Array.getElem?_eq_none (by omega)]
    · by_cases c : off + (i + 1) ≤ j ∧ j < off + (i + 1) + qs.length ∧ j < a.size
      · rw [if_pos c, if_pos (by omega)]
        have : j - (off + i) = (j - (off + (i + 1))) + 1 := by omega
        rw [this, List.getElem?_cons_succ]
      · rw [if_neg c, if_neg (by omega), Array.getElem?_setIfInBounds_ne (fun h => e h.symm)]
theorem fill_rep {place : Nat → Option (Nat × Nat)} : ∀ (ps : List (Nat × PV)) (vs : List (Nat × Value)) (cs cs' : List PV) (a : Array Value), CellsRep w E cs a → fillP place cs ps = some cs' →
    ps.length = vs.length → (∀ (j i : Nat) (p : PV), ps[j]? = some (i, p) → ∃ x, vs[j]? = some (i, x) ∧ Rep w E p x) → ∃ a', Instr.fill place a vs = some a' ∧ CellsRep w E cs' a'
  | [], [], cs, cs', a, h, hf, _, _ => by
    simp only [fillP, Option.some.injEq] at hf
    subst hf
    exact ⟨a, rfl, h⟩
  | [], _ :: _, _, _, _, _, _, hl, _ => by simp at hl
  | _ :: _, [], _, _, _, _, _, hl, _ => by simp at hl
  | (i, p) :: ps, (i', x) :: vs, cs, cs', a, h, hf, hl, hr => by
    obtain ⟨x', hx', hrep⟩ := hr 0 i p rfl
    simp only [List.getElem?_cons_zero, Option.some.injEq, Prod.mk.injEq] at hx'
    obtain ⟨rfl, rfl⟩ := hx'
    simp only [fillP] at hf
    split at hf
    · rename_i off size qs hp hq
      simp only [Option.ite_none_right_eq_some] at hf
      obtain ⟨⟨h1, h2⟩, hf⟩ := hf
      obtain ⟨c1, c2⟩ := pc_rep hrep hq
      have hcond : ¬ ((x.cells.size ≠ size || off + x.cells.size > a.size) = true) := by
        rw [c1, h1, h.1]; simp; omega
      obtain ⟨f1, f2⟩ := foldl_set x.cells.toList 0 off a
      have e : x.cells.zipIdx.foldl (fun cs (x : Value × Nat) => cs.setIfInBounds (off + x.2) x.1) a = (x.cells.toList.zipIdx 0).foldl (fun cs (c, j) => cs.setIfInBounds (off + j) c) a := by
        rw [← Array.foldl_toList, Array.toList_zipIdx]
      have hnew : CellsRep w E (setR cs off qs) ((x.cells.toList.zipIdx 0).foldl (fun cs (c, j) => cs.setIfInBounds (off + j) c) a) := by
        refine ⟨by rw [f1, h.1, setR_length h2], fun j q hj => ?_⟩
        rw [setR_get h2] at hj
        rw [f2 j, Nat.add_zero]
        have hjl : ∀ {l : List PV}, l[j]? = some q → j < l.length := fun h => (List.getElem?_eq_some_iff.1 h).1
        by_cases c : off ≤ j ∧ j < off + qs.length
        · rw [if_pos c] at hj
          obtain ⟨y, y1, y2, y3⟩ := c2 _ q hj
          refine ⟨y, ?_, y2, y3⟩
          rw [if_pos ⟨c.1, by rw [Array.length_toList, c1]; exact c.2, by rw [h.1]; omega⟩]
          simpa using y1
        · rw [if_neg c] at hj
          obtain ⟨y, y1, y2, y3⟩ := h.2 j q hj
          refine ⟨y, ?_, y2, y3⟩
          rw [if_neg (by rw [Array.length_toList, c1]; omega)]
          exact y1
      obtain ⟨a', e1, e2⟩ := fill_rep ps vs _ cs' _ hnew hf (by simpa using hl) fun j i p hj => by
        obtain ⟨x, hx, hxr⟩ := hr (j + 1) i p (by simpa using hj)
        exact ⟨x, by simpa using hx, hxr⟩
      refine ⟨a', ?_, e2⟩
      simp only [Instr.fill, hp, hcond, if_false, Bool.false_eq_true]
      rw [← e1, ← e]
    · cases hf

def zeroOf (P : Program) (t : TypeId) : Option Value := (P.info? t).bind (·.zero)
/-- The cells of a type's zero value. -/
def pz (P : Program) (t : TypeId) : Option (List PV) := (zeroOf P t).bind fun z => pc (pcst z)
theorem pz_rep {t : TypeId} {cs : List PV} (h : pz P t = some cs) : ∃ i z, P.info? t = some i ∧ i.zero = some z ∧ CellsRep w E cs z.cells := by
  unfold pz zeroOf at h
  cases hi : P.info? t with
  | none => simp [hi] at h
  | some i =>
    cases hz : i.zero with
    | none => simp [hi, hz] at h
    | some z =>
      simp only [hi, hz, Option.bind_some] at h
      exact ⟨i, z, rfl, hz, pc_rep (pcst_rep z) h⟩
theorem run_zero {t : TypeId} {i : TypeInfo} {z : Value} (hi : P.info? t = some i) (hz : i.zero = some z) (w' : World) : (zeroValue t).run P w' = .ok z w' := by
  simp [zeroValue, typeInfo, hi, hz]

def pBuild (P : Program) (T : TypeId) (ps : List (Nat × PV)) (K : PV → Prop) : Prop :=
  match P.underlying T with
  | some (.struct fs) => (∀ fd ∈ fs.toList, 0 < P.cellsOf fd.type) ∧ match pz P T with
    | some zc => match fillP (fun i => (fs[i]?).map fun fd => (fd.offset, P.cellsOf fd.type)) zc ps with
      | some cs => K (.ag cs)
      | none => False
    | none => False
  | _ => False
theorem CellsRep.ag {cs : List PV} {a : Array Value} (h : CellsRep w E cs a) : Rep w E (.ag cs) (.agg a) := by
  refine .ag cs a h.1 (fun j x hx => ?_) fun j p x hp hx => ?_
  · have hj : j < cs.length := by rw [← h.1]; exact (Array.getElem?_eq_some_iff.1 hx).1
    obtain ⟨y, h1, h2, _⟩ := h.2 j _ (List.getElem?_eq_getElem hj)
    rw [hx] at h1; cases h1; exact h2
  · obtain ⟨y, h1, _, h3⟩ := h.2 j p hp
    rw [hx] at h1; cases h1; exact h3
theorem run_places {fs : Array Field} (h : ∀ fd ∈ fs.toList, 0 < P.cellsOf fd.type) (w' : World) :
    (fs.mapM fun (f : Field) => (do pure (f.offset, ← sizeOf f.type) : Sem (Nat × Nat))).run P w' = .ok (fs.map fun fd => (fd.offset, P.cellsOf fd.type)) w' := by
  rw [Array.mapM_eq_mapM_toList]
  have key : ∀ l : List Field, (∀ fd ∈ l, 0 < P.cellsOf fd.type) → (l.mapM fun (f : Field) => (do pure (f.offset, ← sizeOf f.type) : Sem (Nat × Nat))).run P w' = .ok (l.map fun fd => (fd.offset, P.cellsOf fd.type)) w' := by
    intro l
    induction l with
    | nil => intro _; simp
    | cons f l ih =>
      intro hl
      obtain ⟨i, hi, hs⟩ := info_of_pos (hl f (by simp))
      have := ih fun fd hfd => hl fd (by simp [hfd])
      simp only [List.mapM_cons, Sem.run_bind, run_sizeOf hi, Result.andThen_ok, Sem.run_pure, this, hs, List.map_cons]
  have k := key fs.toList h
  rw [Sem.run_map]
  refine (congrArg (fun r => Result.andThen r fun (a : List (Nat × Nat)) w' => Result.ok a.toArray w') k).trans ?_
  show Result.ok _ _ = _
  congr 1
  exact Array.ext' (by simp)
theorem pBuild_sound {T : TypeId} {ps : List (Nat × PV)} {vs : Array (Nat × Value)} (hl : ps.length = vs.size) (hr : ∀ (j i : Nat) (p : PV), ps[j]? = some (i, p) → ∃ x, vs[j]? = some (i, x) ∧ Rep w E p x) {K : PV → Prop} (h : pBuild P T ps K) :
    ∃ r v, K r ∧ (∀ w', (Instr.build T vs).run P w' = .ok v w') ∧ Rep w E r v := by
  unfold pBuild at h
  split at h
  · rename_i fs hu
    obtain ⟨hpos, h⟩ := h
    split at h
    · rename_i zc hz
      split at h
      · rename_i cs hf
        obtain ⟨i, z, hi, hz', hc⟩ := pz_rep (w := w) (E := E) hz
        obtain ⟨a', e1, e2⟩ := fill_rep ps vs.toList zc cs z.cells hc hf (by simpa using hl) fun j i p hj => by simpa using hr j i p hj
        refine ⟨_, .agg a', h, fun w' => ?_, e2.ag⟩
        simp only [Instr.build, Sem.run_bind, run_zero hi hz', run_underlying hu, Result.andThen_ok, run_places hpos w']
        simp [e1]
      · exact h.elim
    · exact h.elim
  · exact h.elim

theorem Ok.new {w0 w w' : World} {E : Env} {m : Mem} (h : Ok w0 E w m) (mb : MB) (B : Blk)
    (hos : w'.os = w.os) (htape : w'.tape = w.tape) (hout : w'.output = w.output) (hsize : w.heap.size ≤ w'.heap.size) (hh : ∀ b, b < w.heap.size → w'.heap[b]? = w.heap[b]?)
    (hB : w.heap.size ≤ B.b) (hlt : B.b < w'.heap.size) (hb : Ext w w' E (E.add m.length B) → BlkRep w' (E.add m.length B) mb B) :
    Ok w0 (E.add m.length B) w' (m ++ [some mb]) ∧ Ext w w' E (E.add m.length B) := by
  have hltm : ∀ l B, E.β l = some B → l < m.length := fun l B hB => by
    obtain ⟨mb', hm'⟩ := h.dom l B hB
    exact (List.getElem?_eq_some_iff.1 hm').1
  have hx : Ext w w' E (E.add m.length B) := by
    refine ⟨fun _ hb => hb, fun b o hb => cell_of_heap (hh b (h.sz b hb)), fun l B' hl hB' => ?_, by simp [Env.add, h.top], fun _ hb => .inl hb, hsize⟩
    rw [h.top] at hl
    simpa [Env.add, Nat.ne_of_lt hl] using hB'
  refine ⟨⟨⟨hos.trans h.up.os, htape.trans h.up.tape, hout.trans h.up.output, Nat.le_trans h.up.size hsize, fun k hk => (hh k (by have := h.up.size; omega)).trans (h.up.block k hk)⟩,
    fun b hb => by have := h.sz b hb; omega, ?_, ?_, by simp [Env.add], ?_, ?_⟩, hx⟩
  · intro l B' hB'
    by_cases hl : l = m.length
    · subst hl
      have e : B' = B := by simpa [Env.add, eq_comm] using hB'
      subst e
      exact ⟨by have := h.up.size; omega, hlt, fun hS => by have := h.sz _ hS; omega⟩
    · have hB2 : E.β l = some B' := by simpa [Env.add, hl] using hB'
      obtain ⟨a, b, d⟩ := h.own l B' hB2
      exact ⟨a, by omega, d⟩
  · intro l l' B1 B2 h1 h2 e
    by_cases hl : l = m.length <;> by_cases hl' : l' = m.length
    · rw [hl, hl']
    · have e1 : B1 = B := by simpa [Env.add, hl, eq_comm] using h1
      have h2 : E.β l' = some B2 := by simpa [Env.add, hl'] using h2
      have := (h.own l' B2 h2).2.1
      subst e1; omega
    · have e1 : B2 = B := by simpa [Env.add, hl', eq_comm] using h2
      have h2 : E.β l = some B1 := by simpa [Env.add, hl] using h1
      have := (h.own l B1 h2).2.1
      subst e1; omega
    · exact h.inj l l' B1 B2 (by simpa [Env.add, hl] using h1) (by simpa [Env.add, hl'] using h2) e
  · intro l mb' hm'
    by_cases hl : l = m.length
    · subst hl
      have e : mb = mb' := by simpa using hm'
      subst e
      exact ⟨B, by simp [Env.add], hb hx⟩
    · have hll : l < m.length := by
        have := (List.getElem?_eq_some_iff.1 hm').1
        simp at this; omega
      rw [List.getElem?_append_left hll] at hm'
      obtain ⟨B', hB', hb'⟩ := h.mem l mb' hm'
      exact ⟨B', by simpa [Env.add, hl] using hB', hb'.ext hx (hh _ (h.own l B' hB').2.1)⟩
  · intro l B' hB'
    by_cases hl : l = m.length
    · subst hl; exact ⟨mb, by simp⟩
    · obtain ⟨mb', hm'⟩ := h.dom l B' (by simpa [Env.add, hl] using hB')
      exact ⟨mb', by rw [List.getElem?_append_left (List.getElem?_eq_some_iff.1 hm').1]; exact hm'⟩
end
end Go.Proofs.Ytooikkfldddjfaa
