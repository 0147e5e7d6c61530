/- The layer of plain values: operations that only read. No program in sight. -/
import Derived.Test.YtooikkfldddjfaaPl1
namespace Go.Proofs.Ytooikkfldddjfaa
set_option maxRecDepth 10000
open Go.RowKit

def allOne (cs : Array Value) : Bool := cs.toList.all (·.oneCell')
def pcst : Value → PV
  | .agg cs => if allOne cs then .ag (cs.toList.map .v) else .un
  | .tuple _ => .un
  | x => .v x
def evP (t : List PV) : Operand → PV
  | .tmp i => t.getD i .un
  | .const x => pcst x
  | .func f => .v (.func (.func f) #[] #[])
  | .global _ => .un
def RepT (w : World) (E : Env) (t : List PV) (tm : Array Value) : Prop := tm.size = t.length ∧ ∀ i p, t[i]? = some p → Rep w E p (tm.getD i undef)

section
variable {w : World} {E : Env} {w0 : World} {m : Mem}
theorem Rep.un' (x : Value) : Rep w E .un x := .c (.un x)
theorem Rep.v_inv {a x : Value} (h : Rep w E (.v a) x) : x = a ∧ a.oneCell' = true := by
  cases h with
  | c h => cases h with | v _ h => exact ⟨rfl, h⟩
theorem Rep.sl_inv {es : List (List PV)} {x : Value} (h : Rep w E (.sl es) x) : RepC w E.S (.sl es) x := by cases h with | c h => exact h
theorem Rep.rp_inv {cs : List PV} {x : Value} (h : Rep w E (.rp cs) x) : RepC w E.S (.rp cs) x := by cases h with | c h => exact h
theorem Rep.ag_inv {cs : List PV} {x : Value} (h : Rep w E (.ag cs) x) : ∃ vs : Array Value, x = .agg vs ∧ vs.size = cs.length ∧ (∀ (j : Nat) (x : Value), vs[j]? = some x → x.oneCell' = true) ∧ ∀ (j : Nat) (p : PV) (x : Value), cs[j]? = some p → vs[j]? = some x → Rep w E p x := by
  cases h with
  | c h => cases h
  | ag _ vs hl h1 hr => exact ⟨vs, rfl, hl, h1, hr⟩
theorem Rep.tu_inv {ps : List PV} {x : Value} (h : Rep w E (.tu ps) x) : ∃ vs : Array Value, x = .tuple vs ∧ vs.size = ps.length ∧ ∀ (j : Nat) (p : PV) (x : Value), ps[j]? = some p → vs[j]? = some x → Rep w E p x := by
  cases h with
  | c h => cases h
  | tu _ vs hl hr => exact ⟨vs, rfl, hl, hr⟩
theorem Rep.ms_inv (hk : Ok w0 E w m) {l : Nat} {mb : MB} (hm : m[l]? = some (some mb)) {x : Value} (h : Rep w E (.ms l) x) : ∃ B, E.β l = some B ∧ BlkRep w E mb B ∧ x = .slice (some ⟨B.b, 0, none⟩) B.n B.c := by
  obtain ⟨B, hB, hb⟩ := hk.mem l mb hm
  cases h with
  | c h => cases h
  | ms _ _ _ _ h => exact ⟨B, hB, hb, h B hB⟩
theorem Rep.be_inv (hk : Ok w0 E w m) {l i o : Nat} {mb : MB} (hm : m[l]? = some (some mb)) {x : Value} (h : Rep w E (.be l i o) x) : ∃ B, E.β l = some B ∧ BlkRep w E mb B ∧ x = .pointer (some ⟨B.b, i * B.k + o, none⟩) := by
  obtain ⟨B, hB, hb⟩ := hk.mem l mb hm
  cases h with
  | c h => cases h
  | be _ _ _ _ _ _ h => exact ⟨B, hB, hb, h B hB⟩
theorem lt_of_live (hk : Ok w0 E w m) {l : Nat} {mb : MB} (hm : m[l]? = some (some mb)) : l < E.top := by
  rw [hk.top]; exact (List.getElem?_eq_some_iff.1 hm).1

theorem pcst_rep (x : Value) : Rep w E (pcst x) x := by
  unfold pcst
  split
  · rename_i cs
    split
    · rename_i h
      have hall : ∀ v ∈ cs.toList, v.oneCell' = true := by simp only [allOne, List.all_eq_true] at h; exact h
      refine .ag _ _ (by simp) (fun j x hx => hall x (by simpa using Array.mem_of_getElem? hx)) fun j p x hp hx => ?_
      have e : p = .v x := by simpa [hx, eq_comm] using hp
      subst e
      exact .c (.v x (hall x (by simpa using Array.mem_of_getElem? hx)))
    · exact .un' _
  · exact .un' _
  · rename_i h1 h2
    refine .c (.v x ?_)
    cases x <;> simp_all [Value.oneCell']
theorem evP_rep {t : List PV} {a : Act} (h : RepT w E t a.tmps) (o : Operand) : Rep w E (evP t o) (a.eval o) := by
  cases o with
  | tmp i =>
    simp only [evP, Act.eval]
    rcases Nat.lt_or_ge i t.length with hi | hi
    · have := h.2 i _ (List.getElem?_eq_getElem hi)
      simpa [List.getD, List.getElem?_eq_getElem hi] using this
    · have e : t.getD i .un = .un := by simp [List.getD, List.getElem?_eq_none hi]
      rw [e]; exact .un' _
  | const x => exact pcst_rep x
  | global g => exact .un' _
  | func f => exact .c (.v _ rfl)

/-- A value's cells. -/
def pc : PV → Option (List PV)
  | .ag cs => some cs
  | .v x => some [.v x]
  | .sl es => some [.sl es]
  | .rp cs => some [.rp cs]
  | .ms l => some [.ms l]
  | .be l i o => some [.be l i o]
  | _ => none
theorem cells_one {x : Value} (h : x.oneCell' = true) : x.cells = #[x] := by cases x <;> simp_all [Value.oneCell', Value.cells]
theorem RepC.one {S : Nat → Prop} {p : PV} {x : Value} (h : RepC w S p x) (h1 : p ≠ .ud) (h2 : p ≠ .un) : x.oneCell' = true := by
  cases h <;> first | rfl | assumption | contradiction
theorem pc_rep {p : PV} {x : Value} (h : Rep w E p x) {cs : List PV} (hp : pc p = some cs) : x.cells.size = cs.length ∧ ∀ (j : Nat) (q : PV), cs[j]? = some q → ∃ y, x.cells[j]? = some y ∧ y.oneCell' = true ∧ Rep w E q y := by
  have one : x.oneCell' = true → cs = [p] → x.cells.size = cs.length ∧ ∀ (j : Nat) (q : PV), cs[j]? = some q → ∃ y, x.cells[j]? = some y ∧ y.oneCell' = true ∧ Rep w E q y := by
    intro h1 e
    subst e
    rw [cells_one h1]
    refine ⟨rfl, fun j q hq => ?_⟩
    cases j with
    | zero => obtain rfl : p = q := by simpa using hq
              exact ⟨x, rfl, h1, h⟩
    | succ j => simp at hq
  cases h with
  | c h =>
    cases h with
    | v _ h1 => exact one h1 (by simpa [pc, eq_comm] using hp)
    | ud => simp [pc] at hp
    | un => simp [pc] at hp
    | nil A c => exact one rfl (by simpa [pc, eq_comm] using hp)
    | sl => exact one rfl (by simpa [pc, eq_comm] using hp)
    | rp => exact one rfl (by simpa [pc, eq_comm] using hp)
  | ms l _ hl h1 => exact one h1 (by simpa [pc, eq_comm] using hp)
  | be l i o _ hl h1 => exact one h1 (by simpa [pc, eq_comm] using hp)
  | ag cs' vs hl h1 hr =>
    obtain rfl : cs' = cs := by simpa [pc] using hp
    refine ⟨hl, fun j q hq => ?_⟩
    have hj : j < vs.size := by rw [hl]; exact (List.getElem?_eq_some_iff.1 hq).1
    exact ⟨vs[j], Array.getElem?_eq_getElem hj, h1 j _ (Array.getElem?_eq_getElem hj), hr j q _ hq (Array.getElem?_eq_getElem hj)⟩
  | tu => simp [pc] at hp

/-- The cells that lie behind a pointer. -/
def rdp (m : Mem) : PV → Option (List PV)
  | .be l i o => match m[l]? with
    | some (some mb) => (mb.es[i]?).map (·.drop o)
    | _ => none
  | .rp cs => some cs
  | _ => none
theorem rdp_rep (hk : Ok w0 E w m) {p : PV} {x : Value} (h : Rep w E p x) {cs : List PV} (hp : rdp m p = some cs) :
    ∃ b off, x = .pointer (some ⟨b, off, none⟩) ∧ b < w.heap.size ∧ ∀ (j : Nat) (q : PV), cs[j]? = some q → ∃ y, w.cell? ⟨b, off + j, none⟩ = some y ∧ y.oneCell' = true ∧ Rep w E q y := by
  cases p with
  | be l i o =>
    simp only [rdp] at hp
    split at hp
    · rename_i mb hm
      obtain ⟨B, hB, hb, rfl⟩ := h.be_inv hk hm
      obtain ⟨cs', hcs', rfl⟩ := Option.map_eq_some_iff.1 hp
      refine ⟨B.b, _, rfl, (hk.own l B hB).2.1, fun j q hq => ?_⟩
      obtain ⟨cells, h1, h2, h3⟩ := hb.mem
      rw [List.getElem?_drop] at hq
      obtain ⟨y, a, b, c⟩ := h3 i cs' (o + j) q hcs' hq
      exact ⟨y, by rw [cell_of_row w B.b _ cells B.T (0, 0) h1, Nat.add_assoc]; exact a, b, c⟩
    · cases hp
  | rp cs' =>
    obtain rfl : cs' = cs := by simpa [rdp] using hp
    cases h.rp_inv with
    | rp _ b off u hS hc h1 hr => exact ⟨b, off, rfl, hk.sz b hS, fun j q hq => ⟨u j, hc j q hq, h1 j q hq, .c (hr j q hq)⟩⟩
  | _ => simp [rdp] at hp

def aggd : TypeDesc → Bool
  | .struct _ | .array _ _ => true
  | _ => false
theorem run_isAgg {P : Program} {t : TypeId} {d : TypeDesc} (h : P.underlying t = some d) (w : World) : (isAgg t).run P w = .ok (aggd d) w := by
  unfold isAgg
  rw [Sem.run_bind, run_underlying h w]
  cases d <;> simp [aggd]
theorem info_of {P : Program} {t : TypeId} {d : TypeDesc} (h : P.underlying t = some d) : ∃ i, P.info? t = some i ∧ i.size = P.cellsOf t ∧ i.bytes = P.bytesOf t := by
  unfold Program.underlying at h
  cases hi : P.info? t with
  | none => simp [hi] at h
  | some i => exact ⟨i, rfl, by simp [Program.cellsOf, hi], by simp [Program.bytesOf, hi]⟩
theorem info_of_pos {P : Program} {t : TypeId} (h : 0 < P.cellsOf t) : ∃ i, P.info? t = some i ∧ i.size = P.cellsOf t := by
  unfold Program.cellsOf at *
  cases hi : P.info? t with
  | none => simp [hi] at h
  | some i => exact ⟨i, rfl, by simp⟩
theorem run_sizeOf {P : Program} {t : TypeId} {i : TypeInfo} (h : P.info? t = some i) (w : World) : (sizeOf t).run P w = .ok i.size w := by
  simp [sizeOf, typeInfo, h]

/-- A value of type T out of the first cells. -/
def pLoad (P : Program) (T : TypeId) (cs : Option (List PV)) (K : PV → Prop) : Prop :=
  match P.underlying T, cs with
  | some d, some cs => match aggd d with
    | true => P.cellsOf T ≤ cs.length ∧ K (.ag (cs.take (P.cellsOf T)))
    | false => match cs with
      | c :: _ => K c
      | [] => False
  | _, _ => False
theorem pLoad_mem {P : Program} {T : TypeId} {cs : List PV} {K : PV → Prop} (h : pLoad P T (some cs) K) {b off : Nat} (hb : b < w.heap.size)
    (hc : ∀ (j : Nat) (q : PV), cs[j]? = some q → ∃ y, w.cell? ⟨b, off + j, none⟩ = some y ∧ y.oneCell' = true ∧ Rep w E q y) :
    ∃ p x, K p ∧ (∀ w', Up w w' → (loadVar T ⟨b, off, none⟩).run P w' = .ok x w') ∧ Rep w E p x := by
  unfold pLoad at h
  split at h
  · rename_i d cs' hd hcs
    obtain rfl : cs = cs' := by simpa using hcs
    obtain ⟨i, hi, hs, _⟩ := info_of hd
    split at h
    · rename_i hag
      obtain ⟨hle, hK⟩ := h
      have hex : ∀ j : Fin (P.cellsOf T), ∃ y, w.cell? ⟨b, off + j, none⟩ = some y ∧ y.oneCell' = true ∧ ∀ q, cs[j.1]? = some q → Rep w E q y := by
        intro j
        have hj : j.1 < cs.length := by omega
        obtain ⟨y, h1, h2, h3⟩ := hc j.1 _ (List.getElem?_eq_getElem hj)
        exact ⟨y, h1, h2, fun q hq => by rw [List.getElem?_eq_getElem hj] at hq; cases hq; exact h3⟩
      obtain ⟨f, hf⟩ := Classical.axiomOfChoice hex
      refine ⟨_, .agg (Array.ofFn f), hK, fun w' hu => ?_, ?_⟩
      · have hl : (loadCells ⟨b, off, none⟩ (List.ofFn f).length).run P w' = .ok (List.ofFn f).toArray w' := run_loadCells_list (P := P) w' _ (List.ofFn f) fun j v hv => by
          have hj : j < P.cellsOf T := by have := (List.getElem?_eq_some_iff.1 hv).1; simpa using this
          have e : (⟨b, off, none⟩ : Addr).add j = ⟨b, off + j, none⟩ := by unfold Addr.add; split <;> simp_all
          rw [e, hu.cell (p := ⟨b, off + j, none⟩) hb, (hf ⟨j, hj⟩).1]
          simpa [hj] using hv
        simp only [List.length_ofFn] at hl
        have e2 : (List.ofFn f).toArray = Array.ofFn f := by simp
        rw [e2] at hl
        simp [loadVar, run_isAgg hd, hag, run_sizeOf hi, hs, hl]
      · refine .ag _ _ (by simp; omega) (fun j x hx => ?_) fun j p x hp hx => ?_
        · have hj : j < P.cellsOf T := by have := (Array.getElem?_eq_some_iff.1 hx).1; simpa using this
          have : f ⟨j, hj⟩ = x := by simpa [hj] using hx
          rw [← this]; exact (hf ⟨j, hj⟩).2.1
        · have hj : j < P.cellsOf T := by have := (Array.getElem?_eq_some_iff.1 hx).1; simpa using this
          have : f ⟨j, hj⟩ = x := by simpa [hj] using hx
          rw [← this]
          rw [List.getElem?_take_of_lt hj] at hp
          exact (hf ⟨j, hj⟩).2.2 p hp
    · rename_i hag
      split at h
      · rename_i c cs'
        obtain ⟨y, h1, h2, h3⟩ := hc 0 c rfl
        refine ⟨c, y, h, fun w' hu => ?_, h3⟩
        have h1' : w'.cell? ⟨b, off, none⟩ = some y := (hu.cell (p := ⟨b, off, none⟩) hb).trans h1
        simp [loadVar, run_isAgg hd, hag, h1']
      · exact h.elim
  · exact h.elim
theorem pLoad_part {P : Program} {T : TypeId} {cs : List PV} {K : PV → Prop} {off : Nat} (h : pLoad P T (some (cs.drop off)) K) {vs : Array Value} (hl : vs.size = cs.length)
    (h1 : ∀ (j : Nat) (x : Value), vs[j]? = some x → x.oneCell' = true) (hr : ∀ (j : Nat) (p : PV) (x : Value), cs[j]? = some p → vs[j]? = some x → Rep w E p x) :
    ∃ p x, K p ∧ (∀ w', (part T vs off).run P w' = .ok x w') ∧ Rep w E p x := by
  unfold pLoad at h
  split at h
  · rename_i d cs' hd hcs
    obtain rfl : cs.drop off = cs' := by simpa using hcs
    obtain ⟨i, hi, hs, _⟩ := info_of hd
    split at h
    · rename_i hag
      obtain ⟨hle, hK⟩ := h
      rw [List.length_drop] at hle
      refine ⟨_, .agg (vs.extract off (off + P.cellsOf T)), hK, fun w' => ?_, ?_⟩
      · simp [part, run_isAgg hd, hag, run_sizeOf hi, hs]
      · refine .ag _ _ (by simp; omega) (fun j x hx => ?_) fun j p x hp hx => ?_
        · rw [Array.getElem?_extract] at hx
          split at hx
          · exact h1 _ _ hx
          · cases hx
        · rw [Array.getElem?_extract] at hx
          split at hx
          · rename_i hj
            rw [List.getElem?_take_of_lt (by omega), List.getElem?_drop] at hp
            exact hr _ p x hp hx
          · cases hx
    · rename_i hag
      split at h
      · rename_i c cs' hcs'
        have hc : cs[off]? = some c := by
          have : (cs.drop off)[0]? = some c := by rw [hcs']; rfl
          simpa using this
        have ho : off < vs.size := by rw [hl]; exact (List.getElem?_eq_some_iff.1 hc).1
        refine ⟨c, vs[off], h, fun w' => ?_, hr off c _ hc (Array.getElem?_eq_getElem ho)⟩
        simp [part, run_isAgg hd, hag, Array.getElem?_eq_getElem ho]
      · exact h.elim
  · exact h.elim
end
end Go.Proofs.Ytooikkfldddjfaa
