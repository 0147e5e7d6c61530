/- The layer of plain values: operations that make or change memory. No program in sight. -/
import Derived.Test.YtooikkfldddjfaaPl5
namespace Go.Proofs.Ytooikkfldddjfaa
set_option maxRecDepth 10000
open Go.RowKit
section
variable {w : World} {E : Env} {w0 : World} {m : Mem} {P : Program}

/-- What a run gives: the value represents p, the own memory is m'. -/
def GivesV (P : Program) (w0 : World) (E : Env) (w : World) (s : Sem Value) (p : PV) (m' : Mem) : Prop :=
  ∃ x w' E', s.run P w = .ok x w' ∧ Ok w0 E' w' m' ∧ Ext w w' E E' ∧ Rep w' E' p x

theorem cells_of_one {cs : List PV} {a : Array Value} (h : CellsRep w E cs a) (T : TypeId) : ∀ (i : Nat) (ds : List PV) (j : Nat) (p : PV), (MB.mk T cs.length [cs]).es[i]? = some ds → ds[j]? = some p →
    ∃ x, a[i * cs.length + j]? = some x ∧ x.oneCell' = true ∧ Rep w E p x := by
  intro i ds j p hi hj
  cases i with
  | zero =>
    obtain rfl : cs = ds := by simpa using hi
    simpa using h.2 j p hj
  | succ i => simp at hi

theorem gives_row (hk : Ok w0 E w m) {mb : MB} {c : Nat} {a : Array Value} (hpos : 0 < mb.k) (hn : mb.es.length ≤ c) (hc : c ≤ maxLen) (hes : ∀ (i : Nat) (cs : List PV), mb.es[i]? = some cs → cs.length = mb.k) (hs : a.size = c * mb.k)
    (hr : ∀ (i : Nat) (cs : List PV) (j : Nat) (p : PV), mb.es[i]? = some cs → cs[j]? = some p → ∃ x, a[i * mb.k + j]? = some x ∧ x.oneCell' = true ∧ Rep w E p x) :
    ∃ E', Ok w0 E' (w.alloc (.cells a mb.T (0, 0))) (m ++ [some mb]) ∧ Ext w (w.alloc (.cells a mb.T (0, 0))) E E' ∧
      Rep (w.alloc (.cells a mb.T (0, 0))) E' (.ms m.length) (.slice (some ⟨w.heap.size, 0, none⟩) mb.es.length c) ∧
      Rep (w.alloc (.cells a mb.T (0, 0))) E' (.be m.length 0 0) (.pointer (some ⟨w.heap.size, 0, none⟩)) := by
  obtain ⟨h1, h2⟩ := hk.alloc mb c a hpos hn hc hes hs hr
  refine ⟨_, h1, h2, .ms _ _ (by simp [Env.add]) rfl fun B hB => ?_, .be _ _ _ _ (by simp [Env.add]) rfl fun B hB => ?_⟩
  · have e : B = ⟨w.heap.size, c, mb.es.length, mb.k, mb.T⟩ := by simpa [Env.add, eq_comm] using hB
    subst e; rfl
  · have e : B = ⟨w.heap.size, c, mb.es.length, mb.k, mb.T⟩ := by simpa [Env.add, eq_comm] using hB
    subst e; simp

def pBox (m : Mem) (T : TypeId) (cs : Option (List PV)) (K : PV → Mem → Prop) : Prop :=
  match cs with
  | some (c :: cs) => K (.be m.length 0 0) (m ++ [some ⟨T, (c :: cs).length, [c :: cs]⟩])
  | _ => False
theorem pBox_cells (hk : Ok w0 E w m) {T : TypeId} {cs : List PV} {x : Value} (hc : CellsRep w E cs x.cells) {K : PV → Mem → Prop} (h : pBox m T (some cs) K) : ∃ p m', K p m' ∧ GivesV P w0 E w (do pure (.pointer (some (← newVar T x)))) p m' := by
  unfold pBox at h
  split at h
  · rename_i c cs' e
    obtain rfl : cs = c :: cs' := by simpa using e
    obtain ⟨E', h1, h2, _, h4⟩ := gives_row (mb := ⟨T, (c :: cs').length, [c :: cs']⟩) (c := 1) hk (by simp) (by simp) (by unfold maxLen; omega) (fun i ds hi => by
      cases i with
      | zero => obtain rfl : (c :: cs') = ds := by simpa using hi
                rfl
      | succ i => simp at hi) (by rw [hc.1]; simp) (cells_of_one hc T)
    exact ⟨_, _, h, .pointer (some ⟨w.heap.size, 0, none⟩), _, E', by simp [newVar, newRow], h1, h2, h4⟩
  · exact h.elim
theorem pBox_sound (hk : Ok w0 E w m) {T : TypeId} {p : PV} {x : Value} (hx : Rep w E p x) {K : PV → Mem → Prop} (h : pBox m T (pc p) K) : ∃ p m', K p m' ∧ GivesV P w0 E w (Instr.box T x) p m' := by
  cases hp : pc p with
  | none => rw [hp] at h; exact h.elim
  | some cs => rw [hp] at h; exact pBox_cells hk (pc_rep hx hp) h
theorem pAlloc_sound (hk : Ok w0 E w m) {T : TypeId} {K : PV → Mem → Prop} (h : pBox m T (pz P T) K) : ∃ p m', K p m' ∧ GivesV P w0 E w (Instr.alloc T true (.tuple #[])) p m' := by
  cases hp : pz P T with
  | none => rw [hp] at h; exact h.elim
  | some cs =>
    rw [hp] at h
    obtain ⟨i, z, hi, hz, hc⟩ := pz_rep (w := w) (E := E) hp
    obtain ⟨p, m', hK, x, w', E', hrun, r⟩ := pBox_cells (P := P) hk hc h
    refine ⟨p, m', hK, x, w', E', ?_, r⟩
    simp only [Instr.alloc, Sem.run_bind, run_zero hi hz, Result.andThen_ok]
    exact hrun

def zflat (zc : List PV) : Nat → List PV
  | 0 => []
  | n + 1 => zc ++ zflat zc n
def chunk (k : Nat) : Nat → List PV → List (List PV)
  | 0, _ => []
  | n + 1, cs => cs.take k :: chunk k n (cs.drop k)
theorem zflat_length (zc : List PV) (n : Nat) : (zflat zc n).length = n * zc.length := by
  induction n with
  | zero => simp [zflat]
  | succ n ih => simp only [zflat, List.length_append, ih, Nat.succ_mul]; omega
theorem zflat_get {zc : List PV} {n j : Nat} {p : PV} (h : (zflat zc n)[j]? = some p) : zc[j % zc.length]? = some p := by
  induction n generalizing j with
  | zero => simp [zflat] at h
  | succ n ih =>
    simp only [zflat] at h
    rcases Nat.lt_or_ge j zc.length with hj | hj
    · rw [List.getElem?_append_left hj] at h
      rwa [Nat.mod_eq_of_lt hj]
    · rw [List.getElem?_append_right hj] at h
      have := ih h
      rwa [Nat.mod_eq_sub_mod hj]
theorem chunk_length (k n : Nat) (cs : List PV) : (chunk k n cs).length = n := by
  induction n generalizing cs with
  | zero => rfl
  | succ n ih => simp [chunk, ih]
theorem chunk_get {k n i : Nat} {cs ds : List PV} (h : (chunk k n cs)[i]? = some ds) : ds = (cs.drop (i * k)).take k := by
  induction n generalizing cs i with
  | zero => simp [chunk] at h
  | succ n ih =>
    cases i with
    | zero => simpa [chunk, eq_comm] using h
    | succ i =>
      have := ih (i := i) (by simpa [chunk] using h)
      rw [this, List.drop_drop, Nat.succ_mul, Nat.add_comm]
theorem chunk_rep {k n : Nat} {cs : List PV} {a : Array Value} (hk : 0 < k) (h : CellsRep w E cs a) (hl : cs.length = n * k) : (∀ (i : Nat) (ds : List PV), (chunk k n cs)[i]? = some ds → ds.length = k) ∧
    ∀ (i : Nat) (ds : List PV) (j : Nat) (p : PV), (chunk k n cs)[i]? = some ds → ds[j]? = some p → ∃ x, a[i * k + j]? = some x ∧ x.oneCell' = true ∧ Rep w E p x := by
  have hlt : ∀ {i : Nat} {ds : List PV}, (chunk k n cs)[i]? = some ds → i < n := fun hi => by
    have := (List.getElem?_eq_some_iff.1 hi).1
    rwa [chunk_length] at this
  refine ⟨fun i ds hi => ?_, fun i ds j p hi hj => ?_⟩
  · have hin := hlt hi
    rw [chunk_get hi, List.length_take, List.length_drop, hl]
    have : (i + 1) * k ≤ n * k := Nat.mul_le_mul_right k hin
    rw [Nat.succ_mul] at this
    omega
  · rw [chunk_get hi, List.getElem?_take] at hj
    split at hj
    · rw [List.getElem?_drop] at hj
      exact h.2 _ p hj
    · cases hj

def pBuildSlice (P : Program) (m : Mem) (T : TypeId) (n : Nat) (ps : List (Nat × PV)) (K : PV → Mem → Prop) : Prop :=
  match P.underlying T with
  | some (.slice e) => match pz P e with
    | some zc => 0 < P.cellsOf e ∧ zc.length = P.cellsOf e ∧ n * P.cellsOf e ≤ 16777216 ∧ match fillP (fun i => some (i * P.cellsOf e, P.cellsOf e)) (zflat zc n) ps with
      | some cs => K (.ms m.length) (m ++ [some ⟨e, P.cellsOf e, chunk (P.cellsOf e) n cs⟩])
      | none => False
    | none => False
  | _ => False
theorem fillP_length {place : Nat → Option (Nat × Nat)} : ∀ (ps : List (Nat × PV)) (cs cs' : List PV), fillP place cs ps = some cs' → cs'.length = cs.length
  | [], cs, cs', h => by simp only [fillP, Option.some.injEq] at h; rw [h]
  | (i, p) :: ps, cs, cs', h => by
    simp only [fillP] at h
    split at h
    · simp only [Option.ite_none_right_eq_some] at h
      rw [fillP_length ps _ _ h.2, setR_length h.1.2]
    · cases h
theorem pBuildSlice_sound (hk : Ok w0 E w m) {T : TypeId} {n : Nat} {ps : List (Nat × PV)} {vs : Array (Nat × Value)} (hl : ps.length = vs.size)
    (hr : ∀ (j i : Nat) (p : PV), ps[j]? = some (i, p) → ∃ x, vs[j]? = some (i, x) ∧ Rep w E p x) {K : PV → Mem → Prop} (h : pBuildSlice P m T n ps K) : ∃ p m', K p m' ∧ GivesV P w0 E w (Instr.buildSlice T n vs) p m' := by
  unfold pBuildSlice at h
  split at h
  · rename_i e hu
    split at h
    · rename_i zc hz
      obtain ⟨hpos, hzl, hbig, h⟩ := h
      split at h
      · rename_i cs hf
        obtain ⟨i, z, hi, hz', hc⟩ := pz_rep (w := w) (E := E) hz
        have his : i.size = P.cellsOf e := by simp [Program.cellsOf, hi]
        have h0 : CellsRep w E (zflat zc n) ((Array.range (n * i.size)).map (z.cells[· % z.cells.size]!)) := by
          refine ⟨by rw [zflat_length, hzl, his]; simp, fun j p hj => ?_⟩
          have hjl := (List.getElem?_eq_some_iff.1 hj).1
          rw [zflat_length, hzl] at hjl
          obtain ⟨x, x1, x2, x3⟩ := hc.2 _ p (zflat_get hj)
          refine ⟨x, ?_, x2, x3⟩
          rw [← hc.1] at x1
          have hlt := (Array.getElem?_eq_some_iff.1 x1).1
          rw [Array.getElem?_map, Array.getElem?_range, if_pos (by rw [his]; exact hjl)]
          simp only [Option.map_some, Option.some.injEq]
          rw [getElem!_pos z.cells _ hlt]
          exact (Array.getElem?_eq_some_iff.1 x1).2
        obtain ⟨a', e1, e2⟩ := fill_rep ps vs.toList _ cs _ h0 hf (by simpa using hl) fun j i p hj => by simpa using hr j i p hj
        have hcl : cs.length = n * P.cellsOf e := by rw [fillP_length _ _ _ hf, zflat_length, hzl]
        obtain ⟨r1, r2⟩ := chunk_rep hpos e2 hcl
        obtain ⟨E', h1, h2, h3, _⟩ := gives_row (mb := ⟨e, P.cellsOf e, chunk (P.cellsOf e) n cs⟩) (c := n) hk hpos (by simp [chunk_length]) (by
            unfold maxLen
            have : n * 1 ≤ n * P.cellsOf e := Nat.mul_le_mul_left n hpos
            omega) r1 (by rw [e2.1, hcl]) r2
        simp only [chunk_length] at h3
        refine ⟨_, _, h, _, _, E', ?_, h1, h2, h3⟩
        have e3 : Instr.fill (fun j => some (j * i.size, i.size)) ((Array.range (n * i.size)).map (z.cells[· % z.cells.size]!)) vs.toList = some a' := by rw [← e1, his]
        have hnb : ¬ n * i.size > 2 ^ 24 := by rw [his]; omega
        by_cases hn0 : n * i.size = 0
        · have e4 : (Array.range (n * i.size)).map (z.cells[· % z.cells.size]!) = (Array.range (n * i.size)).map ((#[] : Array Value)[· % (#[] : Array Value).size]!) := by
            rw [hn0]; simp
          rw [e4] at e3
          simp only [Instr.buildSlice, Sem.run_bind, run_underlying hu, Result.andThen_ok, run_sizeOf hi, hnb, if_false, Sem.run_ite, hn0, if_true, Sem.run_pure]
          rw [hn0] at e3
          simp only [e3]
          simp [newRow]
        · simp only [Instr.buildSlice, Sem.run_bind, run_underlying hu, Result.andThen_ok, run_sizeOf hi, hnb, if_false, Sem.run_ite, hn0, Sem.run_pure, run_zero hi hz', e3]
          simp [newRow]
      · exact h.elim
    · exact h.elim
  · exact h.elim
end
end Go.Proofs.Ytooikkfldddjfaa
