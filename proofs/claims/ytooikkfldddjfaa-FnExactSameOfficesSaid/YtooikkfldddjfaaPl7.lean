/- The layer of plain values: made slices, stores, appends. No program in sight. -/
import Derived.Test.YtooikkfldddjfaaPl6
namespace Go.Proofs.Ytooikkfldddjfaa
set_option maxRecDepth 10000
open Go.RowKit
section
variable {w : World} {E : Env} {w0 : World} {m : Mem} {P : Program}

def pMake (P : Program) (m : Mem) (T : TypeId) (l c : PV) (K : PV → Mem → Prop) : Prop :=
  match P.underlying T, l, c with
  | some (.slice e), .v (.int .i64 n), .v (.int .i64 n') => match pz P e with
    | some zc => n = n' ∧ 0 ≤ n ∧ 0 < P.cellsOf e ∧ zc.length = P.cellsOf e ∧ n ≤ 1099511627776 ∧ P.bytesOf e * n ≤ 140737488355328 ∧ K (.ms m.length) (m ++ [some ⟨e, P.cellsOf e, List.replicate n.toNat zc⟩])
    | none => False
  | _, _, _ => False
theorem pMake_sound (hk : Ok w0 E w m) {T : TypeId} {p q : PV} {x y : Value} (hx : Rep w E p x) (hy : Rep w E q y) {K : PV → Mem → Prop} (h : pMake P m T p q K) : ∃ p m', K p m' ∧ GivesV P w0 E w (Instr.makeSlice T x y) p m' := by
  unfold pMake at h
  split at h
  · rename_i e n n' hu
    obtain ⟨rfl, _⟩ := hx.v_inv
    obtain ⟨rfl, _⟩ := hy.v_inv
    split at h
    · rename_i zc hz
      obtain ⟨rfl, h0, hpos, hzl, hbig, hbytes, hK⟩ := h
      obtain ⟨i, z, hi, hz', hc⟩ := pz_rep (w := w) (E := E) hz
      have his : i.size = P.cellsOf e := by simp [Program.cellsOf, hi]
      have hib : i.bytes = P.bytesOf e := by simp [Program.bytesOf, hi]
      obtain ⟨k, rfl⟩ : ∃ k : Nat, n = (k : Int) := ⟨n.toNat, by omega⟩
      have hkb : i.bytes * k ≤ 281474976710656 := by
        rw [hib]
        have : ((P.bytesOf e * k : Nat) : Int) ≤ 140737488355328 := by rw [Int.natCast_mul]; exact hbytes
        omega
      have hrun := run_mk T e i z hu hi hz' k hkb (by omega) w
      have hget : ∀ (i : Nat) (cs : List PV), (List.replicate k zc)[i]? = some cs → i < k ∧ cs = zc := by
        intro i cs hi
        have hlt := (List.getElem?_eq_some_iff.1 hi).1
        rw [List.length_replicate] at hlt
        rw [List.getElem?_replicate, if_pos hlt] at hi
        exact ⟨hlt, by simpa [eq_comm] using hi⟩
      obtain ⟨E', h1, h2, h3, _⟩ := gives_row (mb := ⟨e, P.cellsOf e, List.replicate k zc⟩) (c := k) (a := madeCells z.cells (k * i.size)) hk hpos (by simp) (by unfold maxLen; omega)
        (fun i cs hi => by rw [(hget i cs hi).2]; exact hzl) (by rw [his]; simp [madeCells]) (fun i' cs j p hi' hj => by
          obtain ⟨hlt, rfl⟩ := hget i' cs hi'
          obtain ⟨x, x1, x2, x3⟩ := hc.2 j p hj
          refine ⟨x, ?_, x2, x3⟩
          have hjl : j < P.cellsOf e := by rw [← hzl]; exact (List.getElem?_eq_some_iff.1 hj).1
          have hzs : z.cells.size = P.cellsOf e := by rw [hc.1, hzl]
          have hin : i' * P.cellsOf e + j < k * i.size := by
            rw [his]
            have : (i' + 1) * P.cellsOf e ≤ k * P.cellsOf e := Nat.mul_le_mul_right _ hlt
            rw [Nat.succ_mul] at this
            omega
          have hmod : (i' * P.cellsOf e + j) % z.cells.size = j := by rw [hzs, Nat.add_comm, Nat.add_mul_mod_self_right, Nat.mod_eq_of_lt hjl]
          simp only [madeCells]
          rw [Array.getElem?_map, Array.getElem?_range, if_pos hin]
          simp only [Option.map_some, Option.some.injEq, hmod]
          have hlt' := (Array.getElem?_eq_some_iff.1 x1).1
          rw [getElem!_pos z.cells _ hlt']
          exact (Array.getElem?_eq_some_iff.1 x1).2)
      simp only [List.length_replicate] at h3
      have hK' : K (.ms m.length) (m ++ [some ⟨e, P.cellsOf e, List.replicate k zc⟩]) := by simpa using hK
      exact ⟨_, _, hK', _, _, E', hrun, h1, h2, h3⟩
    · exact h.elim
  · exact h.elim

def pStore (P : Program) (m : Mem) (T : TypeId) (a x : PV) (K : PV → Mem → Prop) : Prop :=
  match a, pc x with
  | .be l i o, some qs => live m l fun mb => match mb.es[i]? with
    | some cs => 0 < qs.length ∧ qs.length = P.cellsOf T ∧ o + qs.length ≤ cs.length ∧ K .ud (m.set l (some ⟨mb.T, mb.k, mb.es.set i (setR cs o qs)⟩))
    | none => False
  | _, _ => False
theorem seg_get (l vs : List Value) (O : Nat) (h : O + vs.length ≤ l.length) (j : Nat) : (l.take O ++ vs ++ l.drop (O + vs.length))[j]? = if O ≤ j ∧ j < O + vs.length then vs[j - O]? else l[j]? := by
  have hl : (l.take O).length = O := by rw [List.length_take]; omega
  rw [List.append_assoc]
  rcases Nat.lt_or_ge j O with h1 | h1
  · rw [List.getElem?_append_left (by omega), List.getElem?_take_of_lt h1, if_neg (by omega)]
  · rw [List.getElem?_append_right (by omega), hl]
    rcases Nat.lt_or_ge j (O + vs.length) with h2 | h2
    · rw [List.getElem?_append_left (by omega), if_pos ⟨h1, h2⟩]
    · rw [List.getElem?_append_right (by omega), List.getElem?_drop, if_neg (by omega)]
      congr 1; omega
theorem pStore_sound (hk : Ok w0 E w m) {T : TypeId} {p q : PV} {x y : Value} (hx : Rep w E p x) (hy : Rep w E q y) {K : PV → Mem → Prop} (h : pStore P m T p q K) :
    ∃ m', K .ud m' ∧ ∃ w', (Instr.storeAt T x y).run P w = .ok () w' ∧ Ok w0 E w' m' ∧ Ext w w' E E := by
  unfold pStore at h
  split at h
  · rename_i l i o qs hq
    obtain ⟨mb, hm, h⟩ := live_iff h
    split at h
    · rename_i cs hcs
      obtain ⟨hpos, hT, hle, hK⟩ := h
      obtain ⟨B, hB, hb, rfl⟩ := hx.be_inv hk hm
      obtain ⟨c1, c2⟩ := pc_rep hy hq
      obtain ⟨ti, hti, hts⟩ := info_of_pos (P := P) (t := T) (by omega)
      obtain ⟨cells, m1, m2, m3⟩ := hb.mem
      have hcl := hb.es i cs hcs
      have hin : i < B.n := by rw [hb.n]; exact (List.getElem?_eq_some_iff.1 hcs).1
      have hfit : i * B.k + B.k ≤ B.c * B.k := by
        have : (i + 1) * B.k ≤ B.c * B.k := Nat.mul_le_mul_right _ (Nat.le_trans hin hb.nc)
        rwa [Nat.succ_mul] at this
      have hone : ∀ v ∈ y.cells.toList, v.oneCell' = true := by
        intro v hv
        obtain ⟨j, hj⟩ := List.getElem?_of_mem hv
        have hjl : j < qs.length := by
          have := (List.getElem?_eq_some_iff.1 hj).1
          rw [Array.length_toList, c1] at this
          exact this
        obtain ⟨z, z1, z2, _⟩ := c2 j _ (List.getElem?_eq_getElem hjl)
        rw [Array.getElem?_toList, z1] at hj
        cases hj
        exact z2
      have hst := run_storeCells_at P B.b (i * B.k + o) B.T y.cells.toList 0 cells w m1 (by rw [Array.length_toList, c1, m2]; omega) hone
      refine ⟨_, hK, w.setRow B.b (cells.toList.take (i * B.k + o + 0) ++ y.cells.toList ++ cells.toList.drop (i * B.k + o + 0 + y.cells.toList.length)).toArray, ?_, ?_⟩
      · have hsz : ¬ y.cells.size ≠ ti.size := by rw [c1, hT, hts]; simp
        simp only [Instr.storeAt, Instr.sureAddr, storeVar, Sem.run_bind, Sem.run_pure, Result.andThen_ok, run_sizeOf hti, hsz, if_false]
        exact hst
      · refine hk.put hB _ rfl rfl rfl (by simp [World.setRow]) (fun b hne => setRow_other w B.b b _ hne) fun hx' => ?_
        · have hll : (setR cs o qs).length = cs.length := setR_length hle
          refine ⟨hb.k, by rw [hb.n]; simp, hb.T, hb.pos, hb.nc, hb.cm, fun i' cs' hi' => ?_, _, setRow_heap w B.b cells _ B.T _ m1, ?_, fun i' cs' j pp hi' hj => ?_⟩
          · simp only at hi'
            by_cases e : i' = i
            · subst e
              rw [List.getElem?_set_self (List.getElem?_eq_some_iff.1 hcs).1] at hi'
              simp only [Option.some.injEq] at hi'
              rw [← hi', hll]; exact hcl
            · rw [List.getElem?_set_ne (Ne.symm e)] at hi'
              exact hb.es i' cs' hi'
          · have h1 : y.cells.toList.length = qs.length := by rw [Array.length_toList, c1]
            simp only [List.size_toArray, List.length_append, List.length_take, List.length_drop, Array.length_toList, m2]
            rw [← c1] at hle
            omega
          · simp only at hi'
            have h1 : y.cells.toList.length = qs.length := by rw [Array.length_toList, c1]
            have hsg := fun t => seg_get cells.toList y.cells.toList (i * B.k + o + 0) (by simp only [Array.length_toList, c1, m2]; omega) t
            by_cases e : i' = i
            · subst e
              rw [List.getElem?_set_self (List.getElem?_eq_some_iff.1 hcs).1] at hi'
              simp only [Option.some.injEq] at hi'
              subst hi'
              rw [setR_get hle] at hj
              by_cases c : o ≤ j ∧ j < o + qs.length
              · rw [if_pos c] at hj
                obtain ⟨z, z1, z2, z3⟩ := c2 _ pp hj
                refine ⟨z, ?_, z2, z3.ext hx'⟩
                rw [List.getElem?_toArray, hsg, if_pos (by rw [h1]; omega)]
                rw [Array.getElem?_toList, ← z1]
                congr 1; omega
              · rw [if_neg c] at hj
                obtain ⟨z, z1, z2, z3⟩ := m3 i' cs j pp hcs hj
                refine ⟨z, ?_, z2, z3.ext hx'⟩
                rw [List.getElem?_toArray, hsg, if_neg (by rw [h1]; omega), Array.getElem?_toList]
                exact z1
            · rw [List.getElem?_set_ne (Ne.symm e)] at hi'
              obtain ⟨z, z1, z2, z3⟩ := m3 i' cs' j pp hi' hj
              refine ⟨z, ?_, z2, z3.ext hx'⟩
              have hjl : j < B.k := by rw [← hb.es i' cs' hi']; exact (List.getElem?_eq_some_iff.1 hj).1
              rw [List.getElem?_toArray, hsg, if_neg ?_, Array.getElem?_toList]
              · exact z1
              · rw [h1]
                intro ⟨g1, g2⟩
                rcases Nat.lt_or_gt_of_ne e with hlt | hgt
                · have : (i' + 1) * B.k ≤ i * B.k := Nat.mul_le_mul_right _ hlt
                  rw [Nat.succ_mul] at this
                  omega
                · have : (i + 1) * B.k ≤ i' * B.k := Nat.mul_le_mul_right _ hgt
                  rw [Nat.succ_mul] at this
                  omega
    · exact h.elim
  · exact h.elim
end
end Go.Proofs.Ytooikkfldddjfaa
