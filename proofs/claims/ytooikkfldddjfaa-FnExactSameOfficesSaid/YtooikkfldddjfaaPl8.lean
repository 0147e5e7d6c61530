/- The layer of plain values: append. No program in sight. -/
import Derived.Test.YtooikkfldddjfaaPl7
import Derived.Laws.AppendOwnNone
namespace Go.Proofs.Ytooikkfldddjfaa
set_option maxRecDepth 10000
open Go.RowKit
section
variable {w : World} {E : Env} {w0 : World} {m : Mem} {P : Program}

def srcOf (m : Mem) : PV → Option (List (List PV))
  | .sl es => some es
  | .v (.slice none 0 _) => some []
  | .ms l => match m[l]? with
    | some (some mb) => some mb.es
    | _ => none
  | _ => none
theorem div_mod_of {i j k : Nat} (h : j < k) : (i * k + j) / k = i ∧ (i * k + j) % k = j := by
  have hk : 0 < k := by omega
  refine ⟨?_, ?_⟩
  · rw [Nat.add_comm, Nat.add_mul_div_right _ _ hk, Nat.div_eq_of_lt h, Nat.zero_add]
  · rw [Nat.add_comm, Nat.add_mul_mod_self_right, Nat.mod_eq_of_lt h]
theorem src_rep (hk : Ok w0 E w m) {p : PV} {y : Value} (hy : Rep w E p y) {es : List (List PV)} (hs : srcOf m p = some es) {k : Nat} (hk0 : 0 < k) (hlen : ∀ (i : Nat) (cs : List PV), es[i]? = some cs → cs.length = k) :
    (∃ c, y = .slice none 0 c ∧ es = []) ∨ ∃ (a : Addr) (c : Nat) (news : List Value), y = .slice (some a) es.length c ∧ news.length = es.length * k ∧ (∀ j u, news[j]? = some u → w.cell? (a.add j) = some u) ∧ (∀ u ∈ news, u.oneCell' = true) ∧
      ∀ (i : Nat) (cs : List PV) (j : Nat) (p : PV), es[i]? = some cs → cs[j]? = some p → ∃ u, news[i * k + j]? = some u ∧ Rep w E p u := by
  unfold srcOf at hs
  split at hs
  · rename_i es'
    obtain rfl : es' = es := by simpa using hs
    cases hy.sl_inv with
    | nil A c =>
      cases A with
      | none => exact .inl ⟨c, rfl, rfl⟩
      | some a => exact .inr ⟨a, c, [], rfl, by simp, by simp, by simp, by simp⟩
    | sl _ b off k' c u hS hkp hn hm hes hc h1 hr =>
      refine .inr ⟨⟨b, off, none⟩, c, (List.range (es'.length * k)).map fun t => u (t / k) (t % k), rfl, by simp, fun j v hj => ?_, fun v hv => ?_, fun i cs j p hi hj => ?_⟩
      · have hjl : j < es'.length * k := by have := (List.getElem?_eq_some_iff.1 hj).1; simpa using this
        rw [List.getElem?_map, List.getElem?_range hjl] at hj
        simp only [Option.map_some, Option.some.injEq] at hj
        have hq : j / k < es'.length := by rw [Nat.div_lt_iff_lt_mul hk0]; exact hjl
        have hr' := Nat.mod_lt j hk0
        have e1 := List.getElem?_eq_getElem hq
        have e0 : k' = k := (hes _ _ e1).symm.trans (hlen _ _ e1)
        have e2 : (es'[j / k])[j % k]? = some ((es'[j / k])[j % k]'(by rw [hlen _ _ e1]; exact hr')) := List.getElem?_eq_getElem _
        have := hc _ _ _ _ e1 e2
        rw [e0] at this
        have e3 : j / k * k + j % k = j := by rw [Nat.mul_comm]; exact Nat.div_add_mod j k
        have ea : (⟨b, off, none⟩ : Addr).add j = ⟨b, off + j, none⟩ := by unfold Addr.add; split <;> simp_all
        rw [ea, ← hj, ← this]
        congr 2
        omega
      · obtain ⟨t, ht, rfl⟩ := List.mem_map.1 hv
        have hjl : t < es'.length * k := by simpa using ht
        have hq : t / k < es'.length := by rw [Nat.div_lt_iff_lt_mul hk0]; exact hjl
        have hr' := Nat.mod_lt t hk0
        have e1 := List.getElem?_eq_getElem hq
        have e2 : (es'[t / k])[t % k]? = some ((es'[t / k])[t % k]'(by rw [hlen _ _ e1]; exact hr')) := List.getElem?_eq_getElem _
        exact h1 _ _ _ _ e1 e2
      · have hjl : j < k := by rw [← hlen i cs hi]; exact (List.getElem?_eq_some_iff.1 hj).1
        have hil : i < es'.length := (List.getElem?_eq_some_iff.1 hi).1
        obtain ⟨d1, d2⟩ := div_mod_of (i := i) hjl
        have hlt : i * k + j < es'.length * k := by
          have : (i + 1) * k ≤ es'.length * k := Nat.mul_le_mul_right _ hil
          rw [Nat.succ_mul] at this
          omega
        refine ⟨u i j, ?_, .c (hr i cs j p hi hj)⟩
        rw [List.getElem?_map, List.getElem?_range hlt]
        simp [d1, d2]
  · obtain rfl : es = [] := by simpa [eq_comm] using hs
    obtain ⟨rfl, _⟩ := hy.v_inv
    exact .inl ⟨_, rfl, rfl⟩
  · split at hs
    · rename_i l mb hm
      obtain rfl : mb.es = es := by simpa using hs
      obtain ⟨B, hB, hb, rfl⟩ := hy.ms_inv hk hm
      obtain ⟨cells, m1, m2, m3⟩ := hb.mem
      rcases Nat.eq_zero_or_pos mb.es.length with h0 | h0
      · have e0 : mb.es = [] := List.length_eq_zero_iff.1 h0
        refine .inr ⟨⟨B.b, 0, none⟩, B.c, [], by rw [hb.n], by simp [e0], by simp, by simp, by simp [e0]⟩
      · have e0 : B.k = k := (hb.es 0 _ (List.getElem?_eq_getElem h0)).symm.trans (hlen 0 _ (List.getElem?_eq_getElem h0))
        rw [e0] at m2 m3
        have hnc : mb.es.length * k ≤ B.c * k := Nat.mul_le_mul_right _ (by rw [← hb.n]; exact hb.nc)
        have hlt : ∀ t, t < mb.es.length * k → ∃ x, cells[t]? = some x ∧ x.oneCell' = true := by
          intro t ht
          have hq : t / k < mb.es.length := by rw [Nat.div_lt_iff_lt_mul hk0]; exact ht
          have hr' := Nat.mod_lt t hk0
          have e1 := List.getElem?_eq_getElem hq
          have e2 : (mb.es[t / k])[t % k]? = some ((mb.es[t / k])[t % k]'(by rw [hlen _ _ e1]; exact hr')) := List.getElem?_eq_getElem _
          obtain ⟨x, x1, x2, _⟩ := m3 _ _ _ _ e1 e2
          have e3 : t / k * k + t % k = t := by rw [Nat.mul_comm]; exact Nat.div_add_mod t k
          rw [e3] at x1
          exact ⟨x, x1, x2⟩
        refine .inr ⟨⟨B.b, 0, none⟩, B.c, cells.toList.take (mb.es.length * k), by rw [hb.n], by rw [List.length_take, Array.length_toList]; omega, fun j v hj => ?_, fun v hv => ?_, fun i cs j p hi hj => ?_⟩
        · have ea : (⟨B.b, 0, none⟩ : Addr).add j = ⟨B.b, j, none⟩ := by unfold Addr.add; split <;> simp_all
          rw [ea, cell_of_row w B.b j cells B.T (0, 0) m1]
          rw [List.getElem?_take] at hj
          split at hj
          · simpa using hj
          · cases hj
        · obtain ⟨t, ht⟩ := List.getElem?_of_mem hv
          rw [List.getElem?_take] at ht
          split at ht
          · rename_i htl
            obtain ⟨x, x1, x2⟩ := hlt t htl
            rw [Array.getElem?_toList, x1] at ht
            cases ht; exact x2
          · cases ht
        · have hjl : j < k := by rw [← hlen i cs hi]; exact (List.getElem?_eq_some_iff.1 hj).1
          have hil : i < mb.es.length := (List.getElem?_eq_some_iff.1 hi).1
          have hlt : i * k + j < mb.es.length * k := by
            have : (i + 1) * k ≤ mb.es.length * k := Nat.mul_le_mul_right _ hil
            rw [Nat.succ_mul] at this
            omega
          obtain ⟨x, x1, _, x3⟩ := m3 i cs j p hi hj
          exact ⟨x, by rw [List.getElem?_take_of_lt hlt, Array.getElem?_toList]; exact x1, x3⟩
    · cases hs
  · cases hs

def pAppend (P : Program) (m : Mem) (T : TypeId) (s x : PV) (K : PV → Mem → Prop) : Prop :=
  match P.underlying T with
  | some (.slice e) => match pz P e, srcOf m x with
    | some zc, some es => zc.length = P.cellsOf e ∧ 0 < P.cellsOf e ∧ (∀ cs ∈ es, cs.length = P.cellsOf e) ∧ match s with
      | .ms l => live m l fun mb => mb.T = e ∧ mb.k = P.cellsOf e ∧ mb.es.length + es.length ≤ 1099511627776 ∧ (mb.es.length + es.length) * P.bytesOf e ≤ 140737488355328 ∧
          K (.ms m.length) (m.set l none ++ [some ⟨e, P.cellsOf e, mb.es ++ es⟩])
      | .v (.slice none 0 0) => es ≠ [] ∧ es.length ≤ 1099511627776 ∧ es.length * P.bytesOf e ≤ 140737488355328 ∧ K (.ms m.length) (m ++ [some ⟨e, P.cellsOf e, es⟩])
      | _ => False
    | _, _ => False
  | _ => False
theorem run_append_none {t ty e : Nat} {i : TypeInfo} (ht : P.underlying t = some (.slice e)) (hi : P.info? e = some i) (g : Addr) (n cap c : Nat) (hnc : n ≤ cap) :
    (Builtin.append_ #[t, t] ty #[.slice (some g) n cap, .slice none 0 c]).run P w = .ok (.slice (some g) n cap) w := by
  simp [Builtin.append_, run_underlying ht, sizeOf, typeInfo, hi, Builtin.lenOf, Builtin.firstCells, hnc, storeCells]
theorem grown_cells {es es' : List (List PV)} {k : Nat} (hk0 : 0 < k) {E' : Env} {w' : World} (hx : Ext w w' E E') {old news : List Value} (ho : old.length = es.length * k) (hn : news.length = es'.length * k)
    (h1 : ∀ (i : Nat) (cs : List PV), es[i]? = some cs → cs.length = k) (h2 : ∀ (i : Nat) (cs : List PV), es'[i]? = some cs → cs.length = k)
    (r1 : ∀ (i : Nat) (cs : List PV) (j : Nat) (p : PV), es[i]? = some cs → cs[j]? = some p → ∃ u, old[i * k + j]? = some u ∧ u.oneCell' = true ∧ Rep w E p u)
    (hone : ∀ u ∈ news, u.oneCell' = true)
    (r2 : ∀ (i : Nat) (cs : List PV) (j : Nat) (p : PV), es'[i]? = some cs → cs[j]? = some p → ∃ u, news[i * k + j]? = some u ∧ Rep w E p u)
    {cur : Array Value} (hcur : cur.toList.take ((es.length + es'.length) * k) = old ++ news) :
    (∀ (i : Nat) (cs : List PV), (es ++ es')[i]? = some cs → cs.length = k) ∧ ∀ (i : Nat) (cs : List PV) (j : Nat) (p : PV), (es ++ es')[i]? = some cs → cs[j]? = some p → ∃ x, cur[i * k + j]? = some x ∧ x.oneCell' = true ∧ Rep w' E' p x := by
  have hlen : ∀ (i : Nat) (cs : List PV), (es ++ es')[i]? = some cs → cs.length = k := by
    intro i cs hi
    rcases Nat.lt_or_ge i es.length with h | h
    · rw [List.getElem?_append_left h] at hi; exact h1 i cs hi
    · rw [List.getElem?_append_right h] at hi; exact h2 _ cs hi
  refine ⟨hlen, fun i cs j p hi hj => ?_⟩
  have hjl : j < k := by rw [← hlen i cs hi]; exact (List.getElem?_eq_some_iff.1 hj).1
  have hil : i < es.length + es'.length := by have := (List.getElem?_eq_some_iff.1 hi).1; simpa using this
  have hin : i * k + j < (es.length + es'.length) * k := by
    have : (i + 1) * k ≤ (es.length + es'.length) * k := Nat.mul_le_mul_right _ hil
    rw [Nat.succ_mul] at this
    omega
  have hcell : cur[i * k + j]? = (old ++ news)[i * k + j]? := by rw [← hcur, List.getElem?_take_of_lt hin, Array.getElem?_toList]
  rw [hcell]
  rcases Nat.lt_or_ge i es.length with h | h
  · rw [List.getElem?_append_left h] at hi
    obtain ⟨u, u1, u2, u3⟩ := r1 i cs j p hi hj
    have : i * k + j < old.length := (List.getElem?_eq_some_iff.1 u1).1
    exact ⟨u, by rw [List.getElem?_append_left this]; exact u1, u2, u3.ext hx⟩
  · rw [List.getElem?_append_right h] at hi
    obtain ⟨u, u1, u3⟩ := r2 _ cs j p hi hj
    have hge : old.length ≤ i * k + j := by
      rw [ho]
      have : es.length * k ≤ i * k := Nat.mul_le_mul_right _ h
      omega
    refine ⟨u, ?_, hone u (List.mem_of_getElem? u1), u3.ext hx⟩
    rw [List.getElem?_append_right hge, ← u1, ho]
    congr 1
    rw [Nat.sub_mul]
    have : es.length * k ≤ i * k := Nat.mul_le_mul_right _ h
    omega
theorem pAppend_sound (hk : Ok w0 E w m) {T ty : TypeId} {p q : PV} {x y : Value} (hx : Rep w E p x) (hy : Rep w E q y) {K : PV → Mem → Prop} (h : pAppend P m T p q K) :
    ∃ p m', K p m' ∧ GivesV P w0 E w (Builtin.append_ #[T, T] ty #[x, y]) p m' := by
  unfold pAppend at h
  split at h
  · rename_i e hu
    split at h
    · rename_i zc es hz hsrc
      obtain ⟨hzl, hpos, hlen, h⟩ := h
      obtain ⟨i, z, hi, hz', hc⟩ := pz_rep (w := w) (E := E) hz
      have his : i.size = P.cellsOf e := by simp [Program.cellsOf, hi]
      have hib : i.bytes = P.bytesOf e := by simp [Program.bytesOf, hi]
      have hzs : z.cells.size = P.cellsOf e := by rw [hc.1, hzl]
      have hlen' : ∀ (i : Nat) (cs : List PV), es[i]? = some cs → cs.length = P.cellsOf e := fun i cs h => hlen cs (List.mem_of_getElem? h)
      have hsr := src_rep hk hy hsrc hpos hlen'
      split at h
      · rename_i l
        obtain ⟨mb, hm, hmT, hmk, hbig, hbytes, hK⟩ := live_iff h
        obtain ⟨B, hB, hb, rfl⟩ := hx.ms_inv hk hm
        obtain ⟨o1, o2, o3⟩ := hk.own l B hB
        obtain ⟨cells, m1, m2, m3⟩ := hb.mem
        have hBk : B.k = P.cellsOf e := hb.k.trans hmk
        have hBT : B.T = e := hb.T.trans hmT
        rw [hBk] at m2 m3
        rcases hsr with ⟨c, rfl, rfl⟩ | ⟨a, c, news, rfl, hnl, hnc, hone, hnr⟩
        · have hmv := hk.move (w' := w) hB ⟨e, P.cellsOf e, mb.es ++ []⟩ B rfl rfl rfl (Nat.le_refl _) (fun _ _ _ => rfl) (.inl rfl) o2 fun hx' => ⟨hBk, by rw [hb.n]; simp, hBT, hb.pos, hb.nc, hb.cm, by
            intro i cs hi; simp only [List.append_nil] at hi; exact hb.es i cs hi, cells, m1, by rw [hBk]; exact m2, by
            intro i cs j p hi hj
            simp only [List.append_nil] at hi
            obtain ⟨x, x1, x2, x3⟩ := m3 i cs j p hi hj
            rw [hBk]
            exact ⟨x, x1, x2, x3.ext hx'⟩⟩
          refine ⟨_, _, hK, _, w, _, run_append_none (w := w) hu hi _ _ _ c hb.nc, hmv.1, hmv.2, .ms _ _ (by simp [Env.move]) rfl fun B' hB' => ?_⟩
          have : B' = B := by simpa [Env.move, eq_comm] using hB'
          subst this; rfl
        · have hnle : B.n * P.cellsOf e ≤ B.c * P.cellsOf e := Nat.mul_le_mul_right _ hb.nc
          have hown : w.ownsRow w0.heap.size e (P.cellsOf e) (.slice (some ⟨B.b, 0, none⟩) B.n B.c) B.n (cells.toList.take (B.n * P.cellsOf e)) :=
            ⟨by rw [List.length_take, Array.length_toList]; omega, .inr ⟨B.b, B.c, cells, rfl, o1, by rw [hBT] at m1; exact m1, hb.nc, hb.cm, m2, rfl⟩⟩
          obtain ⟨v', w', hrun, hown', hg, hnil, hblk⟩ := run_append_own_at (P := P) w w0.heap.size T ty e i z (P.cellsOf e) (P.bytesOf e) hu hi hz' his hib hzs hpos _ B.n _ hown a es.length c news hnl hnc hone (by rw [hb.n]; unfold maxLen; omega) (by rw [hb.n]; exact hbytes) hk.up.size
          rcases hown'.2 with ⟨rfl, _⟩ | ⟨g, cap, cur, rfl, hgB, hgh, hgn, hgc, hgs, hgt⟩
          · have := hnil.1 rfl; simp at this
          · simp only [Value.ownBlock, Option.some.injEq] at hblk hg
            have hgl : g < w'.heap.size := (Array.getElem?_eq_some_iff.1 hgh).1
            have hmv := hk.move (w' := w') hB ⟨e, P.cellsOf e, mb.es ++ es⟩ ⟨g, cap, B.n + es.length, P.cellsOf e, e⟩ hg.os hg.tape hg.output hg.size
              (fun b hb1 hb2 => hg.block b hb1 (by simpa using hb2)) (by rcases hblk with h | h; exact .inl h; exact .inr (by simp only; omega)) hgl fun hx' => by
                obtain ⟨g1, g2⟩ := grown_cells (es := mb.es) (es' := es) (k := P.cellsOf e) hpos hx' (old := cells.toList.take (B.n * P.cellsOf e)) (news := news) (by rw [List.length_take, Array.length_toList, ← hb.n]; omega) hnl
                  (fun i cs hi => (hb.es i cs hi).trans hBk) hlen' (fun i cs j p hi hj => by
                    obtain ⟨x, x1, x2, x3⟩ := m3 i cs j p hi hj
                    have hjl : j < P.cellsOf e := by rw [← (hb.es i cs hi).trans hBk]; exact (List.getElem?_eq_some_iff.1 hj).1
                    have hil : i < B.n := by rw [hb.n]; exact (List.getElem?_eq_some_iff.1 hi).1
                    have hlt : i * P.cellsOf e + j < B.n * P.cellsOf e := by
                      have : (i + 1) * P.cellsOf e ≤ B.n * P.cellsOf e := Nat.mul_le_mul_right _ hil
                      rw [Nat.succ_mul] at this
                      omega
                    exact ⟨x, by rw [List.getElem?_take_of_lt hlt, Array.getElem?_toList]; exact x1, x2, x3⟩) hone hnr (cur := cur) (by rw [← hb.n]; exact hgt)
                exact ⟨rfl, by simp [hb.n], rfl, hpos, hgn, hgc, g1, cur, hgh, hgs, g2⟩
            refine ⟨_, _, hK, _, w', _, hrun, hmv.1, hmv.2, .ms _ _ (by simp [Env.move]) rfl fun B' hB' => ?_⟩
            have e' : B' = ⟨g, cap, B.n + es.length, P.cellsOf e, e⟩ := by simpa [Env.move, eq_comm] using hB'
            subst e'; rfl
      · obtain ⟨hne, hbig, hbytes, hK⟩ := h
        obtain ⟨rfl, _⟩ := hx.v_inv
        rcases hsr with ⟨c, rfl, rfl⟩ | ⟨a, c, news, rfl, hnl, hnc, hone, hnr⟩
        · exact absurd rfl hne
        · obtain ⟨v', w', hrun, hown', hg, hnil, hblk⟩ := run_append_own_at (P := P) w w0.heap.size T ty e i z (P.cellsOf e) (P.bytesOf e) hu hi hz' his hib hzs hpos _ 0 [] (World.ownsRow_nil _ _ _ _) a es.length c news hnl hnc hone (by unfold maxLen; omega) (by simpa using hbytes) hk.up.size
          rcases hown'.2 with ⟨rfl, _⟩ | ⟨g, cap, cur, rfl, hgB, hgh, hgn, hgc, hgs, hgt⟩
          · have := hnil.1 rfl
            exact absurd (List.length_eq_zero_iff.1 this.2) hne
          · simp only [Value.ownBlock, reduceCtorEq, Option.some.injEq, false_or] at hblk hg
            have hgl : g < w'.heap.size := (Array.getElem?_eq_some_iff.1 hgh).1
            simp only [Nat.zero_add, List.nil_append] at hgt hgn hrun
            have hmv := hk.new (w' := w') ⟨e, P.cellsOf e, es⟩ ⟨g, cap, es.length, P.cellsOf e, e⟩ hg.os hg.tape hg.output hg.size
              (fun b hb1 => hg.block b hb1 (by simp)) (by simp only; omega) hgl fun hx' => by
                obtain ⟨g1, g2⟩ := grown_cells (es := []) (es' := es) (k := P.cellsOf e) hpos hx' (old := []) (news := news) (by simp) hnl (by simp) hlen' (by simp) hone hnr (cur := cur) (by simpa using hgt)
                simp only [List.nil_append] at g1 g2
                exact ⟨rfl, rfl, rfl, hpos, hgn, hgc, g1, cur, hgh, hgs, g2⟩
            refine ⟨_, _, hK, _, w', _, hrun, hmv.1, hmv.2, .ms _ _ (by simp [Env.add]) rfl fun B' hB' => ?_⟩
            have e' : B' = ⟨g, cap, es.length, P.cellsOf e, e⟩ := by simpa [Env.add, eq_comm] using hB'
            subst e'; rfl
      · exact h.elim
    · exact h.elim
  · exact h.elim
end
end Go.Proofs.Ytooikkfldddjfaa
