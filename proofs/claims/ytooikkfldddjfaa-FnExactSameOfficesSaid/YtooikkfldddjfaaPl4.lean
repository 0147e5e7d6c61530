/- The layer of plain values: the other operations that only read. No program in sight. -/
import Derived.Test.YtooikkfldddjfaaPl3
namespace Go.Proofs.Ytooikkfldddjfaa
set_option maxRecDepth 10000
open Go.RowKit
section
variable {w : World} {E : Env} {w0 : World} {m : Mem} {P : Program}

def pUn (op : UnOp) (x : PV) (K : PV → Prop) : Prop :=
  match op, x with
  | .not, .v (.bool b) => K (.v (.bool !b))
  | .neg, .v (.int k n) => K (.v (.int k (k.wrap (0 - n))))
  | _, _ => False
theorem pUn_sound {op : UnOp} {p : PV} {x : Value} (hx : Rep w E p x) {K : PV → Prop} (h : pUn op p K) : ∃ r v, K r ∧ (∀ w', (Op.unary op x).run P w' = .ok v w') ∧ Rep w E r v := by
  unfold pUn at h
  split at h
  · obtain ⟨rfl, _⟩ := hx.v_inv
    exact ⟨_, _, h, fun w' => by simp [Op.unary], .c (.v _ rfl)⟩
  · obtain ⟨rfl, _⟩ := hx.v_inv
    exact ⟨_, _, h, fun w' => by simp [Op.unary, Op.intArith], .c (.v _ rfl)⟩
  · exact h.elim

def pConv (P : Program) (s d : TypeId) (x : PV) (K : PV → Prop) : Prop :=
  match P.underlying s, P.underlying d, x with
  | some (.int _), some (.int k), .v (.int _ n) => K (.v (.int k (k.wrap n)))
  | some .string, some .string, .v (.string t) => K (.v (.string t))
  | _, _, _ => False
theorem pConv_sound {s d : TypeId} {p : PV} {x : Value} (hx : Rep w E p x) {K : PV → Prop} (h : pConv P s d p K) : ∃ r v, K r ∧ (∀ w', (convert s d x).run P w' = .ok v w') ∧ Rep w E r v := by
  unfold pConv at h
  split at h
  · rename_i _ k _ n h1 h2
    obtain ⟨rfl, _⟩ := hx.v_inv
    exact ⟨_, _, h, fun w' => by simp [convert, run_underlying h1, run_underlying h2, Conv.intToInt], .c (.v _ rfl)⟩
  · rename_i t h1 h2
    obtain ⟨rfl, _⟩ := hx.v_inv
    exact ⟨_, _, h, fun w' => by simp [convert, run_underlying h1, run_underlying h2], .c (.v _ rfl)⟩
  · exact h.elim

/-- A bound of a slice: the number given, or the standing one. -/
def pBd (x : Option PV) (d : Int) : Option Int :=
  match x with
  | none => some d
  | some (.v (.int _ i)) => some i
  | _ => none
def pSlice (P : Program) (T : TypeId) (x : PV) (lo hi : Option PV) (K : PV → Prop) : Prop :=
  match P.underlying T, x with
  | some .string, .v (.string s) => match pBd lo 0, pBd hi s.size with
    | some l, some h => 0 ≤ l ∧ l ≤ h ∧ h ≤ s.size ∧ K (.v (.string (s.extract l.toNat h.toNat)))
    | _, _ => False
  | some (.slice e), .sl es => match pBd lo 0, pBd hi es.length with
    | some l, some h => 0 ≤ l ∧ l ≤ h ∧ h ≤ es.length ∧ 0 < P.cellsOf e ∧ (∀ cs ∈ es, cs.length = P.cellsOf e) ∧ K (.sl ((es.drop l.toNat).take (h.toNat - l.toNat)))
    | _, _ => False
  | _, _ => False
theorem run_sliceBound {y : Nat} {c : BoundsCode} {k : IntKind} {i : Int} (h0 : 0 ≤ i) (h1 : i ≤ y) (w' : World) : (Instr.sliceBound (.int k i) y c).run P w' = .ok i.toNat w' := by
  simp [Instr.sliceBound, asIntOf, h0, h1]
theorem pBd_val {x : Option PV} {v : Option Value} {d l : Int} (h : pBd x d = some l) (hx : ∀ p, x = some p → ∃ y, v = some y ∧ Rep w E p y) (hn : x = none → v = none) : (v = none ∧ l = d ∧ x = none) ∨ ∃ k, v = some (.int k l) := by
  unfold pBd at h
  split at h
  · exact .inl ⟨hn rfl, by simpa [eq_comm] using h, rfl⟩
  · rename_i k i
    obtain ⟨y, hy, hr⟩ := hx _ rfl
    obtain ⟨rfl, _⟩ := hr.v_inv
    simp only [Option.some.injEq] at h
    subst h
    exact .inr ⟨k, hy⟩
  · cases h
theorem run_sliceBounds {isS : Bool} {len cap : Nat} {vlo vhi : Option Value} {l h : Int} (hlo : (vlo = none ∧ l = 0) ∨ ∃ k, vlo = some (.int k l)) (hhi : (vhi = none ∧ h = len) ∨ ∃ k, vhi = some (.int k h)) (h0 : 0 ≤ l) (h1 : l ≤ h) (h2 : h ≤ len) (hc : len ≤ cap) (w' : World) :
    (Instr.sliceBounds isS len cap vlo vhi none).run P w' = .ok (l.toNat, h.toNat, cap) w' := by
  have e1 : (l : Int) ≤ (h.toNat : Int) := by omega
  have e2 : h ≤ (cap : Int) := by omega
  have e3 : 0 ≤ h := by omega
  have r1 : ∀ k c, (Instr.sliceBound (.int k l) h.toNat c).run P w' = .ok l.toNat w' := fun k c => run_sliceBound h0 e1 w'
  have r2 : ∀ k c, (Instr.sliceBound (.int k h) cap c).run P w' = .ok h.toNat w' := fun k c => run_sliceBound e3 e2 w'
  clear e1 e2 e3 hc h2
  rcases hlo with ⟨rfl, rfl⟩ | ⟨k, rfl⟩ <;> rcases hhi with ⟨rfl, rfl⟩ | ⟨k', rfl⟩ <;>
    (try simp only [Int.toNat_natCast] at r1) <;> simp [Instr.sliceBounds, r1, r2]
theorem pSlice_sound {T : TypeId} {p : PV} {lo hi : Option PV} {x : Value} {vlo vhi : Option Value} (hx : Rep w E p x) (h1 : ∀ p, lo = some p → ∃ y, vlo = some y ∧ Rep w E p y) (h1n : lo = none → vlo = none)
    (h2 : ∀ p, hi = some p → ∃ y, vhi = some y ∧ Rep w E p y) (h2n : hi = none → vhi = none) {K : PV → Prop} (h : pSlice P T p lo hi K) :
    ∃ r v, K r ∧ (∀ w', (Instr.sliceAt T x vlo vhi none).run P w' = .ok v w') ∧ Rep w E r v := by
  unfold pSlice at h
  split at h
  · rename_i s hu
    obtain ⟨rfl, _⟩ := hx.v_inv
    split at h
    · rename_i l hh e1 e2
      obtain ⟨a1, a2, a3, hK⟩ := h
      refine ⟨_, .string (s.extract l.toNat hh.toNat), hK, fun w' => ?_, .c (.v _ rfl)⟩
      have b1 := pBd_val e1 h1 h1n
      have b2 := pBd_val e2 h2 h2n
      have hb := run_sliceBounds (P := P) (isS := false) (len := s.size) (cap := s.size) (l := l) (h := hh) (vlo := vlo) (vhi := vhi) (by rcases b1 with ⟨a, b, _⟩ | b; exact .inl ⟨a, b⟩; exact .inr b) (by rcases b2 with ⟨a, b, _⟩ | b; exact .inl ⟨a, b⟩; exact .inr b) a1 a2 a3 (Nat.le_refl _) w'
      simp [Instr.sliceAt, Instr.slice, run_underlying hu, hb]
    · exact h.elim
  · rename_i e es hu
    split at h
    · rename_i l hh e1 e2
      obtain ⟨a1, a2, a3, hpos, hlen, hK⟩ := h
      have b1 := pBd_val e1 h1 h1n
      have b2 := pBd_val e2 h2 h2n
      obtain ⟨i, hi', hs⟩ := info_of_pos hpos
      cases hx.sl_inv with
      | nil A c =>
        simp only [List.length_nil] at a3 b2
        have hl0 : l = 0 := by simp at a3; omega
        have hh0 : hh = 0 := by simp at a3; omega
        subst hl0 hh0
        have hb := run_sliceBounds (P := P) (isS := true) (len := 0) (cap := c) (l := 0) (h := 0) (vlo := vlo) (vhi := vhi) (by rcases b1 with ⟨a, b, _⟩ | b; exact .inl ⟨a, b⟩; exact .inr b) (by rcases b2 with ⟨a, b, _⟩ | b; exact .inl ⟨a, b⟩; exact .inr b) (by omega) (by omega) (by simp) (Nat.zero_le _)
        refine ⟨_, .slice (if c = 0 then A else A.map (·.add 0)) 0 c, hK, fun w' => ?_, ?_⟩
        · simp [Instr.sliceAt, Instr.slice, run_underlying hu, hb, run_sizeOf hi']
        · simp only [Int.toNat_zero, List.drop_zero, Nat.sub_self, List.take_zero]
          exact .c (.nil _ _)
      | sl _ b off k c u hS hk hn hm hes hc h1' hr =>
        have hb := run_sliceBounds (P := P) (isS := true) (len := es.length) (cap := c) (l := l) (h := hh) (vlo := vlo) (vhi := vhi) (by rcases b1 with ⟨a, b, _⟩ | b; exact .inl ⟨a, b⟩; exact .inr b) (by rcases b2 with ⟨a, b, _⟩ | b; exact .inl ⟨a, b⟩; exact .inr b) a1 a2 a3 hn
        have hlt : ((es.drop l.toNat).take (hh.toNat - l.toNat)).length = hh.toNat - l.toNat := by
          rw [List.length_take, List.length_drop]; omega
        refine ⟨_, .slice (if c = l.toNat then some ⟨b, off, none⟩ else some ((⟨b, off, none⟩ : Addr).add (l.toNat * P.cellsOf e))) (hh.toNat - l.toNat) (c - l.toNat), hK, fun w' => ?_, ?_⟩
        · simp [Instr.sliceAt, Instr.slice, run_underlying hu, hb, run_sizeOf hi', hs]
        · rcases Nat.eq_zero_or_pos (hh.toNat - l.toNat) with h0 | h0
          · rw [h0]; simp only [List.take_zero]; exact .c (.nil _ _)
          · have hne : ¬ c = l.toNat := by omega
            rw [if_neg hne]
            have hek : k = P.cellsOf e := by
              have hl : l.toNat < es.length := by omega
              exact (hes _ _ (List.getElem?_eq_getElem hl)).symm.trans (hlen _ (List.getElem_mem hl))
            have ea : (⟨b, off, none⟩ : Addr).add (l.toNat * P.cellsOf e) = ⟨b, off + l.toNat * k, none⟩ := by rw [hek]; unfold Addr.add; split <;> simp_all
            have get : ∀ {i : Nat} {cs : List PV}, ((es.drop l.toNat).take (hh.toNat - l.toNat))[i]? = some cs → es[l.toNat + i]? = some cs := by
              intro i cs hi
              rw [List.getElem?_take] at hi
              split at hi
              · rwa [List.getElem?_drop] at hi
              · cases hi
            have key := RepC.sl (w := w) (S := E.S) ((es.drop l.toNat).take (hh.toNat - l.toNat)) b (off + l.toNat * k) k (c - l.toNat) (fun i j => u (l.toNat + i) j) hS hk (by rw [hlt]; omega) (by omega)
              (fun i cs hi => hes _ cs (get hi)) (fun i cs j p hi hj => by
                have := hc _ cs j p (get hi) hj
                rw [Nat.add_mul] at this
                rw [← this]
                congr 2
                omega) (fun i cs j p hi hj => h1' _ cs j p (get hi) hj) (fun i cs j p hi hj => hr _ cs j p (get hi) hj)
            rw [hlt] at key
            rw [ea]
            exact .c key
    · exact h.elim
  · exact h.elim

def live (m : Mem) (l : Nat) (K : MB → Prop) : Prop :=
  match m[l]? with
  | some (some mb) => K mb
  | _ => False
theorem live_iff {l : Nat} {K : MB → Prop} (h : live m l K) : ∃ mb, m[l]? = some (some mb) ∧ K mb := by
  unfold live at h
  split at h
  · exact ⟨_, by assumption, h⟩
  · exact h.elim

def pNil (m : Mem) (x : PV) (K : PV → Prop) : Prop :=
  match x with
  | .be l i o => live m l fun _ => K (.be l i o)
  | .rp cs => K (.rp cs)
  | _ => False

def pFieldAddr (P : Program) (m : Mem) (S : TypeId) (x : PV) (f : Nat) (K : PV → Prop) : Prop :=
  match P.underlying S with
  | some (.struct fs) => match fs[f]? with
    | some fd => 0 < P.cellsOf fd.type ∧ match x with
      | .be l i o => live m l fun _ => K (.be l i (o + fd.offset))
      | .rp cs => K (.rp (cs.drop fd.offset))
      | _ => False
    | none => False
  | _ => False
theorem pFieldAddr_sound (hk : Ok w0 E w m) {S : TypeId} {p : PV} {f : Nat} {x : Value} (hx : Rep w E p x) {K : PV → Prop} (h : pFieldAddr P m S p f K) :
    ∃ r v, K r ∧ (∀ w', (Instr.fieldAt S x f).run P w' = .ok v w') ∧ Rep w E r v := by
  unfold pFieldAddr at h
  split at h
  · rename_i fs hu
    split at h
    · rename_i fd hf
      obtain ⟨hpos, h⟩ := h
      obtain ⟨i, hi, hs⟩ := info_of_pos hpos
      have hne : ¬ i.size = 0 := by omega
      have run : ∀ b o w', (Instr.fieldAt S (.pointer (some ⟨b, o, none⟩)) f).run P w' = .ok (.pointer (some ⟨b, o + fd.offset, none⟩)) w' := by
        intro b o w'
        have ea : (⟨b, o, none⟩ : Addr).add fd.offset = ⟨b, o + fd.offset, none⟩ := by unfold Addr.add; split <;> simp_all
        simp [Instr.fieldAt, run_underlying hu, hf, Instr.sureAddr, fieldPlace, run_sizeOf hi, hne, ea]
      split at h
      · rename_i l i' o
        obtain ⟨mb, hm, hK⟩ := live_iff h
        obtain ⟨B, hB, hb, rfl⟩ := hx.be_inv hk hm
        exact ⟨_, _, hK, run _ _, .be _ _ _ _ (lt_of_live hk hm) rfl fun B' hB' => by rw [hB] at hB'; cases hB'; rw [Nat.add_assoc]⟩
      · rename_i cs
        cases hx.rp_inv with
        | rp _ b off u hS hc h1 hr =>
          refine ⟨_, _, h, run _ _, .c (.rp _ b (off + fd.offset) (fun j => u (fd.offset + j)) hS (fun j p hj => ?_) (fun j p hj => ?_) fun j p hj => ?_)⟩
          · rw [List.getElem?_drop] at hj; rw [Nat.add_assoc]; exact hc _ p hj
          · rw [List.getElem?_drop] at hj; exact h1 _ p hj
          · rw [List.getElem?_drop] at hj; exact hr _ p hj
      · exact h.elim
    · exact h.elim
  · exact h.elim

def pField (P : Program) (S : TypeId) (x : PV) (f : Nat) (K : PV → Prop) : Prop :=
  match P.underlying S with
  | some (.struct fs) => match fs[f]?, x with
    | some fd, .ag cs => pLoad P fd.type (some (cs.drop fd.offset)) K
    | _, _ => False
  | _ => False
theorem pField_sound {S : TypeId} {p : PV} {f : Nat} {x : Value} (hx : Rep w E p x) {K : PV → Prop} (h : pField P S p f K) :
    ∃ r v, K r ∧ (∀ w', (Instr.field S x f).run P w' = .ok v w') ∧ Rep w E r v := by
  unfold pField at h
  split at h
  · rename_i fs hu
    split at h
    · rename_i fd cs hf
      obtain ⟨vs, rfl, hl, h1, hr⟩ := hx.ag_inv
      obtain ⟨r, v, hK, hrun, hrep⟩ := pLoad_part h hl h1 hr
      exact ⟨r, v, hK, fun w' => by simp [Instr.field, run_underlying hu, hf, asAgg, hrun], hrep⟩
    · exact h.elim
  · exact h.elim

def pIndexAddr (P : Program) (m : Mem) (T : TypeId) (x i : PV) (K : PV → Prop) : Prop :=
  match P.underlying T, i with
  | some (.slice e), .v (.int _ n) => match x with
    | .sl es => 0 ≤ n ∧ n < es.length ∧ 0 < P.cellsOf e ∧ (es.getD n.toNat []).length = P.cellsOf e ∧ K (.rp (es.getD n.toNat []))
    | .ms l => live m l fun mb => 0 ≤ n ∧ n < mb.es.length ∧ mb.k = P.cellsOf e ∧ K (.be l n.toNat 0)
    | _ => False
  | _, _ => False
theorem pIndexAddr_sound (hk : Ok w0 E w m) {T : TypeId} {p q : PV} {x y : Value} (hx : Rep w E p x) (hy : Rep w E q y) {K : PV → Prop} (h : pIndexAddr P m T p q K) :
    ∃ r v, K r ∧ (∀ w', (Instr.indexAt T x y).run P w' = .ok v w') ∧ Rep w E r v := by
  unfold pIndexAddr at h
  split at h
  · rename_i e kk n hu
    obtain ⟨rfl, _⟩ := hy.v_inv
    split at h
    · rename_i es
      obtain ⟨a1, a2, hpos, hlen, hK⟩ := h
      obtain ⟨i, hi, hs⟩ := info_of_pos hpos
      have hn : n.toNat < es.length := by omega
      have hg : es.getD n.toNat [] = es[n.toNat] := by simp [List.getD, List.getElem?_eq_getElem hn]
      have hge : es[n.toNat]? = some (es.getD n.toNat []) := by rw [hg]; exact List.getElem?_eq_getElem hn
      cases hx.sl_inv with
      | nil A c => simp at hn
      | sl _ b off k c u hS hkp hnc hm hes hc h1 hr =>
        have hek : k = P.cellsOf e := (hes _ _ hge).symm.trans hlen
        have ea : (⟨b, off, none⟩ : Addr).add (n.toNat * P.cellsOf e) = ⟨b, off + n.toNat * k, none⟩ := by rw [hek]; unfold Addr.add; split <;> simp_all
        refine ⟨_, .pointer (some ⟨b, off + n.toNat * k, none⟩), hK, fun w' => ?_, .c (.rp _ b (off + n.toNat * k) (fun j => u n.toNat j) hS (fun j p hj => hc _ _ j p hge hj) (fun j p hj => h1 _ _ j p hge hj) fun j p hj => hr _ _ j p hge hj)⟩
        simp [Instr.indexAt, asIntOf, run_underlying hu, a1, a2, run_sizeOf hi, hs, ea]
    · rename_i l
      obtain ⟨mb, hm, a1, a2, hkk, hK⟩ := live_iff h
      obtain ⟨B, hB, hb, rfl⟩ := hx.ms_inv hk hm
      have hpos : 0 < P.cellsOf e := by rw [← hkk, ← hb.k]; exact hb.pos
      obtain ⟨i, hi, hs⟩ := info_of_pos hpos
      have ea : (⟨B.b, 0, none⟩ : Addr).add (n.toNat * P.cellsOf e) = ⟨B.b, n.toNat * B.k, none⟩ := by rw [hb.k, hkk]; unfold Addr.add; split <;> simp_all
      refine ⟨_, .pointer (some ⟨B.b, n.toNat * B.k, none⟩), hK, fun w' => ?_, .be _ _ _ _ (lt_of_live hk hm) rfl fun B' hB' => by rw [hB] at hB'; cases hB'; rfl⟩
      have a2' : n < (B.n : Int) := by rw [hb.n]; exact a2
      simp [Instr.indexAt, asIntOf, run_underlying hu, a1, a2', run_sizeOf hi, hs, ea]
    · exact h.elim
  · exact h.elim

def byteAt (s : ByteArray) (i : Nat) : Int := ((s[i]?).map (·.toNat)).getD 0
def pIndex (P : Program) (T : TypeId) (x i : PV) (K : PV → Prop) : Prop :=
  match P.underlying T, x, i with
  | some .string, .v (.string s), .v (.int _ n) => 0 ≤ n ∧ n < s.size ∧ K (.v (.int .u8 (byteAt s n.toNat)))
  | _, _, _ => False
theorem pIndex_sound {T : TypeId} {p q : PV} {x y : Value} (hx : Rep w E p x) (hy : Rep w E q y) {K : PV → Prop} (h : pIndex P T p q K) :
    ∃ r v, K r ∧ (∀ w', (Instr.index T x y).run P w' = .ok v w') ∧ Rep w E r v := by
  unfold pIndex at h
  split at h
  · rename_i s kk n hu
    obtain ⟨rfl, _⟩ := hx.v_inv
    obtain ⟨rfl, _⟩ := hy.v_inv
    obtain ⟨a1, a2, hK⟩ := h
    have hn : n.toNat < s.size := by omega
    refine ⟨_, .int .u8 (byteAt s n.toNat), hK, fun w' => ?_, .c (.v _ rfl)⟩
    simp [Instr.index, asIntOf, run_underlying hu, a1, byteAt, hn]
  · exact h.elim

def pExt (i : Nat) (x : PV) (K : PV → Prop) : Prop :=
  match x with
  | .tu vs => match vs[i]? with
    | some p => K p
    | none => False
  | _ => False
theorem pExt_sound {i : Nat} {p : PV} {x : Value} (hx : Rep w E p x) {K : PV → Prop} (h : pExt i p K) : ∃ r v, K r ∧ (∀ w', (Instr.extract x i).run P w' = .ok v w') ∧ Rep w E r v := by
  unfold pExt at h
  split at h
  · rename_i vs
    split at h
    · rename_i q hq
      obtain ⟨us, rfl, hl, hr⟩ := hx.tu_inv
      have hi : i < us.size := by rw [hl]; exact (List.getElem?_eq_some_iff.1 hq).1
      exact ⟨q, us[i], h, fun w' => by simp [Instr.extract, Array.getElem?_eq_getElem hi], hr i q _ hq (Array.getElem?_eq_getElem hi)⟩
    · exact h.elim
  · exact h.elim

def pLen (P : Program) (m : Mem) (T : TypeId) (x : PV) (K : PV → Prop) : Prop :=
  match P.underlying T, x with
  | some .string, .v (.string s) => K (.v (.int .i64 s.size))
  | some (.slice _), .v (.slice none n _) => K (.v (.int .i64 n))
  | some (.slice _), .sl es => K (.v (.int .i64 es.length))
  | some (.slice _), .ms l => live m l fun mb => K (.v (.int .i64 mb.es.length))
  | _, _ => False
theorem pLen_sound (hk : Ok w0 E w m) {T ty : TypeId} {p : PV} {x : Value} (hx : Rep w E p x) {K : PV → Prop} (h : pLen P m T p K) : ∃ r v, K r ∧ (∀ w', (Builtin.len_ #[T] ty #[x]).run P w' = .ok v w') ∧ Rep w E r v := by
  unfold pLen at h
  split at h
  · rename_i s hu
    obtain ⟨rfl, _⟩ := hx.v_inv
    exact ⟨_, _, h, fun w' => by simp [Builtin.len_, run_underlying hu, goInt], .c (.v _ rfl)⟩
  · rename_i e n c hu
    obtain ⟨rfl, _⟩ := hx.v_inv
    exact ⟨_, _, h, fun w' => by simp [Builtin.len_, run_underlying hu, goInt], .c (.v _ rfl)⟩
  · rename_i e es hu
    cases hx.sl_inv with
    | nil A c => exact ⟨_, _, h, fun w' => by simp [Builtin.len_, run_underlying hu, goInt], .c (.v _ rfl)⟩
    | sl => exact ⟨_, _, h, fun w' => by simp [Builtin.len_, run_underlying hu, goInt], .c (.v _ rfl)⟩
  · rename_i e l hu
    obtain ⟨mb, hm, hK⟩ := live_iff h
    obtain ⟨B, hB, hb, rfl⟩ := hx.ms_inv hk hm
    exact ⟨_, _, hK, fun w' => by simp [Builtin.len_, run_underlying hu, goInt, hb.n], .c (.v _ rfl)⟩
  · exact h.elim
end
end Go.Proofs.Ytooikkfldddjfaa
