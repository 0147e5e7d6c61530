/- The layer of plain values: one operation, calls included. No program in sight. -/
import Derived.Test.YtooikkfldddjfaaPl8
namespace Go.Proofs.Ytooikkfldddjfaa
set_option maxRecDepth 10000
open Go.RowKit

/-- A cell without own labels. -/
def isC : PV → Bool
  | .v _ | .ud | .un | .sl _ | .rp _ => true
  | _ => false
/-- A cell whose value it says itself. -/
def isV : PV → Bool
  | .v _ | .ud => true
  | _ => false
/-- A cell that says nothing of memory that is read only. -/
def isF : PV → Bool
  | .v _ | .ud | .un | .ms _ | .be .. => true
  | _ => false
def E0 (S : Nat → Prop) : Env := { S := S, β := fun _ => none, top := 0 }

/-- The contract of a call, in plain values: r is what it returns, m' the rows that it made and that its result owns. -/
def CallOk (P : Program) (f : FuncId) (args : List PV) (r : PV) (m' : Mem) : Prop :=
  ∀ (S : Nat → Prop) (w : World) (vs : Array Value), (∀ b, S b → b < w.heap.size) → vs.size = args.length → (∀ (i : Nat) (p : PV), args[i]? = some p → ∃ x, vs[i]? = some x ∧ Rep w (E0 S) p x) →
    Calls P f vs w fun e w' => ∃ v E', e = .returned v ∧ Ok w E' w' m' ∧ (∀ b, S b → E'.S b) ∧ (∀ b, E'.S b → S b ∨ w.heap.size ≤ b) ∧ Rep w' E' r v

section
variable {w : World} {E : Env} {w0 : World} {m : Mem} {P : Program}

def GivesR (P : Program) (E : Env) (w : World) (a : Act) (o : Oper) (p : PV) : Prop :=
  ∃ x, (∀ w', Up w w' → (execOp a.eval o).run P w' = .ok (.value x) w') ∧ Rep w E p x

def pMinMax (mx : Bool) (ps : List PV) (K : PV → Prop) : Prop :=
  match ps with
  | [.v (.int k a), .v (.int k' b)] => if mx then K (.v (.int k (if b > a then b else a))) else K (.v (.int k (if b < a then b else a)))
  | _ => False

def popR (P : Program) (o : Op) (t : List PV) (m : Mem) (K : PV → Prop) : Prop :=
  match o with
  | .move x => K (evP t x)
  | .assign x => K (evP t x)
  | .pick c x y => match evP t c with
    | .v (.bool b) => K (if b then evP t x else evP t y)
    | _ => False
  | .load T a => pLoad P T (rdp m (evP t a)) K
  | .nilCheck x => pNil m (evP t x) K
  | .binOp op T x y _ => pBin P op T (evP t x) (evP t y) K
  | .unOp op _ x => pUn op (evP t x) K
  | .convert s d x => pConv P s d (evP t x) K
  | .slice T x lo hi mx => match mx with
    | none => pSlice P T (evP t x) (lo.map (evP t)) (hi.map (evP t)) K
    | some _ => False
  | .fieldAddr S x f => pFieldAddr P m S (evP t x) f K
  | .field T x f => pField P T (evP t x) f K
  | .indexAddr T x i => pIndexAddr P m T (evP t x) (evP t i) K
  | .index T x i => pIndex P T (evP t x) (evP t i) K
  | .extract x i => pExt i (evP t x) K
  | .build T ps => pBuild P T (ps.toList.map fun q => (q.1, evP t q.2)) K
  | .call c => match c.callee with
    | .builtin .len => match c.args.toList, c.argTypes.toList with
      | [x], [T] => pLen P m T (evP t x) K
      | _, _ => False
    | .builtin .min => pMinMax false (c.args.toList.map (evP t)) K
    | .builtin .max => pMinMax true (c.args.toList.map (evP t)) K
    | _ => False
  | _ => False

theorem run_v {s : Sem Value} {x : Value} {w w' : World} (h : s.run P w = .ok x w') : (do pure (Next.value (← s)) : Sem Next).run P w = .ok (.value x) w' := by
  simp only [Sem.run_bind, h, Result.andThen_ok, Sem.run_pure]
theorem array_one {α : Type} {a : Array α} {x : α} (h : a.toList = [x]) : a = #[x] := Array.ext' (by simpa using h)
theorem array_two {α : Type} {a : Array α} {x y : α} (h : a.toList = [x, y]) : a = #[x, y] := Array.ext' (by simpa using h)

theorem popR_sound (hk : Ok w0 E w m) {t : List PV} {a : Act} (ht : RepT w E t a.tmps) {o : Oper} {K : PV → Prop} (h : popR P o.op t m K) : ∃ p, K p ∧ GivesR P E w a o p := by
  have ev := evP_rep ht
  have fin : ∀ {s : Sem Value}, (∃ r v, K r ∧ (∀ w', s.run P w' = .ok v w') ∧ Rep w E r v) → (execOp a.eval o = do pure (Next.value (← s))) → ∃ p, K p ∧ GivesR P E w a o p := by
    intro s ⟨r, v, hK, hrun, hrep⟩ he
    exact ⟨r, hK, v, fun w' _ => by rw [he]; exact run_v (hrun w'), hrep⟩
  unfold popR at h
  split at h
  · rename_i x ho
    exact ⟨_, h, a.eval x, fun w' _ => by simp [execOp, ho], ev x⟩
  · rename_i x ho
    exact ⟨_, h, a.eval x, fun w' _ => by simp [execOp, ho], ev x⟩
  · rename_i c x y ho
    split at h
    · rename_i b hc
      have h1 := ev c
      rw [hc] at h1
      have h2 := h1.v_inv.1
      refine ⟨_, h, if b then a.eval x else a.eval y, fun w' _ => by cases b <;> simp [execOp, ho, h2, asBool], ?_⟩
      cases b
      · exact ev y
      · exact ev x
    · exact h.elim
  · rename_i T x ho
    cases hp : rdp m (evP t x) with
    | none => rw [hp] at h; unfold pLoad at h; split at h <;> first | exact h.elim | simp_all
    | some cs =>
      rw [hp] at h
      obtain ⟨b, off, hx, hb, hc⟩ := rdp_rep hk (ev x) hp
      obtain ⟨p, v, hK, hrun, hrep⟩ := pLoad_mem h hb hc
      exact ⟨p, hK, v, fun w' hu => by simp only [execOp, ho, hx]; exact run_v (by simp only [Instr.loadAt, Instr.sureAddr, Sem.run_bind, Sem.run_pure, Result.andThen_ok]; exact hrun w' hu), hrep⟩
  · rename_i x ho
    unfold pNil at h
    split at h
    · rename_i l i oo hx
      obtain ⟨mb, hm, hK⟩ := live_iff h
      have h1 := ev x
      rw [hx] at h1
      obtain ⟨B, hB, hb, e⟩ := h1.be_inv hk hm
      exact ⟨_, hK, a.eval x, fun w' _ => by simp [execOp, ho, e], h1⟩
    · rename_i cs hx
      have h1 := ev x
      rw [hx] at h1
      have h2 : ∃ b off, a.eval x = .pointer (some ⟨b, off, none⟩) := by
        generalize a.eval x = v at h1
        cases h1.rp_inv with
        | rp _ b off => exact ⟨b, off, rfl⟩
      obtain ⟨b, off, h2⟩ := h2
      exact ⟨_, h, a.eval x, fun w' _ => by simp [execOp, ho, h2], h1⟩
    · exact h.elim
  · rename_i op T x y Ty ho
    exact fin (pBin_sound (ox := x) (oy := y) (ev x) (ev y) h) (by simp only [execOp, ho])
  · rename_i op T x ho
    exact fin (pUn_sound (ev x) h) (by simp only [execOp, ho])
  · rename_i s d x ho
    exact fin (pConv_sound (ev x) h) (by simp only [execOp, ho])
  · rename_i T x lo hi mx ho
    split at h
    · refine fin (pSlice_sound (vlo := lo.map a.eval) (vhi := hi.map a.eval) (ev x) ?_ ?_ ?_ ?_ h) (by simp only [execOp, ho, Option.map_none])
      · intro p hp; cases lo with
        | none => cases hp
        | some z => simp only [Option.map_some, Option.some.injEq] at hp; exact ⟨a.eval z, rfl, hp ▸ ev z⟩
      · intro hp; cases lo with
        | none => rfl
        | some z => cases hp
      · intro p hp; cases hi with
        | none => cases hp
        | some z => simp only [Option.map_some, Option.some.injEq] at hp; exact ⟨a.eval z, rfl, hp ▸ ev z⟩
      · intro hp; cases hi with
        | none => rfl
        | some z => cases hp
    · exact h.elim
  · rename_i S x f ho
    exact fin (pFieldAddr_sound hk (ev x) h) (by simp only [execOp, ho])
  · rename_i T x f ho
    exact fin (pField_sound (ev x) h) (by simp only [execOp, ho])
  · rename_i T x i ho
    exact fin (pIndexAddr_sound hk (ev x) (ev i) h) (by simp only [execOp, ho])
  · rename_i T x i ho
    exact fin (pIndex_sound (ev x) (ev i) h) (by simp only [execOp, ho])
  · rename_i x i ho
    exact fin (pExt_sound (ev x) h) (by simp only [execOp, ho])
  · rename_i T ps ho
    refine fin (pBuild_sound (vs := ps.map fun (i, x) => (i, a.eval x)) (by simp) (fun j i p hj => ?_) h) (by simp only [execOp, ho])
    rw [List.getElem?_map] at hj
    cases hq : ps.toList[j]? with
    | none => rw [hq] at hj; cases hj
    | some q =>
      rw [hq] at hj
      simp only [Option.map_some, Option.some.injEq, Prod.mk.injEq] at hj
      obtain ⟨rfl, rfl⟩ := hj
      rw [Array.getElem?_toList] at hq
      exact ⟨a.eval q.2, by simp [hq], ev q.2⟩
  · rename_i c ho
    split at h
    · rename_i hc
      split at h
      · rename_i x T hx hT
        obtain ⟨callee, args, argTypes⟩ := c
        have ha := array_one hx
        have hTs := array_one hT
        simp only at hc ha hTs
        subst hc ha hTs
        obtain ⟨r, v, hK, hrun, hrep⟩ := pLen_sound (ty := o.type) hk (ev x) h
        exact ⟨r, hK, v, fun w' _ => by simp [execOp, ho, resolve, invoke, builtin, hrun], hrep⟩
      · exact h.elim
    · rename_i hc
      unfold pMinMax at h
      split at h
      · rename_i k a1 k' b1 hargs
        obtain ⟨callee, args, argTypes⟩ := c
        simp only at hc hargs
        subst hc
        obtain ⟨x, l, e1, hx, e2⟩ := List.map_eq_cons_iff.1 hargs
        obtain ⟨y, l2, e3, hy, e4⟩ := List.map_eq_cons_iff.1 e2
        rw [List.map_eq_nil_iff.1 e4] at e3
        rw [e3] at e1
        have ha := array_two e1
        subst ha
        have vx := ev x; rw [hx] at vx
        have vy := ev y; rw [hy] at vy
        have vx := vx.v_inv.1
        have vy := vy.v_inv.1
        exact ⟨_, h, .int k (if b1 < a1 then b1 else a1), fun w' _ => by simp [execOp, ho, resolve, invoke, builtin, vx, vy, run_min_int2], .c (.v _ rfl)⟩
      · exact h.elim
    · rename_i hc
      unfold pMinMax at h
      split at h
      · rename_i k a1 k' b1 hargs
        obtain ⟨callee, args, argTypes⟩ := c
        simp only at hc hargs
        subst hc
        obtain ⟨x, l, e1, hx, e2⟩ := List.map_eq_cons_iff.1 hargs
        obtain ⟨y, l2, e3, hy, e4⟩ := List.map_eq_cons_iff.1 e2
        rw [List.map_eq_nil_iff.1 e4] at e3
        rw [e3] at e1
        have ha := array_two e1
        subst ha
        have vx := ev x; rw [hx] at vx
        have vy := ev y; rw [hy] at vy
        have vx := vx.v_inv.1
        have vy := vy.v_inv.1
        exact ⟨_, h, .int k (if b1 > a1 then b1 else a1), fun w' _ => by simp [execOp, ho, resolve, invoke, builtin, vx, vy, run_max_int2], .c (.v _ rfl)⟩
      · exact h.elim
    · exact h.elim
  · exact h.elim

/-- What a callee gets for an own row: what it reads. -/
def snapC (m : Mem) (p : PV) (K : PV → Prop) : Prop :=
  match p with
  | .ms l => live m l fun mb => (∀ cs ∈ mb.es, ∀ q ∈ cs, isC q = true) ∧ K (.sl mb.es)
  | .v x => K (.v x)
  | .sl es => K (.sl es)
  | .rp cs => K (.rp cs)
  | .un => K .un
  | .ud => K .ud
  | _ => False
def snapL (m : Mem) : List PV → (List PV → Prop) → Prop
  | [], K => K []
  | c :: cs, K => snapC m c fun c' => snapL m cs fun cs' => K (c' :: cs')
def snapV (m : Mem) (p : PV) (K : PV → Prop) : Prop :=
  match p with
  | .ag cs => snapL m cs fun cs' => K (.ag cs')
  | p => snapC m p K
def snapA (m : Mem) : List PV → (List PV → Prop) → Prop
  | [], K => K []
  | c :: cs, K => snapV m c fun c' => snapA m cs fun cs' => K (c' :: cs')

/-- All memory that is read only, and the own rows. -/
def Sall (E : Env) (b : Nat) : Prop := E.S b ∨ ∃ l B, E.β l = some B ∧ B.b = b
theorem Rep.toC {p : PV} {x : Value} (h : Rep w E p x) (hc : isC p = true) : RepC w E.S p x := by
  cases h with
  | c h => exact h
  | _ => simp [isC] at hc
theorem RepC.all {S S' : Nat → Prop} {p : PV} {x : Value} (h : RepC w S p x) (hS : ∀ b, S b → S' b) : RepC w S' p x := h.ext hS fun _ _ _ => rfl
theorem snapC_rep (hk : Ok w0 E w m) {p : PV} {x : Value} (hx : Rep w E p x) {K : PV → Prop} (h : snapC m p K) : ∃ q, K q ∧ RepC w (Sall E) q x ∧ isC q = true := by
  unfold snapC at h
  split at h
  · rename_i l
    obtain ⟨mb, hm, hcl, hK⟩ := live_iff h
    obtain ⟨B, hB, hb, rfl⟩ := hx.ms_inv hk hm
    obtain ⟨cells, m1, m2, m3⟩ := hb.mem
    have hex : ∀ ij : Nat × Nat, ∃ u : Value, ∀ cs p, mb.es[ij.1]? = some cs → cs[ij.2]? = some p → cells[ij.1 * B.k + ij.2]? = some u ∧ u.oneCell' = true ∧ RepC w (Sall E) p u := by
      intro ⟨i, j⟩
      cases hi : mb.es[i]? with
      | none => exact ⟨undef, fun cs p h => by simp [hi] at h⟩
      | some cs =>
        cases hj : cs[j]? with
        | none => exact ⟨undef, fun cs' p h h' => by simp only [hi, Option.some.injEq] at h; subst h; simp [hj] at h'⟩
        | some p =>
          obtain ⟨u, u1, u2, u3⟩ := m3 i cs j p hi hj
          refine ⟨u, fun cs' p' h h' => ?_⟩
          simp only [hi, Option.some.injEq] at h
          subst h
          simp only [hj, Option.some.injEq] at h'
          subst h'
          exact ⟨u1, u2, (u3.toC (hcl cs (List.mem_of_getElem? hi) p (List.mem_of_getElem? hj))).all fun b hb => .inl hb⟩
    obtain ⟨f, hf⟩ := Classical.axiomOfChoice hex
    refine ⟨_, hK, ?_, rfl⟩
    rw [hb.n]
    exact .sl mb.es B.b 0 B.k B.c (fun i j => f (i, j)) (.inr ⟨l, B, hB, rfl⟩) hb.pos (by rw [← hb.n]; exact hb.nc) hb.cm hb.es
      (fun i cs j p hi hj => by rw [cell_of_row w B.b _ cells B.T (0, 0) m1, Nat.zero_add]; exact (hf (i, j) cs p hi hj).1) (fun i cs j p hi hj => (hf (i, j) cs p hi hj).2.1) fun i cs j p hi hj => (hf (i, j) cs p hi hj).2.2
  · exact ⟨_, h, (hx.toC rfl).all fun b hb => .inl hb, rfl⟩
  · exact ⟨_, h, (hx.toC rfl).all fun b hb => .inl hb, rfl⟩
  · exact ⟨_, h, (hx.toC rfl).all fun b hb => .inl hb, rfl⟩
  · exact ⟨_, h, (hx.toC rfl).all fun b hb => .inl hb, rfl⟩
  · exact ⟨_, h, (hx.toC rfl).all fun b hb => .inl hb, rfl⟩
  · exact h.elim
theorem snapL_rep (hk : Ok w0 E w m) : ∀ (cs : List PV) (vs : List Value) (K : List PV → Prop), vs.length = cs.length → (∀ (j : Nat) (p : PV) (x : Value), cs[j]? = some p → vs[j]? = some x → Rep w E p x) → snapL m cs K →
    ∃ ds, K ds ∧ ds.length = cs.length ∧ ∀ (j : Nat) (q : PV) (x : Value), ds[j]? = some q → vs[j]? = some x → RepC w (Sall E) q x
  | [], [], K, _, _, h => ⟨[], h, rfl, by simp⟩
  | [], _ :: _, _, hl, _, _ => by simp at hl
  | _ :: _, [], _, hl, _, _ => by simp at hl
  | c :: cs, v :: vs, K, hl, hr, h => by
    obtain ⟨q, hK, hq, _⟩ := snapC_rep hk (hr 0 c v rfl rfl) h
    obtain ⟨ds, hK', hdl, hd⟩ := snapL_rep hk cs vs _ (by simpa using hl) (fun j p x hp hx => hr (j + 1) p x (by simpa using hp) (by simpa using hx)) hK
    refine ⟨q :: ds, hK', by simp [hdl], fun j q' x hj hx => ?_⟩
    cases j with
    | zero => simp only [List.getElem?_cons_zero, Option.some.injEq] at hj hx; subst hj hx; exact hq
    | succ j => exact hd j q' x (by simpa using hj) (by simpa using hx)
theorem snapV_rep (hk : Ok w0 E w m) {p : PV} {x : Value} (hx : Rep w E p x) {K : PV → Prop} (h : snapV m p K) : ∃ q, K q ∧ Rep w (E0 (Sall E)) q x := by
  unfold snapV at h
  split at h
  · rename_i cs
    obtain ⟨vs, rfl, hl, h1, hr⟩ := hx.ag_inv
    obtain ⟨ds, hK, hdl, hd⟩ := snapL_rep hk cs vs.toList _ (by simpa using hl) (fun j p x hp hx => hr j p x hp (by simpa using hx)) h
    exact ⟨_, hK, .ag ds vs (by rw [hl, hdl]) h1 fun j p x hp hx => .c (hd j p x hp (by simpa using hx))⟩
  · obtain ⟨q, hK, hq, _⟩ := snapC_rep hk hx h
    exact ⟨q, hK, .c hq⟩
theorem snapA_rep (hk : Ok w0 E w m) : ∀ (cs : List PV) (vs : List Value) (K : List PV → Prop), vs.length = cs.length → (∀ (j : Nat) (p : PV) (x : Value), cs[j]? = some p → vs[j]? = some x → Rep w E p x) → snapA m cs K →
    ∃ ds, K ds ∧ ds.length = cs.length ∧ ∀ (j : Nat) (q : PV) (x : Value), ds[j]? = some q → vs[j]? = some x → Rep w (E0 (Sall E)) q x
  | [], [], K, _, _, h => ⟨[], h, rfl, by simp⟩
  | [], _ :: _, _, hl, _, _ => by simp at hl
  | _ :: _, [], _, hl, _, _ => by simp at hl
  | c :: cs, v :: vs, K, hl, hr, h => by
    obtain ⟨q, hK, hq⟩ := snapV_rep hk (hr 0 c v rfl rfl) h
    obtain ⟨ds, hK', hdl, hd⟩ := snapA_rep hk cs vs _ (by simpa using hl) (fun j p x hp hx => hr (j + 1) p x (by simpa using hp) (by simpa using hx)) hK
    refine ⟨q :: ds, hK', by simp [hdl], fun j q' x hj hx => ?_⟩
    cases j with
    | zero => simp only [List.getElem?_cons_zero, Option.some.injEq] at hj hx; subst hj hx; exact hq
    | succ j => exact hd j q' x (by simpa using hj) (by simpa using hx)
end
end Go.Proofs.Ytooikkfldddjfaa
