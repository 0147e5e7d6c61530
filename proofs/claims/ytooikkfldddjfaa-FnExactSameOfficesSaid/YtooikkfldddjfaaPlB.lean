/- The layer of plain values: regions, code, loops, a function's body; and that the model does just that. No program in sight. -/
import Derived.Test.YtooikkfldddjfaaPlA
namespace Go.Proofs.Ytooikkfldddjfaa
set_option maxRecDepth 10000
open Go.RowKit

/-- A function with a body. -/
def isFn (P : Program) (f : FuncId) : Prop := ∃ fn, P.funcs[f]? = some fn ∧ fn.body.isSome = true ∧ (fn.name == "runtime.NumGoroutine") = false
/-- An operation, in a region whose order is the text's. -/
def popA (P : Program) (o : Op) (t : List PV) (m : Mem) (K : PV → Mem → Prop) : Prop :=
  match o with
  | .alloc T => pBox m T (pz P T) K
  | .box T x => pBox m T (pc (evP t x)) K
  | .buildSlice T n ps => pBuildSlice P m T n (ps.toList.map fun q => (q.1, evP t q.2)) K
  | .makeSlice T l c => pMake P m T (evP t l) (evP t c) K
  | .store T a x => pStore P m T (evP t a) (evP t x) K
  | .call c => match c.callee with
    | .builtin .append => match c.args.toList, c.argTypes.toList with
      | [s, x], [T, T'] => T = T' ∧ pAppend P m T (evP t s) (evP t x) K
      | _, _ => False
    | .value (.func f) => isFn P f ∧ pCall P f (c.args.toList.map (evP t)) m K
    | _ => popR P o t m fun p => K p m
  | _ => popR P o t m fun p => K p m
/-- A way that parts at c. -/
def gate (c : Bool) (y n : Prop) : Prop := (c = true → y) ∧ (c = false → n)
def putP (t : List PV) (d : Option Tmp) (p : PV) : List PV :=
  match d with
  | some d => t.set d p
  | none => t
def pops (P : Program) (ops : Array Oper) (K : List PV → Mem → Prop) : List Oper → List PV → Mem → Prop
  | [], t, m => K t m
  | o :: rest, t, m => match o.guard with
    | none => popA P o.op t m fun p m' => pops P ops K rest (putP t o.dst p) m'
    | some (j, b) => match (ops[j]?).bind (·.dst) with
      | none => pops P ops K rest (putP t o.dst .ud) m
      | some d => match t.getD d .un, b with
        | .v (.bool c), true => gate c (popA P o.op (t.set d (.v (.bool true))) m fun p m' => pops P ops K rest (putP (t.set d (.v (.bool true))) o.dst p) m') (pops P ops K rest (putP (t.set d (.v (.bool false))) o.dst .ud) m)
        | .v (.bool c), false => gate c (pops P ops K rest (putP (t.set d (.v (.bool true))) o.dst .ud) m) (popA P o.op (t.set d (.v (.bool false))) m fun p m' => pops P ops K rest (putP (t.set d (.v (.bool false))) o.dst p) m')
        | .ud, _ => pops P ops K rest (putP t o.dst .ud) m
        | _, _ => False

section
variable {w : World} {E : Env} {w0 : World} {m : Mem} {P : Program}

def Gives (P : Program) (w0 : World) (E : Env) (w : World) (a : Act) (o : Oper) (p : PV) (m' : Mem) : Prop :=
  ∀ (K : Act → World → Prop) (Q : Exit → Act → World → Prop), (∀ x w' E', Ok w0 E' w' m' → Ext w w' E E' → Rep w' E' p x → K (a.put o.dst x) w') → o.wp P a w K Q
theorem gives_v {a : Act} {o : Oper} {s : Sem Value} {p : PV} {m' : Mem} (he : execOp a.eval o = do pure (Next.value (← s))) (h : GivesV P w0 E w s p m') : Gives P w0 E w a o p m' := by
  obtain ⟨x, w', E', hrun, h1, h2, h3⟩ := h
  intro K Q hK
  unfold Oper.wp
  rw [he, run_v hrun]
  exact hK x w' E' h1 h2 h3
theorem gives_r (hk : Ok w0 E w m) {a : Act} {o : Oper} {p : PV} (h : GivesR P E w a o p) : Gives P w0 E w a o p m := by
  obtain ⟨x, hrun, h3⟩ := h
  intro K Q hK
  unfold Oper.wp
  rw [hrun w (Up.rfl' w)]
  exact hK x w E hk (Ext.refl w E) h3
theorem popA_sound (hk : Ok w0 E w m) {t : List PV} {a : Act} (ht : RepT w E t a.tmps) {o : Oper} {K : PV → Mem → Prop} (h : popA P o.op t m K) : ∃ p m', K p m' ∧ Gives P w0 E w a o p m' := by
  have ev := evP_rep ht
  have red : popR P o.op t m (fun p => K p m) → ∃ p m', K p m' ∧ Gives P w0 E w a o p m' := fun h => by
    obtain ⟨p, hK, hg⟩ := popR_sound hk ht h
    exact ⟨p, m, hK, gives_r hk hg⟩
  unfold popA at h
  split at h
  · rename_i T ho
    obtain ⟨p, m', hK, hg⟩ := pAlloc_sound (P := P) hk h
    exact ⟨p, m', hK, gives_v (by simp only [execOp, ho]) hg⟩
  · rename_i T x ho
    obtain ⟨p, m', hK, hg⟩ := pBox_sound (P := P) hk (ev x) h
    exact ⟨p, m', hK, gives_v (by simp only [execOp, ho]) hg⟩
  · rename_i T n ps ho
    obtain ⟨p, m', hK, hg⟩ := pBuildSlice_sound (P := P) hk (vs := ps.map fun (i, x) => (i, a.eval x)) (by simp) (fun j i p hj => by
      rw [List.getElem?_map] at hj
      cases hq : ps.toList[j]? with
      | none => rw [hq] at hj; cases hj
      | some q =>
        rw [hq] at hj
        simp only [Option.map_some, Option.some.injEq, Prod.mk.injEq] at hj
        obtain ⟨rfl, rfl⟩ := hj
        rw [Array.getElem?_toList] at hq
        exact ⟨a.eval q.2, by simp [hq], ev q.2⟩) h
    exact ⟨p, m', hK, gives_v (by simp only [execOp, ho]) hg⟩
  · rename_i T l c ho
    obtain ⟨p, m', hK, hg⟩ := pMake_sound (P := P) hk (ev l) (ev c) h
    exact ⟨p, m', hK, gives_v (by simp only [execOp, ho]) hg⟩
  · rename_i T x y ho
    obtain ⟨m', hK, w', hrun, h1, h2⟩ := pStore_sound (P := P) hk (ev x) (ev y) h
    refine ⟨_, m', hK, fun K Q hKK => ?_⟩
    unfold Oper.wp
    simp only [execOp, ho, Sem.run_bind, hrun, Result.andThen_ok, Sem.run_pure]
    exact hKK undef w' E h1 h2 (.c .ud)
  · rename_i c ho
    split at h
    · rename_i hc
      split at h
      · rename_i s x T T' hx hT
        obtain ⟨rfl, h⟩ := h
        obtain ⟨callee, args, argTypes⟩ := c
        have ha := array_two hx
        have hTs := array_two hT
        simp only at hc ha hTs
        subst hc ha hTs
        obtain ⟨p, m', hK, hg⟩ := pAppend_sound (P := P) (ty := o.type) hk (ev s) (ev x) h
        refine ⟨p, m', hK, gives_v ?_ hg⟩
        simp [execOp, ho, resolve, invoke, builtin]
      · exact h.elim
    · rename_i f hc
      obtain ⟨⟨fn, hf, hbody, hname⟩, h⟩ := h
      obtain ⟨callee, args, argTypes⟩ := c
      simp only at hc h
      subst hc
      obtain ⟨p, m', hK, hcall⟩ := pCall_sound (P := P) hk (vs := args.map a.eval) (by simp) (fun j p x hp hx => by
        rw [List.getElem?_map] at hp
        rw [Array.getElem?_map] at hx
        cases hq : args[j]? with
        | none => simp [hq] at hx
        | some q =>
          rw [Array.getElem?_toList, hq] at hp
          rw [hq] at hx
          simp only [Option.map_some, Option.some.injEq] at hp hx
          rw [← hp, ← hx]
          exact ev q) h
      refine ⟨p, m', hK, fun K Q hKK => ?_⟩
      have hrun : (execOp a.eval o).run P w = .ok (.enter f (args.map a.eval)) w := by
        have hname' : (fn.name = "runtime.NumGoroutine") = False := by simpa using hname
        have hbn' : (fn.body = none) = False := by
          simp only [eq_iff_iff, iff_false]
          intro hb; rw [hb] at hbody; cases hbody
        simp [execOp, ho, resolve, invoke, Act.eval, callFunc, Deferred.ofValue, hf, hname', hbn']
      unfold Oper.wp
      rw [hrun, Oper.upon_enter]
      refine hcall.mono ?_
      rintro e w' ⟨v, E', rfl, h1, h2, h3⟩
      exact hKK v w' E' h1 h2 h3
    · exact red h
  · exact red h

theorem RepT.ext {w' : World} {E' : Env} {t : List PV} {tm : Array Value} (h : RepT w E t tm) (hx : Ext w w' E E') : RepT w' E' t tm := ⟨h.1, fun i p hp => (h.2 i p hp).ext hx⟩
theorem RepT.put {t : List PV} {a : Act} (h : RepT w E t a.tmps) {p : PV} {x : Value} (hp : Rep w E p x) (d : Option Tmp) : RepT w E (putP t d p) (a.put d x).tmps := by
  cases d with
  | none => exact h
  | some d =>
    refine ⟨by simp [Act.put, putP, h.1], fun i q hq => ?_⟩
    simp only [putP] at hq
    simp only [Act.put]
    by_cases e : d = i
    · subst e
      have hd : d < t.length := by have := (List.getElem?_eq_some_iff.1 hq).1; simpa using this
      rw [List.getElem?_set_self hd] at hq
      cases hq
      have : (a.tmps.setIfInBounds d x).getD d undef = x := by simp [Array.getD, h.1, hd]
      rw [this]; exact hp
    · rw [List.getElem?_set_ne e] at hq
      have : (a.tmps.setIfInBounds d x).getD i undef = a.tmps.getD i undef := by
        rw [Array.getD_eq_getD_getElem?, Array.getD_eq_getD_getElem?, Array.getElem?_setIfInBounds_ne e]
      rw [this]; exact h.2 i q hq
theorem RepT.bool {t : List PV} {tm : Array Value} (h : RepT w E t tm) {d : Nat} {c : Bool} (hc : t.getD d .un = .v (.bool c)) : RepT w E (t.set d (.v (.bool c))) tm := by
  refine ⟨by simp [h.1], fun i q hq => ?_⟩
  by_cases e : d = i
  · subst e
    have hd : d < t.length := by have := (List.getElem?_eq_some_iff.1 hq).1; simpa using this
    rw [List.getElem?_set_self hd] at hq
    cases hq
    refine h.2 d _ ?_
    rw [← hc]
    simp [List.getD, List.getElem?_eq_getElem hd]
  · rw [List.getElem?_set_ne e] at hq
    exact h.2 i q hq
theorem guard_none {o : Oper} (h : o.guard = none) (y : Nat → Option Bool) : Region.wanted o y = true := by simp [Region.wanted, h]
theorem guard_no {ops : Array Oper} {o : Oper} {j : Nat} {b : Bool} (h : o.guard = some (j, b)) (hd : (ops[j]?).bind (·.dst) = none) (tm : Array Value) : Region.wanted o (yielded ops tm) = false := by
  simp [Region.wanted, h, yielded, hd]
theorem guard_bool {ops : Array Oper} {o : Oper} {j d : Nat} {b c : Bool} (h : o.guard = some (j, b)) (hd : (ops[j]?).bind (·.dst) = some d) {t : List PV} {tm : Array Value} (ht : RepT w E t tm) (hc : t.getD d .un = .v (.bool c)) : Region.wanted o (yielded ops tm) = (c == b) := by
  have hlt : d < t.length := by
    rcases Nat.lt_or_ge d t.length with h | h
    · exact h
    · simp [List.getD, List.getElem?_eq_none h] at hc
  have hrep := ht.2 d _ (List.getElem?_eq_getElem hlt)
  have hda : d < tm.size := by rw [ht.1]; exact hlt
  have e1 : tm.getD d undef = tm[d] := by simp [Array.getD, hda]
  have e2 : t.getD d .un = t[d] := by simp [List.getD, List.getElem?_eq_getElem hlt]
  rw [e1, ← e2, hc] at hrep
  have := hrep.v_inv.1
  simp only [Region.wanted, h, yielded, hd, Option.bind_some, Array.getElem?_eq_getElem hda, this]
  cases c <;> cases b <;> rfl
theorem guard_ud {ops : Array Oper} {o : Oper} {j d : Nat} {b : Bool} (h : o.guard = some (j, b)) (hd : (ops[j]?).bind (·.dst) = some d) {t : List PV} {tm : Array Value} (ht : RepT w E t tm) (hc : t.getD d .un = .ud) : Region.wanted o (yielded ops tm) = false := by
  have hlt : d < t.length := by
    rcases Nat.lt_or_ge d t.length with h | h
    · exact h
    · simp [List.getD, List.getElem?_eq_none h] at hc
  have hrep := ht.2 d _ (List.getElem?_eq_getElem hlt)
  have hda : d < tm.size := by rw [ht.1]; exact hlt
  have e1 : tm.getD d undef = tm[d] := by simp [Array.getD, hda]
  have e2 : t.getD d .un = t[d] := by simp [List.getD, List.getElem?_eq_getElem hlt]
  rw [e1, ← e2, hc] at hrep
  have hu : tm[d] = undef := by
    generalize tm[d] = z at hrep
    cases hrep with
    | c h => cases h; rfl
  simp only [Region.wanted, h, yielded, hd, Option.bind_some, Array.getElem?_eq_getElem hda, hu]
  rfl
/-- A region in the text's order. -/
theorem pops_sound {ops : Array Oper} {K : List PV → Mem → Prop} {Q : Exit → Act → World → Prop} : ∀ (l : List Oper) (t : List PV) (m : Mem) (E : Env) (w : World) (a : Act), Ok w0 E w m → a.defers = [] → RepT w E t a.tmps → pops P ops K l t m →
    (∀ t m E' w' (a' : Act), K t m → Ok w0 E' w' m → Ext w w' E E' → a'.defers = [] → RepT w' E' t a'.tmps → Q .normal a' w') → wpList P ops Q l a w
  | [], t, m, E, w, a, hk, hd, ht, h, hQ => hQ t m E w a h hk (Ext.refl w E) hd ht
  | o :: l, t, m, E, w, a, hk, hd, ht, h, hQ => by
    have hdd : ∀ x, (a.put o.dst x).defers = [] := fun x => by cases o.dst <;> exact hd
    have run : ∀ t', RepT w E t' a.tmps → Region.wanted o (yielded ops a.tmps) = true → popA P o.op t' m (fun p m' => pops P ops K l (putP t' o.dst p) m') → wpList P ops Q (o :: l) a w := by
      intro t' ht' hw h
      obtain ⟨p, m', hK, hg⟩ := popA_sound hk ht' h
      unfold wpList
      rw [if_pos hw]
      exact .inl (hg _ _ fun x w' E' h1 h2 h3 => pops_sound l _ m' E' w' _ h1 (hdd x) ((ht'.ext h2).put h3 o.dst) hK fun t m E2 w2 a2 k1 k2 k3 => hQ t m E2 w2 a2 k1 k2 (h2.trans k3))
    have pass : ∀ t', RepT w E t' a.tmps → Region.wanted o (yielded ops a.tmps) = false → pops P ops K l (putP t' o.dst .ud) m → wpList P ops Q (o :: l) a w := by
      intro t' ht' hw h
      unfold wpList
      rw [hw, if_neg (by simp)]
      exact pops_sound l _ m E w _ hk (hdd _) (ht'.put (.c .ud) o.dst) h hQ
    simp only [pops] at h
    split at h
    · rename_i hg; exact run t ht (guard_none hg _) h
    · rename_i j b hg
      split at h
      · rename_i hdn; exact pass t ht (guard_no hg hdn _) h
      · rename_i d hdn
        split at h
        · rename_i c hc
          have hb := guard_bool hg hdn ht hc
          cases c with
          | true => exact run _ (ht.bool hc) hb (h.1 rfl)
          | false => exact pass _ (ht.bool hc) hb (h.2 rfl)
        · rename_i c hc
          have hb := guard_bool hg hdn ht hc
          cases c with
          | true => exact pass _ (ht.bool hc) hb (h.1 rfl)
          | false => exact run _ (ht.bool hc) hb (h.2 rfl)
        · rename_i hc; exact pass t ht (guard_ud hg hdn ht hc) h
        · exact h.elim

/-- In a world above, all is as it was. -/
theorem Ok.above (h : Ok w0 E w m) {w' : World} (hu : Up w w') : Ok w0 E w' m ∧ Ext w w' E E := by
  have hx : Ext w w' E E := ⟨fun _ h => h, fun b o hb => cell_of_heap (hu.block b (h.sz b hb)), fun _ _ _ h => h, Nat.le_refl _, fun _ h => .inl h, hu.size⟩
  refine ⟨⟨Up.step hu h.up, fun b hb => Nat.lt_of_lt_of_le (h.sz b hb) hu.size, fun l B hB => ?_, h.inj, h.top, fun l mb hm => ?_, h.dom⟩, hx⟩
  · obtain ⟨a, b, c⟩ := h.own l B hB
    exact ⟨a, Nat.lt_of_lt_of_le b hu.size, c⟩
  · obtain ⟨B, hB, hb⟩ := h.mem l mb hm
    exact ⟨B, hB, hb.ext hx (hu.block _ (h.own l B hB).2.1)⟩

/-- A value that says itself what it is. -/
def valOf : PV → Option Value
  | .v x => some x
  | .ag cs => if cs.all isV then some (.agg (cs.map fun | .v x => x | _ => undef).toArray) else none
  | _ => none
theorem valOf_rep {p : PV} {x y : Value} (h : valOf p = some y) (hx : Rep w E p x) : x = y := by
  cases p with
  | v z => simp only [valOf, Option.some.injEq] at h; rw [← h]; exact hx.v_inv.1
  | ag cs =>
    simp only [valOf, Option.ite_none_right_eq_some, Option.some.injEq] at h
    obtain ⟨hall, rfl⟩ := h
    obtain ⟨vs, rfl, hl, h1, hr⟩ := hx.ag_inv
    congr 1
    apply Array.ext'
    apply List.ext_getElem?
    intro j
    rw [Array.getElem?_toList]
    simp only [List.getElem?_map]
    cases hc : cs[j]? with
    | none =>
      rw [Array.getElem?_eq_none (by rw [hl]; exact List.getElem?_eq_none_iff.1 hc)]
      rfl
    | some c =>
      have hj : j < vs.size := by rw [hl]; exact (List.getElem?_eq_some_iff.1 hc).1
      rw [Array.getElem?_eq_getElem hj]
      have hrep := hr j c _ hc (Array.getElem?_eq_getElem hj)
      have hone := h1 j _ (Array.getElem?_eq_getElem hj)
      have hv := List.all_eq_true.1 hall c (List.mem_of_getElem? hc)
      cases c with
      | v z => simp [hrep.v_inv.1]
      | ud => cases hrep with
        | c h => generalize vs[j] = z at h hone; cases h; simp [undef, Value.oneCell'] at hone
      | _ => simp [isV] at hv
  | _ => simp [valOf] at h

def pCallQ (P : Program) (f : FuncId) (ps : List PV) (m : Mem) (K : PV → Prop) : Prop := ∃ r, snapA m ps (fun qs => CallOk P f qs r []) ∧ (valOf r).isSome = true ∧ K r
/-- An operation in a region that draws its order: it reads only, or calls what gives a value that says itself. -/
def popQ (P : Program) (o : Op) (t : List PV) (m : Mem) (K : PV → Prop) : Prop :=
  match o with
  | .call c => match c.callee with
    | .value (.func f) => isFn P f ∧ pCallQ P f (c.args.toList.map (evP t)) m K
    | _ => popR P o t m K
  | _ => popR P o t m K
def pqs (P : Program) (ops : Array Oper) (m : Mem) (K : List PV → Prop) : List Oper → List PV → Prop
  | [], t => K t
  | o :: rest, t => match o.guard with
    | none => popQ P o.op t m fun p => pqs P ops m K rest (putP t o.dst p)
    | some (j, b) => match (ops[j]?).bind (·.dst) with
      | none => pqs P ops m K rest (putP t o.dst .ud)
      | some d => match t.getD d .un, b with
        | .v (.bool c), true => gate c (popQ P o.op (t.set d (.v (.bool true))) m fun p => pqs P ops m K rest (putP (t.set d (.v (.bool true))) o.dst p)) (pqs P ops m K rest (putP (t.set d (.v (.bool false))) o.dst .ud))
        | .v (.bool c), false => gate c (pqs P ops m K rest (putP (t.set d (.v (.bool true))) o.dst .ud)) (popQ P o.op (t.set d (.v (.bool false))) m fun p => pqs P ops m K rest (putP (t.set d (.v (.bool false))) o.dst p))
        | .ud, _ => pqs P ops m K rest (putP t o.dst .ud)
        | _, _ => False
theorem popQ_sound (hk : Ok w0 E w m) {t : List PV} {a : Act} (ht : RepT w E t a.tmps) {o : Oper} {K : PV → Prop} (h : popQ P o.op t m K) :
    ∃ p x, K p ∧ Rep w E p x ∧ ∀ w', Up w w' → o.quietAt P a (fun w'' => Up w w'') w' x := by
  have red : popR P o.op t m K → ∃ p x, K p ∧ Rep w E p x ∧ ∀ w', Up w w' → o.quietAt P a (fun w'' => Up w w'') w' x := fun h => by
    obtain ⟨p, hK, x, hrun, hrep⟩ := popR_sound hk ht h
    exact ⟨p, x, hK, hrep, fun w' hu => by unfold Oper.quietAt; rw [hrun w' hu]; exact ⟨rfl, rfl⟩⟩
  unfold popQ at h
  split at h
  · rename_i c ho
    split at h
    · rename_i f hc
      obtain ⟨⟨fn, hf, hbody, hname⟩, r, hs, hv, hK⟩ := h
      obtain ⟨callee, args, argTypes⟩ := c
      simp only at hc hs
      subst hc
      obtain ⟨y, hy⟩ := Option.isSome_iff_exists.1 hv
      have hrun : ∀ w', (execOp a.eval o).run P w' = .ok (.enter f (args.map a.eval)) w' := by
        intro w'
        have hname' : (fn.name = "runtime.NumGoroutine") = False := by simpa using hname
        have hbn' : (fn.body = none) = False := by
          simp only [eq_iff_iff, iff_false]
          intro hb; rw [hb] at hbody; cases hbody
        simp [execOp, ho, resolve, invoke, Act.eval, callFunc, Deferred.ofValue, hf, hname', hbn']
      have call : ∀ w', Up w w' → Calls P f (args.map a.eval) w' fun e w'' => e = .returned y ∧ Up w w'' := by
        intro w' hu
        obtain ⟨hk', hx'⟩ := hk.above hu
        have ev' := evP_rep (ht.ext hx')
        obtain ⟨ds, hc, hdl, hd⟩ := snapA_rep hk' (args.toList.map (evP t)) (args.map a.eval).toList _ (by simp) (fun j p x hp hx => by
          rw [List.getElem?_map] at hp
          rw [Array.getElem?_toList, Array.getElem?_map] at hx
          cases hq : args[j]? with
          | none => simp [hq] at hx
          | some q =>
            rw [Array.getElem?_toList, hq] at hp
            rw [hq] at hx
            simp only [Option.map_some, Option.some.injEq] at hp hx
            rw [← hp, ← hx]
            exact ev' q) hs
        have hsz : ∀ b, Sall E b → b < w'.heap.size := by
          rintro b (h | ⟨l, B, hB, rfl⟩)
          · exact hk'.sz b h
          · exact (hk'.own l B hB).2.1
        refine (hc (Sall E) w' (args.map a.eval) hsz (by simp [hdl]) fun i p hp => ?_).mono ?_
        · have hi : i < (args.map a.eval).size := by
            have := (List.getElem?_eq_some_iff.1 hp).1
            simpa [hdl] using this
          exact ⟨_, Array.getElem?_eq_getElem hi, hd i p _ hp (by rw [Array.getElem?_toList]; exact Array.getElem?_eq_getElem hi)⟩
        · rintro e w'' ⟨v, E', rfl, hok, _, _, hrep⟩
          rw [valOf_rep hy hrep]
          exact ⟨rfl, Up.step hok.up hu⟩
      have hr : Rep w E r y := by
        cases r with
        | v z =>
          simp only [valOf, Option.some.injEq] at hy
          subst hy
          obtain ⟨ds, hc, hdl, hd⟩ := snapA_rep hk (args.toList.map (evP t)) (args.map a.eval).toList _ (by simp) (fun j p x hp hx => by
            rw [List.getElem?_map] at hp
            rw [Array.getElem?_toList, Array.getElem?_map] at hx
            cases hq : args[j]? with
            | none => simp [hq] at hx
            | some q =>
              rw [Array.getElem?_toList, hq] at hp
              rw [hq] at hx
              simp only [Option.map_some, Option.some.injEq] at hp hx
              rw [← hp, ← hx]
              exact evP_rep ht q) hs
          have hsz : ∀ b, Sall E b → b < w.heap.size := by
            rintro b (h | ⟨l, B, hB, rfl⟩)
            · exact hk.sz b h
            · exact (hk.own l B hB).2.1
          have hcall := hc (Sall E) w (args.map a.eval) hsz (by simp [hdl]) fun i p hp => by
            have hi : i < (args.map a.eval).size := by
              have := (List.getElem?_eq_some_iff.1 hp).1
              simpa [hdl] using this
            exact ⟨_, Array.getElem?_eq_getElem hi, hd i p _ hp (by rw [Array.getElem?_toList]; exact Array.getElem?_eq_getElem hi)⟩
          obtain ⟨e, w', fr, ⟨v, E', rfl, hok, _, _, hrep⟩, _⟩ := hcall []
          obtain ⟨rfl, h1⟩ := hrep.v_inv
          exact .c (.v _ h1)
        | ag cs =>
          simp only [valOf, Option.ite_none_right_eq_some, Option.some.injEq] at hy
          obtain ⟨hall, rfl⟩ := hy
          obtain ⟨ds, hc, hdl, hd⟩ := snapA_rep hk (args.toList.map (evP t)) (args.map a.eval).toList _ (by simp) (fun j p x hp hx => by
            rw [List.getElem?_map] at hp
            rw [Array.getElem?_toList, Array.getElem?_map] at hx
            cases hq : args[j]? with
            | none => simp [hq] at hx
            | some q =>
              rw [Array.getElem?_toList, hq] at hp
              rw [hq] at hx
              simp only [Option.map_some, Option.some.injEq] at hp hx
              rw [← hp, ← hx]
              exact evP_rep ht q) hs
          have hsz : ∀ b, Sall E b → b < w.heap.size := by
            rintro b (h | ⟨l, B, hB, rfl⟩)
            · exact hk.sz b h
            · exact (hk.own l B hB).2.1
          have hcall := hc (Sall E) w (args.map a.eval) hsz (by simp [hdl]) fun i p hp => by
            have hi : i < (args.map a.eval).size := by
              have := (List.getElem?_eq_some_iff.1 hp).1
              simpa [hdl] using this
            exact ⟨_, Array.getElem?_eq_getElem hi, hd i p _ hp (by rw [Array.getElem?_toList]; exact Array.getElem?_eq_getElem hi)⟩
          obtain ⟨e, w', fr, ⟨v, E', rfl, hok, _, _, hrep⟩, _⟩ := hcall []
          have hv := valOf_rep (y := .agg (cs.map fun | .v x => x | _ => undef).toArray) (by simp only [valOf, hall, if_true]) hrep
          subst hv
          obtain ⟨vs, e, hl, h1, hr⟩ := hrep.ag_inv
          injection e with e
          subst e
          refine .ag cs _ hl h1 fun j p x hp hx => ?_
          have hone := h1 j x hx
          have hv := List.all_eq_true.1 hall p (List.mem_of_getElem? hp)
          have hrp := hr j p x hp hx
          cases p with
          | v z => obtain ⟨rfl, h2⟩ := hrp.v_inv; exact .c (.v _ h2)
          | ud => cases hrp with
            | c h => cases h; exact .c .ud
          | _ => simp [isV] at hv
        | _ => simp [valOf] at hy
      refine ⟨r, y, hK, hr, fun w' hu => ?_⟩
      unfold Oper.quietAt
      rw [hrun w']
      exact ⟨rfl, call w' hu⟩
    · exact red h
  · exact red h
theorem pqs_sound (hk : Ok w0 E w m) {ops : Array Oper} {K : List PV → Prop} : ∀ (l : List Oper) (t : List PV) (a : Act), a.defers = [] → RepT w E t a.tmps → pqs P ops m K l t →
    wpQuiet P ops (fun w' => Up w w') (fun a' => ∃ t', K t' ∧ a'.defers = [] ∧ RepT w E t' a'.tmps) l a
  | [], t, a, hd, ht, h => ⟨t, h, hd, ht⟩
  | o :: l, t, a, hd, ht, h => by
    have hdd : ∀ x, (a.put o.dst x).defers = [] := fun x => by cases o.dst <;> exact hd
    have run : ∀ t', RepT w E t' a.tmps → Region.wanted o (yielded ops a.tmps) = true → popQ P o.op t' m (fun p => pqs P ops m K l (putP t' o.dst p)) → wpQuiet P ops (fun w' => Up w w') (fun a' => ∃ t', K t' ∧ a'.defers = [] ∧ RepT w E t' a'.tmps) (o :: l) a := by
      intro t' ht' hw h
      obtain ⟨p, x, hK, hrep, hq⟩ := popQ_sound hk ht' h
      unfold wpQuiet
      rw [if_pos hw]
      exact ⟨x, hq, pqs_sound hk l _ _ (hdd x) (ht'.put hrep o.dst) hK⟩
    have pass : ∀ t', RepT w E t' a.tmps → Region.wanted o (yielded ops a.tmps) = false → pqs P ops m K l (putP t' o.dst .ud) → wpQuiet P ops (fun w' => Up w w') (fun a' => ∃ t', K t' ∧ a'.defers = [] ∧ RepT w E t' a'.tmps) (o :: l) a := by
      intro t' ht' hw h
      unfold wpQuiet
      rw [hw, if_neg (by simp)]
      exact pqs_sound hk l _ _ (hdd _) (ht'.put (.c .ud) o.dst) h
    simp only [pqs] at h
    split at h
    · rename_i hg; exact run t ht (guard_none hg _) h
    · rename_i j b hg
      split at h
      · rename_i hdn; exact pass t ht (guard_no hg hdn _) h
      · rename_i d hdn
        split at h
        · rename_i c hc
          have hb := guard_bool hg hdn ht hc
          cases c with
          | true => exact run _ (ht.bool hc) hb (h.1 rfl)
          | false => exact pass _ (ht.bool hc) hb (h.2 rfl)
        · rename_i c hc
          have hb := guard_bool hg hdn ht hc
          cases c with
          | true => exact pass _ (ht.bool hc) hb (h.1 rfl)
          | false => exact run _ (ht.bool hc) hb (h.2 rfl)
        · rename_i hc; exact pass t ht (guard_ud hg hdn ht hc) h
        · exact h.elim
end
end Go.Proofs.Ytooikkfldddjfaa
