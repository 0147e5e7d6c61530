/- The layer of plain values: each operation that only reads, and that the model does just that. No program in sight. -/
import Derived.Test.YtooikkfldddjfaaPl2
namespace Go.Proofs.Ytooikkfldddjfaa
set_option maxRecDepth 10000
open Go.RowKit

/-- Two values of one cell under an operator. -/
def binV (P : Program) (op : BinOp) (T : TypeId) : Value → Value → Option Value
  | .int k a, .int k' b =>
    match op with
    | .shl => if 0 ≤ b then some (.int k (k.wrap (a * 2 ^ (min b.toNat k.bits)))) else none
    | .shr => if 0 ≤ b then some (.int k (a.fdiv (2 ^ (min b.toNat k.bits)))) else none
    | .add => if k = k' then some (.int k (k.wrap (a + b))) else none
    | .sub => if k = k' then some (.int k (k.wrap (a - b))) else none
    | .mul => if k = k' then some (.int k (k.wrap (a * b))) else none
    | .quo => if k = k' ∧ b ≠ 0 then some (.int k (k.wrap (a.tdiv b))) else none
    | .rem => if k = k' ∧ b ≠ 0 then some (.int k (a.tmod b)) else none
    | .and => if k = k' then some (.int k (k.wrap (BitVec.ofInt k.bits a &&& BitVec.ofInt k.bits b).toNat)) else none
    | .or => if k = k' then some (.int k (k.wrap (BitVec.ofInt k.bits a ||| BitVec.ofInt k.bits b).toNat)) else none
    | .xor => if k = k' then some (.int k (k.wrap (BitVec.ofInt k.bits a ^^^ BitVec.ofInt k.bits b).toNat)) else none
    | .eql => if k = k' then some (.bool (a == b)) else none
    | .neq => if k = k' then some (.bool (a != b)) else none
    | .lss => if k = k' then some (.bool (decide (a < b))) else none
    | .leq => if k = k' then some (.bool (decide (a ≤ b))) else none
    | .gtr => if k = k' then some (.bool (decide (a > b))) else none
    | .geq => if k = k' then some (.bool (decide (a ≥ b))) else none
    | _ => none
  | .string a, .string b =>
    match op with
    | .add => if a.size + b.size ≤ 9223372036854775807 then some (.string (a ++ b)) else none
    | .eql => some (.bool (a.toList == b.toList))
    | .neq => some (.bool !(a.toList == b.toList))
    | .lss => some (.bool (Op.bytesLess a.toList b.toList))
    | .leq => some (.bool (Op.bytesLess a.toList b.toList || a.toList == b.toList))
    | .gtr => some (.bool !(Op.bytesLess a.toList b.toList || a.toList == b.toList))
    | .geq => some (.bool !(Op.bytesLess a.toList b.toList))
    | _ => none
  | .bool a, .bool b => match P.underlying T with
    | some .bool => match op with
      | .eql => some (.bool (a == b))
      | .neq => some (.bool !(a == b))
      | _ => none
    | _ => none
  | _, _ => none
theorem binV_run {P : Program} {op : BinOp} {T : TypeId} {x y : Operand} {a b r : Value} (h : binV P op T a b = some r) (w : World) :
    ((do eqGuard op T x y a b; binOp op T a b : Sem Value).run P w) = .ok r w ∧ r.oneCell' = true := by
  unfold binV at h
  split at h
  · rename_i k a k' b
    cases op <;> simp only [Option.ite_none_right_eq_some, Option.some.injEq, reduceCtorEq] at h
    all_goals first
      | (obtain ⟨⟨rfl, h0⟩, rfl⟩ := h; simp [eqGuard, binOp, Op.intDiv, h0, Value.oneCell']; done)
      | (obtain ⟨rfl, rfl⟩ := h; simp [eqGuard, binOp, Op.intArith, Op.intBits, Op.intCmp, Value.oneCell']; done)
      | (obtain ⟨h0, rfl⟩ := h
         have h1 : ¬ b < 0 := by omega
         simp [eqGuard, binOp, Op.shift, h1, Value.oneCell']; done)
  · rename_i a b
    cases op <;> simp only [Option.ite_none_right_eq_some, Option.some.injEq, reduceCtorEq] at h
    all_goals first
      | (subst h; simp [eqGuard, binOp, Op.stringOp, Value.oneCell']; done)
      | (obtain ⟨h0, rfl⟩ := h
         have h1 : ¬ IntKind.i64.max < ((a.size + b.size : Nat) : Int) := by
           have : IntKind.i64.max = 9223372036854775807 := rfl
           rw [this]; omega
         simp only [eqGuard, binOp, Op.stringOp]
         simp [Value.oneCell']
         omega)
  · rename_i a b
    split at h
    · rename_i hu
      cases op <;> simp only [Option.some.injEq, reduceCtorEq] at h
      all_goals (subst h; simp [eqGuard, binOp, Op.equal, Op.maxDepth, run_equalIn_bool' w _ _ _ _ hu, Value.oneCell'])
    · cases h
  · cases h

/-- Are two values of type T, given by their cells, equal? -/
def eqT (P : Program) : Nat → TypeId → List PV → List PV → Option Bool
  | 0, _, _, _ => none
  | d + 1, T, cs, ds =>
    match P.underlying T with
    | some .bool => match cs, ds with
      | .v (.bool a) :: _, .v (.bool b) :: _ => some (a == b)
      | _, _ => none
    | some (.int _) => match cs, ds with
      | .v (.int k a) :: _, .v (.int k' b) :: _ => if k = k' then some (a == b) else none
      | _, _ => none
    | some .string => match cs, ds with
      | .v (.string a) :: _, .v (.string b) :: _ => some (a.toList == b.toList)
      | _, _ => none
    | some (.struct _) => if P.stoodInHeld T then none else
      (P.fieldsOf T).toList.foldr (fun f acc => if f.name = "_" then none else match eqT P d f.type ((cs.drop f.offset).take (P.cellsOf f.type)) ((ds.drop f.offset).take (P.cellsOf f.type)), acc with
        | some r, some s => some (r && s)
        | _, _ => none) (some true)
    | _ => none

section
variable {w : World} {E : Env} {w0 : World} {m : Mem} {P : Program}
def HasCells (w : World) (E : Env) (P : Program) (T : TypeId) (cs : List PV) (x : Value) : Prop :=
  ∀ d, P.underlying T = some d → (aggd d = true → ∃ vs : Array Value, x = .agg vs ∧ ∀ (j : Nat) (p : PV), cs[j]? = some p → ∃ v, vs[j]? = some v ∧ Rep w E p v) ∧ (aggd d = false → ∀ p, cs[0]? = some p → Rep w E p x)
theorem eqT_run : ∀ (d : Nat) (T : TypeId) (cs ds : List PV) (x y : Value) (r : Bool), eqT P d T cs ds = some r → HasCells w E P T cs x → HasCells w E P T ds y → ∀ w' : World, (Op.equalIn d T x y).run P w' = .ok r w'
  | 0, _, _, _, _, _, _, h, _, _, _ => by simp [eqT] at h
  | d + 1, T, cs, ds, x, y, r, h, hx, hy, w' => by
    unfold eqT at h
    split at h
    · rename_i hu
      split at h
      · rename_i a _ b _
        have h1 := ((hx _ hu).2 rfl _ rfl).v_inv.1
        have h2 := ((hy _ hu).2 rfl _ rfl).v_inv.1
        subst h1 h2
        simp only [Option.some.injEq] at h
        subst h
        exact run_equalIn_bool' w' _ _ _ _ hu
      · cases h
    · rename_i k0 hu
      split at h
      · rename_i k a _ k' b _
        simp only [Option.ite_none_right_eq_some, Option.some.injEq] at h
        obtain ⟨rfl, rfl⟩ := h
        have h1 := ((hx _ hu).2 rfl _ rfl).v_inv.1
        have h2 := ((hy _ hu).2 rfl _ rfl).v_inv.1
        subst h1 h2
        simp [Op.equalIn, run_underlying hu]
      · cases h
    · rename_i hu
      split at h
      · rename_i a _ b _
        have h1 := ((hx _ hu).2 rfl _ rfl).v_inv.1
        have h2 := ((hy _ hu).2 rfl _ rfl).v_inv.1
        subst h1 h2
        simp only [Option.some.injEq] at h
        subst h
        exact run_equalIn_string w' _ _ _ _ hu
      · cases h
    · rename_i fs hu
      simp only [Option.ite_none_left_eq_some] at h
      obtain ⟨hst, h⟩ := h
      have hst' : P.stoodInHeld T = false := by simpa using hst
      obtain ⟨vs, rfl, hvs⟩ := (hx _ hu).1 rfl
      obtain ⟨us, rfl, hus⟩ := (hy _ hu).1 rfl
      have hf : P.fieldsOf T = fs := by simp [Program.fieldsOf, hu]
      rw [run_equalIn_struct w' d T vs us (by rw [hf]; exact hu) hst', hf]
      rw [hf] at h
      generalize fs.toList = l at h
      clear hu hf
      induction l generalizing r with
      | nil => simp only [List.foldr_nil, Option.some.injEq] at h; subst h; simp [Op.eqFields]
      | cons f l ih =>
        simp only [List.foldr_cons, Option.ite_none_left_eq_some] at h
        obtain ⟨hn, h⟩ := h
        split at h
        · rename_i r1 r2 h1 h2
          simp only [Option.some.injEq] at h
          subst h
          have part_of : ∀ {zs : Array Value} {es : List PV}, (∀ (j : Nat) (p : PV), es[j]? = some p → ∃ v, zs[j]? = some v ∧ Rep w E p v) → ((es.drop f.offset).take (P.cellsOf f.type)) ≠ [] ∨ (∃ fs, P.underlying f.type = some (.struct fs)) →
              (∃ dd, P.underlying f.type = some dd) → ∃ z, (part f.type zs f.offset).run P w' = .ok z w' ∧ HasCells w E P f.type ((es.drop f.offset).take (P.cellsOf f.type)) z := by
            intro zs es hz hne ⟨dd, hd⟩
            obtain ⟨i, hi, hs, _⟩ := info_of hd
            cases hag : aggd dd with
            | true =>
              refine ⟨.agg (zs.extract f.offset (f.offset + P.cellsOf f.type)), by simp [part, run_isAgg hd, hag, run_sizeOf hi, hs], ?_⟩
              intro d' hd'
              rw [hd] at hd'; cases hd'
              refine ⟨fun _ => ⟨_, rfl, fun j p hp => ?_⟩, fun h => by rw [hag] at h; cases h⟩
              rw [List.getElem?_take] at hp
              split at hp
              · rename_i hj
                rw [List.getElem?_drop] at hp
                obtain ⟨v, h1, h2⟩ := hz _ p hp
                refine ⟨v, ?_, h2⟩
                have := (Array.getElem?_eq_some_iff.1 h1).1
                rw [Array.getElem?_extract, if_pos (by omega)]
                exact h1
              · cases hp
            | false =>
              have hne' : ((es.drop f.offset).take (P.cellsOf f.type)) ≠ [] := by
                rcases hne with h | ⟨fs, h⟩
                · exact h
                · rw [hd] at h; cases h; simp [aggd] at hag
              obtain ⟨p, hp⟩ : ∃ p, ((es.drop f.offset).take (P.cellsOf f.type))[0]? = some p := by
                cases hq : ((es.drop f.offset).take (P.cellsOf f.type)) with
                | nil => exact absurd hq hne'
                | cons a _ => exact ⟨a, rfl⟩
              have hp' : es[f.offset]? = some p := by
                rw [List.getElem?_take] at hp
                split at hp
                · simpa using hp
                · cases hp
              obtain ⟨v, h1, h2⟩ := hz _ p hp'
              refine ⟨v, by simp [part, run_isAgg hd, hag, h1], ?_⟩
              intro d' hd'
              rw [hd] at hd'; cases hd'
              refine ⟨fun h => (by rw [hag] at h; cases h), fun _ q hq => ?_⟩
              rw [hp] at hq; cases hq
              exact h2
          have hshape : (((cs.drop f.offset).take (P.cellsOf f.type)) ≠ [] ∨ (∃ fs, P.underlying f.type = some (.struct fs))) ∧ (((ds.drop f.offset).take (P.cellsOf f.type)) ≠ [] ∨ (∃ fs, P.underlying f.type = some (.struct fs))) ∧ ∃ dd, P.underlying f.type = some dd := by
            cases d with
            | zero => simp [eqT] at h1
            | succ d =>
              unfold eqT at h1
              split at h1
              · rename_i hu'
                split at h1
                · rename_i e1 e2; exact ⟨.inl (by rw [e1]; simp), .inl (by rw [e2]; simp), _, hu'⟩
                · cases h1
              · rename_i hu'
                split at h1
                · rename_i e1 e2; exact ⟨.inl (by rw [e1]; simp), .inl (by rw [e2]; simp), _, hu'⟩
                · cases h1
              · rename_i hu'
                split at h1
                · rename_i e1 e2; exact ⟨.inl (by rw [e1]; simp), .inl (by rw [e2]; simp), _, hu'⟩
                · cases h1
              · rename_i fs' hu'
                exact ⟨.inr ⟨fs', hu'⟩, .inr ⟨fs', hu'⟩, _, hu'⟩
              · cases h1
          obtain ⟨a, ha, hac⟩ := part_of hvs hshape.1 hshape.2.2
          obtain ⟨b, hb, hbc⟩ := part_of hus hshape.2.1 hshape.2.2
          have hr := eqT_run d f.type _ _ a b r1 h1 hac hbc w'
          simp only [Op.eqFields, hn, ne_eq, not_false_eq_true, if_true, Sem.run_bind, ha, hb, hr, Result.andThen_ok, Sem.run_ite]
          cases r1 with
          | true => simpa using ih r2 h2
          | false => simp
        · cases h
    · cases h

def pBin (P : Program) (op : BinOp) (T : TypeId) (x y : PV) (K : PV → Prop) : Prop :=
  match x, y with
  | .v a, .v b => match binV P op T a b with
    | some r => K (.v r)
    | none => False
  | .ag cs, .ag ds => P.eqGuardType P.depth T = false ∧ match P.underlying T, eqT P 10000 T cs ds with
    | some (.struct _), some r => match op with
      | .eql => K (.v (.bool r))
      | .neq => K (.v (.bool !r))
      | _ => False
    | _, _ => False
  | _, _ => False
theorem pBin_sound {op : BinOp} {T : TypeId} {ox oy : Operand} {p q : PV} {x y : Value} (hx : Rep w E p x) (hy : Rep w E q y) {K : PV → Prop} (h : pBin P op T p q K) :
    ∃ r v, K r ∧ (∀ w', ((do eqGuard op T ox oy x y; binOp op T x y : Sem Value).run P w') = .ok v w') ∧ Rep w E r v := by
  unfold pBin at h
  split at h
  · rename_i a b
    obtain ⟨rfl, _⟩ := hx.v_inv
    obtain ⟨rfl, _⟩ := hy.v_inv
    split at h
    · rename_i r hr
      exact ⟨_, r, h, fun w' => (binV_run hr w').1, .c (.v r (binV_run (x := ox) (y := oy) hr w).2)⟩
    · exact h.elim
  · rename_i cs ds
    obtain ⟨hg, h⟩ := h
    obtain ⟨vs, rfl, hl, _, hr⟩ := hx.ag_inv
    obtain ⟨us, rfl, hl', _, hr'⟩ := hy.ag_inv
    split at h
    · rename_i fs r hu he
      have c1 : HasCells w E P T cs (.agg vs) := by
        intro d hd
        rw [hu] at hd; cases hd
        refine ⟨fun _ => ⟨vs, rfl, fun j p hp => ?_⟩, fun h => by simp [aggd] at h⟩
        have hj : j < vs.size := by rw [hl]; exact (List.getElem?_eq_some_iff.1 hp).1
        exact ⟨vs[j], Array.getElem?_eq_getElem hj, hr j p _ hp (Array.getElem?_eq_getElem hj)⟩
      have c2 : HasCells w E P T ds (.agg us) := by
        intro d hd
        rw [hu] at hd; cases hd
        refine ⟨fun _ => ⟨us, rfl, fun j p hp => ?_⟩, fun h => by simp [aggd] at h⟩
        have hj : j < us.size := by rw [hl']; exact (List.getElem?_eq_some_iff.1 hp).1
        exact ⟨us[j], Array.getElem?_eq_getElem hj, hr' j p _ hp (Array.getElem?_eq_getElem hj)⟩
      have hrun := fun w' => eqT_run (w := w) (E := E) 10000 T cs ds _ _ r he c1 c2 w'
      split at h
      · exact ⟨_, .bool r, h, fun w' => by simp only [Sem.run_bind, run_eqGuard_agg w' _ _ _ _ _ _ hg, Result.andThen_ok, run_eql_struct, hrun], .c (.v _ rfl)⟩
      · exact ⟨_, .bool !r, h, fun w' => by simp only [Sem.run_bind, run_eqGuard_agg w' _ _ _ _ _ _ hg, Result.andThen_ok, run_neq_struct, hrun], .c (.v _ rfl)⟩
      · exact h.elim
    · exact h.elim
  · exact h.elim
end
end Go.Proofs.Ytooikkfldddjfaa
