/- The layer of plain values: code, loops, a function's body. No program in sight. -/
import Derived.Test.YtooikkfldddjfaaPlB
namespace Go.Proofs.Ytooikkfldddjfaa
set_option maxRecDepth 10000
open Go.RowKit

/-- r may stand for p, under other names of the own rows (ρ: the new name's old name). -/
def cutC (ρ : Nat → Nat) (m m' : Mem) (p r : PV) : Prop :=
  r = .un ∨ (isC r = true ∧ p = r) ∨ (∃ l, r = .ms l ∧ p = .ms (ρ l) ∧ l < m'.length) ∨ (∃ l i o, r = .be l i o ∧ p = .be (ρ l) i o ∧ l < m'.length) ∨
  (∃ c, p = .v (.slice none 0 c) ∧ r = .sl []) ∨
  (∃ l mb, p = .ms l ∧ m[l]? = some (some mb) ∧ r = .sl mb.es ∧ (∀ cs ∈ mb.es, ∀ q ∈ cs, isC q = true) ∧ ∀ l', (∃ mb', m'[l']? = some (some mb')) → ρ l' ≠ l)
def cutL (ρ : Nat → Nat) (m m' : Mem) : List PV → List PV → Prop
  | [], [] => True
  | p :: ps, r :: rs => cutC ρ m m' p r ∧ cutL ρ m m' ps rs
  | _, _ => False
def cutA (ρ : Nat → Nat) (m m' : Mem) (p r : PV) : Prop :=
  match p, r with
  | .ag cs, .ag ds => cutL ρ m m' cs ds
  | p, r => cutC ρ m m' p r
def cutAs (ρ : Nat → Nat) (m m' : Mem) : List PV → List PV → Prop
  | [], [] => True
  | p :: ps, r :: rs => cutA ρ m m' p r ∧ cutAs ρ m m' ps rs
  | _, _ => False
def cutV (ρ : Nat → Nat) (m m' : Mem) (p r : PV) : Prop :=
  match p, r with
  | .tu cs, .tu ds => cutAs ρ m m' cs ds
  | p, r => cutA ρ m m' p r
def cutT (ρ : Nat → Nat) (m m' : Mem) : List PV → List PV → Prop
  | [], [] => True
  | p :: ps, r :: rs => cutV ρ m m' p r ∧ cutT ρ m m' ps rs
  | _, _ => False
def cutE (ρ : Nat → Nat) (m m' : Mem) : List (List PV) → List (List PV) → Prop
  | [], [] => True
  | p :: ps, r :: rs => cutL ρ m m' p r ∧ cutE ρ m m' ps rs
  | _, _ => False
def cutB (ρ : Nat → Nat) (m m' : Mem) (mb mb' : MB) : Prop :=
  mb'.T = mb.T ∧ mb'.k = mb.k ∧ ((mb'.es = mb.es ∧ ∀ cs ∈ mb.es, ∀ q ∈ cs, isC q = true) ∨ cutE ρ m m' mb.es mb'.es)
def cutM (ρ : Nat → Nat) (m m' : Mem) : Prop :=
  (∀ l mb', m'[l]? = some (some mb') → ∃ mb, m[ρ l]? = some (some mb) ∧ cutB ρ m m' mb mb') ∧
  ∀ l l', (∃ mb, m'[l]? = some (some mb)) → (∃ mb, m'[l']? = some (some mb)) → ρ l = ρ l' → l = l'
/-- The state (t, m) may be seen as (t', m'). -/
def Cut (t : List PV) (m : Mem) (t' : List PV) (m' : Mem) : Prop := ∃ ρ : Nat → Nat, cutT ρ m m' t t' ∧ cutM ρ m m'

def thenP (K : List PV → Mem → Prop) (Q : Exit → List PV → Mem → Prop) : Exit → List PV → Mem → Prop
  | .normal, t, m => K t m
  | e, t, m => Q e t m
def blockP (id : Nat) (Q : Exit → List PV → Mem → Prop) : Exit → List PV → Mem → Prop
  | .exit i, t, m => if i = id then Q .normal t m else Q (.exit i) t m
  | e, t, m => Q e t m
/-- The orders in which the operations of a region may come: what may come first, what behind it, and what else may come first. -/
inductive OT where
  | nil
  | cons (i : Nat) (sub rest : OT)
def OT.sz : OT → Nat
  | .nil => 0
  | .cons _ sub rest => sub.sz + rest.sz + 1
def OT.isNil : OT → Bool
  | .nil => true
  | _ => false
def OT.heads : OT → List Nat
  | .nil => []
  | .cons i _ rest => i :: rest.heads
def OT.okT (ops : Array Oper) : OT → Array Bool → Bool
  | .nil, _ => true
  | .cons i sub rest, listed => Region.ready .any ops (listed.setIfInBounds i true) == sub.heads && sub.okT ops (listed.setIfInBounds i true) && rest.okT ops listed
def OT.okD : OT → Nat → Bool
  | .nil, _ => true
  | .cons _ _ _, 0 => false
  | .cons _ sub rest, n + 1 => sub.okD n && rest.okD (n + 1)
def pSibs (P : Program) (ops : Array Oper) (K : List PV → Mem → Prop) : OT → List PV → Mem → Prop
  | .nil, _, _ => True
  | .cons i sub rest, t, m => (match ops[i]? with
      | some o => pops P ops (fun t m => match sub.isNil with
        | true => K t m
        | false => pSibs P ops K sub t m) [o] t m
      | none => False) ∧ pSibs P ops K rest t m
def pTree (P : Program) (ops : Array Oper) (K : List PV → Mem → Prop) (T : OT) (t : List PV) (m : Mem) : Prop :=
  T.okD ops.size = true ∧ T.okT ops (Array.replicate ops.size false) = true ∧ (Region.ready .any ops (Array.replicate ops.size false) == T.heads) = true ∧ T.isNil = false ∧ pSibs P ops K T t m
/-- What plain code does. -/
def pwp (P : Program) : Code → (Exit → List PV → Mem → Prop) → List PV → Mem → Prop
  | .skip, Q, t, m => Q .normal t m
  | .seq a b, Q, t, m => pwp P a (thenP (fun t m => pwp P b Q t m) Q) t m
  | .cond c x y, Q, t, m => match evP t c with
      | .v (.bool b) => if b = true then pwp P x Q t m else pwp P y Q t m
      | _ => False
  | .block id c, Q, t, m => pwp P c (blockP id Q) t m
  | .loop c, Q, t, m => ∃ (I : Nat → List PV → Mem → Prop) (n : Nat) (t0 : List PV) (m0 : Mem), Cut t m t0 m0 ∧ I n t0 m0 ∧ ∀ n t m, I n t m → pwp P c (thenP (fun t m => ∃ k t' m', k < n ∧ Cut t m t' m' ∧ I k t' m') Q) t m
  | .exit i, Q, t, m => Q (.exit i) t m
  | .ret, Q, t, m => Q .ret t m
  | .region _ ops draw, Q, t, m => match draw with
      | false => pops P ops (Q .normal) ops.toList t m
      | true => P.follows .mixedOrders = true ∧ ((Region.lexB .any ops = true ∧ pqs P ops m (fun t => Q .normal t m) ops.toList t) ∨ ∃ T, pTree P ops (Q .normal) T t m)
  | _, _, _, _ => False

def RepSt (w0 : World) (S0 : Nat → Prop) (t : List PV) (m : Mem) (a : Act) (w : World) : Prop := ∃ E, Ok w0 E w m ∧ (∀ b, S0 b → E.S b) ∧ (∀ b, E.S b → S0 b ∨ w0.heap.size ≤ b) ∧ a.defers = [] ∧ RepT w E t a.tmps

section
variable {w : World} {E : Env} {w0 : World} {S0 : Nat → Prop} {m m' : Mem} {P : Program} {ρ : Nat → Nat}

def liveB (m : Mem) (l : Nat) : Bool := match m[l]? with
  | some (some _) => true
  | _ => false
theorem liveB_iff {l : Nat} : liveB m l = true ↔ ∃ mb, m[l]? = some (some mb) := by
  unfold liveB
  split
  · rename_i mb h; simp [h]
  · rename_i h
    simp only [Bool.false_eq_true, false_iff]
    rintro ⟨mb, hm⟩
    exact h mb hm
def cutEnv (E : Env) (ρ : Nat → Nat) (m' : Mem) : Env :=
  { S := fun b => E.S b ∨ ∃ l B, E.β l = some B ∧ B.b = b ∧ ∀ l', (∃ mb', m'[l']? = some (some mb')) → ρ l' ≠ l
    β := fun l => if liveB m' l = true then E.β (ρ l) else none
    top := m'.length }
theorem cutC_rep (hk : Ok w0 E w m) {p r : PV} (h : cutC ρ m m' p r) {x : Value} (hx : Rep w E p x) (h1 : x.oneCell' = true ∨ r = .un ∨ isC r = true) : Rep w (cutEnv E ρ m') r x := by
  have one : ∀ {l : Nat}, p = .ms l → x.oneCell' = true := fun e => by
    subst e
    cases hx with
    | c h => cases h
    | ms _ _ _ h => exact h
  have one2 : ∀ {l i o : Nat}, p = .be l i o → x.oneCell' = true := fun e => by
    subst e
    cases hx with
    | c h => cases h
    | be _ _ _ _ _ h => exact h
  have beta : ∀ {l : Nat} {B : Blk}, (cutEnv E ρ m').β l = some B → E.β (ρ l) = some B := by
    intro l B hB
    simp only [cutEnv] at hB
    split at hB
    · exact hB
    · cases hB
  rcases h with rfl | ⟨hc, rfl⟩ | ⟨l, rfl, rfl, hl⟩ | ⟨l, i, o, rfl, rfl, hl⟩ | ⟨c, rfl, rfl⟩ | ⟨l, mb, rfl, hm, rfl, hcl, hno⟩
  · exact .un' x
  · exact .c ((hx.toC hc).all fun b hb => .inl hb)
  · refine .ms l x hl (one rfl) fun B hB => ?_
    cases hx with
    | c h => cases h
    | ms _ _ _ _ h => exact h B (beta hB)
  · refine .be l i o x hl (one2 rfl) fun B hB => ?_
    cases hx with
    | c h => cases h
    | be _ _ _ _ _ _ h => exact h B (beta hB)
  · obtain ⟨rfl, _⟩ := hx.v_inv
    exact .c (.nil none c)
  · obtain ⟨B, hB, hb, rfl⟩ := hx.ms_inv hk hm
    obtain ⟨cells, m1, m2, m3⟩ := hb.mem
    have hex : ∀ ij : Nat × Nat, ∃ u : Value, ∀ cs p, mb.es[ij.1]? = some cs → cs[ij.2]? = some p → cells[ij.1 * B.k + ij.2]? = some u ∧ u.oneCell' = true ∧ RepC w (cutEnv E ρ m').S p u := by
      intro ⟨i, j⟩
      cases hi : mb.es[i]? with
      | none => exact ⟨undef, fun cs p h => by simp [hi] at h⟩
      | some cs =>
        cases hj : cs[j]? with
        | none => exact ⟨undef, fun cs' p h h' => by simp only [hi, Option.some.injEq] at h; subst h; simp [hj] at h'⟩
        | some p =>
          obtain ⟨u, u1, u2, u3⟩ := m3 i cs j p hi hj
          refine ⟨u, fun cs' p' h h' => ?_⟩
          simp only [hi, Option.some.injEq] at h
          subst h
          simp only [hj, Option.some.injEq] at h'
          subst h'
          exact ⟨u1, u2, (u3.toC (hcl cs (List.mem_of_getElem? hi) p (List.mem_of_getElem? hj))).all fun b hb => .inl hb⟩
    obtain ⟨f, hf⟩ := Classical.axiomOfChoice hex
    rw [hb.n]
    exact .c (.sl mb.es B.b 0 B.k B.c (fun i j => f (i, j)) (.inr ⟨l, B, hB, rfl, hno⟩) hb.pos (by rw [← hb.n]; exact hb.nc) hb.cm hb.es
      (fun i cs j p hi hj => by rw [cell_of_row w B.b _ cells B.T (0, 0) m1, Nat.zero_add]; exact (hf (i, j) cs p hi hj).1) (fun i cs j p hi hj => (hf (i, j) cs p hi hj).2.1) fun i cs j p hi hj => (hf (i, j) cs p hi hj).2.2)
theorem cutC_rep' (hk : Ok w0 E w m) {p r : PV} (h : cutC ρ m m' p r) {x : Value} (hx : Rep w E p x) : Rep w (cutEnv E ρ m') r x := by
  rcases h with h | h | h | h | h | h
  · exact cutC_rep hk (.inl h) hx (.inr (.inl h))
  · exact cutC_rep hk (.inr (.inl h)) hx (.inr (.inr h.1))
  · refine cutC_rep hk (.inr (.inr (.inl h))) hx (.inl ?_)
    obtain ⟨l, rfl, rfl, hl⟩ := h
    cases hx with
    | c h => cases h
    | ms _ _ _ h => exact h
  · refine cutC_rep hk (.inr (.inr (.inr (.inl h)))) hx (.inl ?_)
    obtain ⟨l, i, o, rfl, rfl, hl⟩ := h
    cases hx with
    | c h => cases h
    | be _ _ _ _ _ h => exact h
  · refine cutC_rep hk (.inr (.inr (.inr (.inr (.inl h))))) hx (.inr (.inr ?_))
    obtain ⟨c, rfl, rfl⟩ := h
    rfl
  · refine cutC_rep hk (.inr (.inr (.inr (.inr (.inr h))))) hx (.inr (.inr ?_))
    obtain ⟨l, mb, rfl, hm, rfl, hcl, hno⟩ := h
    rfl
theorem cutL_get : ∀ {ps rs : List PV}, cutL ρ m m' ps rs → rs.length = ps.length ∧ ∀ (j : Nat) (r : PV), rs[j]? = some r → ∃ p, ps[j]? = some p ∧ cutC ρ m m' p r
  | [], [], _ => ⟨rfl, by simp⟩
  | [], _ :: _, h => h.elim
  | _ :: _, [], h => h.elim
  | p :: ps, r :: rs, h => by
    obtain ⟨h1, h2⟩ := cutL_get h.2
    refine ⟨by simp [h1], fun j q hq => ?_⟩
    cases j with
    | zero => obtain rfl : r = q := by simpa using hq
              exact ⟨p, rfl, h.1⟩
    | succ j => exact h2 j q (by simpa using hq)
theorem cutA_rep (hk : Ok w0 E w m) {p r : PV} (h : cutA ρ m m' p r) {x : Value} (hx : Rep w E p x) : Rep w (cutEnv E ρ m') r x := by
  unfold cutA at h
  split at h
  · obtain ⟨vs, rfl, hl, h1, hr⟩ := hx.ag_inv
    obtain ⟨e1, e2⟩ := cutL_get h
    refine .ag _ vs (by rw [hl, e1]) h1 fun j r x hr' hx' => ?_
    obtain ⟨p, hp, hc⟩ := e2 j r hr'
    exact cutC_rep' hk hc (hr j p x hp hx')
  · exact cutC_rep' hk h hx
theorem cutAs_get : ∀ {ps rs : List PV}, cutAs ρ m m' ps rs → rs.length = ps.length ∧ ∀ (j : Nat) (r : PV), rs[j]? = some r → ∃ p, ps[j]? = some p ∧ cutA ρ m m' p r
  | [], [], _ => ⟨rfl, by simp⟩
  | [], _ :: _, h => h.elim
  | _ :: _, [], h => h.elim
  | p :: ps, r :: rs, h => by
    obtain ⟨h1, h2⟩ := cutAs_get h.2
    refine ⟨by simp [h1], fun j q hq => ?_⟩
    cases j with
    | zero => obtain rfl : r = q := by simpa using hq
              exact ⟨p, rfl, h.1⟩
    | succ j => exact h2 j q (by simpa using hq)
theorem cutV_rep (hk : Ok w0 E w m) {p r : PV} (h : cutV ρ m m' p r) {x : Value} (hx : Rep w E p x) : Rep w (cutEnv E ρ m') r x := by
  unfold cutV at h
  split at h
  · obtain ⟨vs, rfl, hl, hr⟩ := hx.tu_inv
    obtain ⟨e1, e2⟩ := cutAs_get h
    refine .tu _ vs (by rw [hl, e1]) fun j r x hr' hx' => ?_
    obtain ⟨p, hp, hc⟩ := e2 j r hr'
    exact cutA_rep hk hc (hr j p x hp hx')
  · exact cutA_rep hk h hx
theorem cutT_get : ∀ {ps rs : List PV}, cutT ρ m m' ps rs → rs.length = ps.length ∧ ∀ (j : Nat) (r : PV), rs[j]? = some r → ∃ p, ps[j]? = some p ∧ cutV ρ m m' p r
  | [], [], _ => ⟨rfl, by simp⟩
  | [], _ :: _, h => h.elim
  | _ :: _, [], h => h.elim
  | p :: ps, r :: rs, h => by
    obtain ⟨h1, h2⟩ := cutT_get h.2
    refine ⟨by simp [h1], fun j q hq => ?_⟩
    cases j with
    | zero => obtain rfl : r = q := by simpa using hq
              exact ⟨p, rfl, h.1⟩
    | succ j => exact h2 j q (by simpa using hq)
theorem cutE_get : ∀ {ps rs : List (List PV)}, cutE ρ m m' ps rs → rs.length = ps.length ∧ ∀ (j : Nat) (r : List PV), rs[j]? = some r → ∃ p, ps[j]? = some p ∧ cutL ρ m m' p r
  | [], [], _ => ⟨rfl, by simp⟩
  | [], _ :: _, h => h.elim
  | _ :: _, [], h => h.elim
  | p :: ps, r :: rs, h => by
    obtain ⟨h1, h2⟩ := cutE_get h.2
    refine ⟨by simp [h1], fun j q hq => ?_⟩
    cases j with
    | zero => obtain rfl : r = q := by simpa using hq
              exact ⟨p, rfl, h.1⟩
    | succ j => exact h2 j q (by simpa using hq)
theorem Ok.cut (hk : Ok w0 E w m) (h : cutM ρ m m') : Ok w0 (cutEnv E ρ m') w m' := by
  have beta : ∀ {l : Nat} {B : Blk}, (cutEnv E ρ m').β l = some B → (∃ mb, m'[l]? = some (some mb)) ∧ E.β (ρ l) = some B := by
    intro l B hB
    simp only [cutEnv] at hB
    split at hB
    · rename_i hl; exact ⟨liveB_iff.1 hl, hB⟩
    · cases hB
  refine ⟨hk.up, ?_, fun l B hB => ?_, fun l l' B B' hB hB' e => ?_, rfl, fun l mb' hm' => ?_, fun l B hB => (beta hB).1⟩
  · rintro b (hb | ⟨l, B, hB, rfl, _⟩)
    · exact hk.sz b hb
    · exact (hk.own l B hB).2.1
  · obtain ⟨hl, hB'⟩ := beta hB
    obtain ⟨a, b, c⟩ := hk.own _ B hB'
    refine ⟨a, b, ?_⟩
    rintro (hS | ⟨l2, B2, hB2, e, hno⟩)
    · exact c hS
    · exact hno l hl (hk.inj _ _ B B2 hB' hB2 e.symm)
  · obtain ⟨hl, h1⟩ := beta hB
    obtain ⟨hl', h2⟩ := beta hB'
    exact h.2 l l' hl hl' (hk.inj _ _ B B' h1 h2 e)
  · obtain ⟨mb, hm, hT, hkk, hes⟩ := h.1 l mb' hm'
    obtain ⟨B, hB, hb⟩ := hk.mem _ mb hm
    obtain ⟨cells, m1, m2, m3⟩ := hb.mem
    refine ⟨B, by simp only [cutEnv]; rw [if_pos (liveB_iff.2 ⟨mb', hm'⟩)]; exact hB, by rw [hb.k, hkk], ?_, by rw [hb.T, hT], hb.pos, hb.nc, hb.cm, ?_, cells, m1, m2, ?_⟩
    · rcases hes with ⟨e, _⟩ | he
      · rw [hb.n, e]
      · rw [hb.n, (cutE_get he).1]
    · intro i ds hi
      rcases hes with ⟨e, _⟩ | he
      · rw [e] at hi; exact hb.es i ds hi
      · obtain ⟨cs, hcs, hc⟩ := (cutE_get he).2 i ds hi
        rw [(cutL_get hc).1]; exact hb.es i cs hcs
    · intro i ds j r hi hj
      rcases hes with ⟨e, hcl⟩ | he
      · rw [e] at hi
        obtain ⟨x, x1, x2, x3⟩ := m3 i ds j r hi hj
        exact ⟨x, x1, x2, .c ((x3.toC (hcl ds (List.mem_of_getElem? hi) r (List.mem_of_getElem? hj))).all fun b hb => .inl hb)⟩
      · obtain ⟨cs, hcs, hc⟩ := (cutE_get he).2 i ds hi
        obtain ⟨p, hp, hc'⟩ := (cutL_get hc).2 j r hj
        obtain ⟨x, x1, x2, x3⟩ := m3 i cs j p hcs hp
        exact ⟨x, x1, x2, cutC_rep' hk hc' x3⟩
theorem RepSt.cut {t t' : List PV} {a : Act} (h : RepSt w0 S0 t m a w) (hc : Cut t m t' m') : RepSt w0 S0 t' m' a w := by
  obtain ⟨E, hk, hs1, hs2, hd, ht⟩ := h
  obtain ⟨ρ, h1, h2⟩ := hc
  obtain ⟨e1, e2⟩ := cutT_get h1
  exact ⟨cutEnv E ρ m', hk.cut h2, fun b hb => .inl (hs1 b hb), fun b hb => by
    rcases hb with hb | ⟨l, B, hB, rfl, _⟩
    · exact hs2 b hb
    · exact .inr (hk.own l B hB).1, hd, by rw [ht.1, e1], fun i r hr => by
    obtain ⟨p, hp, hcv⟩ := e2 i r hr
    exact cutV_rep hk hcv (ht.2 i p hp)⟩

theorem wp_loop_n {c : Code} {Q : Exit → Act → World → Prop} (I : Nat → Act → World → Prop) (round : ∀ n a w, I n a w → c.wp P (Exit.then (fun a' w' => ∃ k, k < n ∧ I k a' w') Q) a w) {n : Nat} {a : Act} {w : World} (h0 : I n a w) : (Code.loop c).wp P Q a w := by
  intro b k cs
  have key : ∀ n a w, I n a w → ∃ e a' w', Q e a' w' ∧ Arrives P (lone (b.at a (.code c :: .inLoop c :: k)) cs w) b k cs e a' w' := by
    intro n
    induction n using Nat.strongRecOn with
    | _ n ih =>
      intro a w hI
      obtain ⟨e, a₁, w₁, hq, harr⟩ := round n a w hI b (.inLoop c :: k) cs
      cases e with
      | normal =>
        obtain ⟨j, hlt, hI₁⟩ := hq
        obtain ⟨e₂, a₂, w₂, hq₂, harr₂⟩ := ih j hlt a₁ w₁ hI₁
        exact ⟨e₂, a₂, w₂, hq₂, .of_steps (Steps.trans harr (.one step_inLoop)) harr₂⟩
      | exit id => exact ⟨_, a₁, w₁, hq, .pass (x := .inLoop c) rfl (fun _ _ => .inl (by simp)) harr⟩
      | goto l => exact ⟨_, a₁, w₁, hq, .pass (x := .inLoop c) rfl (fun _ _ => .inl (by simp)) harr⟩
      | ret => exact ⟨_, a₁, w₁, hq, .pass (x := .inLoop c) rfl (fun _ _ => .inl (by simp)) harr⟩
      | panic ch => exact ⟨_, a₁, w₁, hq, .pass (x := .inLoop c) rfl (fun _ _ => .inl (by simp)) harr⟩
      | outgrown => exact ⟨_, a₁, w₁, hq, .pass (x := .inLoop c) rfl (fun _ _ => .inl (by simp)) harr⟩
  obtain ⟨e, a', w', hq, harr⟩ := key n a w h0
  exact ⟨e, a', w', hq, .of_steps (.one step_loop) harr⟩

theorem OT.heads_sub {ops : Array Oper} {K : List PV → Mem → Prop} {t : List PV} {m : Mem} {listed : Array Bool} {n : Nat} : ∀ (T : OT) (i : Nat), i ∈ T.heads → pSibs P ops K T t m → T.okT ops listed = true → T.okD (n + 1) = true →
    ∃ sub : OT, sub.sz < T.sz ∧ (Region.ready .any ops (listed.setIfInBounds i true) == sub.heads) = true ∧ sub.okT ops (listed.setIfInBounds i true) = true ∧ sub.okD n = true ∧
      ∃ o, ops[i]? = some o ∧ pops P ops (fun t m => match sub.isNil with
        | true => K t m
        | false => pSibs P ops K sub t m) [o] t m
  | .nil, i, hi, _, _, _ => by simp [OT.heads] at hi
  | .cons j sub rest, i, hi, hp, hT, hD => by
    simp only [OT.okT, Bool.and_eq_true] at hT
    simp only [OT.okD, Bool.and_eq_true] at hD
    simp only [pSibs] at hp
    simp only [OT.heads, List.mem_cons] at hi
    rcases hi with rfl | hi
    · refine ⟨sub, by simp only [OT.sz]; omega, hT.1.1, hT.1.2, hD.1, ?_⟩
      split at hp
      · rename_i o ho; exact ⟨o, ho, hp.1⟩
      · exact hp.1.elim
    · obtain ⟨sub', h1, h2⟩ := OT.heads_sub rest i hi hp.2 hT.2 hD.2
      exact ⟨sub', by simp only [OT.sz] at *; omega, h2⟩
theorem wpOp_of_list {ops : Array Oper} {Q : Exit → Act → World → Prop} {K : Act → World → Prop} {i : Nat} {o : Oper} {a : Act} (ho : ops[i]? = some o) (h : wpList P ops (Exit.then K Q) [o] a w) : wpOp P ops Q i K a w := by
  unfold wpOp
  rw [ho]
  unfold wpList at h
  split at h
  · rename_i hw
    simp only [hw, if_true]
    exact h
  · rename_i hw
    simp only [hw]
    exact h
theorem tree_sound {ops : Array Oper} {K : List PV → Mem → Prop} {Q : Exit → Act → World → Prop} (hQ : ∀ t m a w, K t m → RepSt w0 S0 t m a w → Q .normal a w) : ∀ (N : Nat) (T : OT), T.sz < N → ∀ (fuel : Nat) (listed : Array Bool) (t : List PV) (m : Mem) (a : Act) (w : World), RepSt w0 S0 t m a w →
    T.okD fuel = true → T.okT ops listed = true → Region.ready .any ops listed = T.heads → (match T.isNil with
      | true => K t m
      | false => pSibs P ops K T t m) → wpAny P .any ops Q fuel listed a w
  | 0, _, h => absurd h (Nat.not_lt_zero _)
  | N + 1, .nil, _ => fun fuel listed t m a w hr _ _ hh hp => by
    have h0 : Region.ready .any ops listed = [] := hh
    cases fuel with
    | zero => exact ⟨h0, hQ t m a w hp hr⟩
    | succ n => exact ⟨fun _ => hQ t m a w hp hr, fun i hi => by rw [h0] at hi; cases hi⟩
  | N + 1, .cons j sub rest, hN => fun fuel listed t m a w hr hD hT hh hp => by
    cases fuel with
    | zero => simp [OT.okD] at hD
    | succ n =>
      refine ⟨fun h => (by rw [hh] at h; simp [OT.heads] at h), fun i hi => ?_⟩
      rw [hh] at hi
      obtain ⟨sub', hs, h1, h2, h3, o, ho, h4⟩ := OT.heads_sub (.cons j sub rest) i hi hp hT hD
      obtain ⟨E, hk, hs1, hs2, hd, ht⟩ := hr
      refine wpOp_of_list ho (pops_sound [o] t m E w a hk hd ht h4 ?_)
      intro t' m' E' w' a' hK hk' hx' hd' ht'
      refine tree_sound hQ N sub' (by omega) n _ t' m' a' w' ⟨E', hk', fun b hb => hx'.S b (hs1 b hb), fun b hb => ?_, hd', ht'⟩ h3 h2 (by simpa using h1) hK
      rcases hx'.S' b hb with hb | hb
      · exact hs2 b hb
      · exact .inr (Nat.le_trans hk.up.size hb)
/-- A post on plain states, said of the model's. -/
def liftQ (w0 : World) (S0 : Nat → Prop) (Q : Exit → List PV → Mem → Prop) : Exit → Act → World → Prop := fun e a w => ∃ t m, Q e t m ∧ RepSt w0 S0 t m a w
theorem pwp_sound : ∀ (c : Code) (Q : Exit → List PV → Mem → Prop) (t : List PV) (m : Mem) (a : Act) (w : World), pwp P c Q t m → RepSt w0 S0 t m a w → c.wp P (liftQ w0 S0 Q) a w
  | .skip, Q, t, m, a, w, h, hr => wp_skip ⟨t, m, h, hr⟩
  | .seq x y, Q, t, m, a, w, h, hr => by
    refine wp_seq (Code.wp_mono ?_ (pwp_sound x _ t m a w h hr))
    rintro e a w ⟨t, m, hq, hr⟩
    cases e with
    | normal => exact pwp_sound y Q t m a w hq hr
    | _ => exact ⟨t, m, hq, hr⟩
  | .cond c x y, Q, t, m, a, w, h, hr => by
    simp only [pwp] at h
    split at h
    · rename_i b hb
      have hr' := hr
      obtain ⟨E, hk, _, _, hd, ht⟩ := hr'
      have hv := evP_rep ht c
      rw [hb] at hv
      have hv := hv.v_inv.1
      cases b with
      | true => exact wp_cond_true hv (pwp_sound x Q t m a w (by simpa using h) hr)
      | false => exact wp_cond_false hv (pwp_sound y Q t m a w (by simpa using h) hr)
    · exact h.elim
  | .block id c, Q, t, m, a, w, h, hr => by
    refine wp_block (Code.wp_mono ?_ (pwp_sound c _ t m a w h hr))
    rintro e a w ⟨t, m, hq, hr⟩
    cases e with
    | exit i =>
      simp only [Exit.inBlock]
      simp only [blockP] at hq
      split
      · rename_i hi; rw [if_pos hi] at hq; exact ⟨t, m, hq, hr⟩
      · rename_i hi; rw [if_neg hi] at hq; exact ⟨t, m, hq, hr⟩
    | _ => exact ⟨t, m, hq, hr⟩
  | .loop c, Q, t, m, a, w, h, hr => by
    obtain ⟨I, n, t0, m0, hcut, hI, hround⟩ := h
    refine wp_loop_n (fun n a w => ∃ t m, I n t m ∧ RepSt w0 S0 t m a w) ?_ ⟨t0, m0, hI, hr.cut hcut⟩
    rintro n a w ⟨t, m, hI, hr⟩
    refine Code.wp_mono ?_ (pwp_sound c _ t m a w (hround n t m hI) hr)
    rintro e a w ⟨t, m, hq, hr⟩
    cases e with
    | normal =>
      obtain ⟨k, t', m', hlt, hcut, hI⟩ := hq
      exact ⟨k, hlt, t', m', hI, hr.cut hcut⟩
    | _ => exact ⟨t, m, hq, hr⟩
  | .exit i, Q, t, m, a, w, h, hr => wp_exit ⟨t, m, h, hr⟩
  | .ret, Q, t, m, a, w, h, hr => wp_ret ⟨t, m, h, hr⟩
  | .region id ops draw, Q, t, m, a, w, h, hr => by
    obtain ⟨E, hk, hs1, hs2, hd, ht⟩ := hr
    cases draw with
    | false =>
      refine wp_region_list (pops_sound ops.toList t m E w a hk hd ht h ?_)
      intro t m E' w' a' hK h1 hx h2 h3
      exact ⟨t, m, hK, E', h1, fun b hb => hx.S b (hs1 b hb), fun b hb => by
        rcases hx.S' b hb with hb | hb
        · exact hs2 b hb
        · exact .inr (Nat.le_trans hk.up.size hb), h2, h3⟩
    | true =>
      obtain ⟨h1, ⟨h2, h3⟩ | ⟨T, hD, hT, hh, hn, hp⟩⟩ := h
      · refine wp_region_quiet (C := fun w' => Up w w') h1 h2 (Up.dr1 (Up.rfl' w)) ?_
        have := pqs_sound hk ops.toList t a hd ht h3
        refine wpQuiet_imp ?_ ops.toList a this
        rintro a' ⟨t', hq, hd', ht'⟩ w' hu
        obtain ⟨hk', hx'⟩ := hk.above hu
        exact ⟨t', m, hq, E, hk', hs1, hs2, hd', ht'.ext hx'⟩
      · have hu : Up w { w with drawn := w.drawn + 1 } := Up.dr1 (Up.rfl' w)
        obtain ⟨hk', hx'⟩ := hk.above hu
        refine wp_region_any h1 (tree_sound (S0 := S0) (K := Q .normal) (fun t m a w hq hr => ⟨t, m, hq, hr⟩) (T.sz + 1) T (Nat.lt_succ_self _) _ _ t m a _ ⟨E, hk', hs1, hs2, hd, ht.ext hx'⟩ hD hT (by simpa using hh) ?_)
        rw [hn]; exact hp
  | .scope _, _, _, _, _, _, h, _ => h.elim
  | .label _, _, _, _, _, _, h, _ => h.elim
  | .goto _, _, _, _, _, _, h, _ => h.elim
  | .rangeFunc .., _, _, _, _, _, h, _ => h.elim
  | .refuse _, _, _, _, _, _, h, _ => h.elim
where
  wpQuiet_imp {ops : Array Oper} {C : World → Prop} {Q Q' : Act → Prop} (hq : ∀ a, Q a → Q' a) : ∀ (l : List Oper) (a : Act), wpQuiet P ops C Q l a → wpQuiet P ops C Q' l a
    | [], a, h => hq a h
    | o :: l, a, h => by
      unfold wpQuiet at *
      split
      · rename_i hw
        rw [if_pos hw] at h
        exact Oper.quiet_mono (fun a h => wpQuiet_imp hq l a h) h
      · rename_i hw
        rw [if_neg hw] at h
        exact wpQuiet_imp hq l _ h

/-- The results, as a return finds them. -/
def resP (P : Program) : List ResultVar → List PV → Mem → (List PV → Prop) → Prop
  | [], _, _, K => K []
  | .tmp i :: rest, t, m, K => resP P rest t m fun ps => K (t.getD i .un :: ps)
  | .cell i T :: rest, t, m, K => pLoad P T (rdp m (t.getD i .un)) fun p => resP P rest t m fun ps => K (p :: ps)
def oneP : List PV → PV
  | [p] => p
  | ps => .tu ps
def Fin (P : Program) (fn : Func) (r : PV) (m' : Mem) (t : List PV) (m : Mem) : Prop := resP P fn.results.toList t m fun ps => Cut [oneP ps] m [r] m'
theorem resP_sound (hk : Ok w0 E w m) {t : List PV} {a : Act} (ht : RepT w E t a.tmps) : ∀ (rs : List ResultVar) (K : List PV → Prop), resP P rs t m K →
    ∃ ps vs, K ps ∧ (rs.mapM fun (r : ResultVar) => (match r with
      | .tmp t => pure (a.tmps.getD t undef)
      | .cell b T => do loadVar T (← asAddr (a.tmps.getD b undef)) : Sem Value)).run P w = .ok vs w ∧ vs.length = ps.length ∧ ps.length = rs.length ∧ ∀ (j : Nat) (p : PV) (x : Value), ps[j]? = some p → vs[j]? = some x → Rep w E p x
  | [], K, h => ⟨[], [], h, by simp, rfl, rfl, by simp⟩
  | .tmp i :: rest, K, h => by
    obtain ⟨ps, vs, hK, hrun, hl, hl2, hr⟩ := resP_sound hk ht rest _ h
    refine ⟨_, a.tmps.getD i undef :: vs, hK, ?_, by simp [hl], by simp [hl2], fun j p x hp hx => ?_⟩
    · simp only [List.mapM_cons, Sem.run_bind, Sem.run_pure, Result.andThen_ok]
      rw [hrun]
      rfl
    · cases j with
      | zero =>
        simp only [List.getElem?_cons_zero, Option.some.injEq] at hp hx
        subst hp hx
        exact evP_rep ht (.tmp i)
      | succ j => exact hr j p x (by simpa using hp) (by simpa using hx)
  | .cell i T :: rest, K, h => by
    simp only [resP] at h
    cases hp : rdp m (t.getD i .un) with
    | none => rw [hp] at h; unfold pLoad at h; split at h <;> first | exact h.elim | simp_all
    | some cs =>
      rw [hp] at h
      obtain ⟨b, off, hx, hb, hc⟩ := rdp_rep hk (evP_rep ht (.tmp i)) hp
      obtain ⟨p, v, hK, hrunl, hrep⟩ := pLoad_mem h hb hc
      obtain ⟨ps, vs, hK, hrun, hl, hl2, hr⟩ := resP_sound hk ht rest _ hK
      simp only [Act.eval] at hx
      refine ⟨_, v :: vs, hK, ?_, by simp [hl], by simp [hl2], fun j p x hp hx => ?_⟩
      · have hasA : (asAddr (a.tmps.getD i undef)).run P w = .ok ⟨b, off, none⟩ w := by rw [hx]; rfl
        simp only [List.mapM_cons, Sem.run_bind, hasA, Sem.run_pure, Result.andThen_ok, hrunl w (Up.rfl' w)]
        rw [hrun]
        rfl
      · cases j with
        | zero =>
          simp only [List.getElem?_cons_zero, Option.some.injEq] at hp hx
          subst hp hx
          exact hrep
        | succ j => exact hr j p x (by simpa using hp) (by simpa using hx)
theorem Fin_sound (hk : Ok w0 E w m) {t : List PV} {a : Act} (ht : RepT w E t a.tmps) {fn : Func} {r : PV} (h : Fin P fn r m' t m) :
    ∃ v E', (results fn a.tmps).run P w = .ok v w ∧ Ok w0 E' w m' ∧ (∀ b, E.S b → E'.S b) ∧ (∀ b, E'.S b → E.S b ∨ w0.heap.size ≤ b) ∧ Rep w E' r v := by
  obtain ⟨ps, vs, hcut, hrun, hl, hl2, hr⟩ := resP_sound hk ht _ _ h
  obtain ⟨ρ, h1, h2⟩ := hcut
  have hres : (results fn a.tmps).run P w = .ok (match vs with | [v] => v | vs => .tuple vs.toArray) w := by
    unfold results
    rw [Array.mapM_eq_mapM_toList, Sem.run_bind, Sem.run_map]
    refine (congrArg (fun r => (Result.andThen r fun (a : List Value) w' => Result.ok a.toArray w').andThen _) hrun).trans ?_
    simp only [Result.andThen_ok, Sem.run_pure]
    match vs with
    | [] => simp
    | [v] => simp
    | _ :: _ :: _ => simp
  refine ⟨_, cutEnv E ρ m', hres, hk.cut h2, fun b hb => .inl hb, ?_, ?_⟩
  · rintro b (hb | ⟨l, B, hB, rfl, _⟩)
    · exact .inl hb
    · exact .inr (hk.own l B hB).1
  · refine cutV_rep hk h1.1 ?_
    match vs, ps, hl with
    | [v], [p], _ => exact hr 0 p v rfl rfl
    | [], [], _ => exact .tu _ _ (by simp) (by simp)
    | v :: v' :: vs, p :: p' :: ps, hl => exact .tu _ _ (by simpa using hl) fun j q x hq hx => hr j q x hq (by simpa using hx)

/-- A function's contract, out of its body's plain walk. -/
theorem callOk_body {f : FuncId} {fn : Func} {c : Code} (hf : P.funcs[f]? = some fn) (hb : fn.body = some c) {args : List PV} {r : PV} {m' : Mem}
    (h : pwp P c (fun e t m => (e = .ret ∨ e = .normal) ∧ Fin P fn r m' t m) (args ++ List.replicate (fn.ntmps - args.length) .ud) []) : CallOk P f args r m' := by
  intro S w vs hS hl hargs
  have hk : Ok w (E0 S) w [] := ⟨Up.rfl' w, hS, by simp [E0], by simp [E0], rfl, by simp, by simp [E0]⟩
  refine calls_of_wp hf hb (Code.wp_mono ?_ (pwp_sound (w0 := w) (S0 := S) c _ _ [] _ w h ⟨E0 S, hk, fun b hb => hb, fun b hb => .inl hb, rfl, by simp [hl], fun i p hp => ?_⟩))
  · rintro e a w' ⟨t, m, ⟨he, hfin⟩, E, hk, hs1, hs2, hd, ht⟩
    obtain ⟨v, E', hrun, h1, h2, h3, h4⟩ := Fin_sound hk ht hfin
    have key : bodyPost P fn (fun e w' => ∃ v E', e = .returned v ∧ Ok w E' w' m' ∧ (∀ b, S b → E'.S b) ∧ (∀ b, E'.S b → S b ∨ w.heap.size ≤ b) ∧ Rep w' E' r v) .ret a w' :=
      ⟨hd, v, hrun, v, E', rfl, h1, fun b hb => h2 b (hs1 b hb), fun b hb => by
        rcases h3 b hb with hb | hb
        · exact hs2 b hb
        · exact .inr hb, h4⟩
    rcases he with rfl | rfl
    · exact key
    · exact key
  · rcases Nat.lt_or_ge i args.length with hi | hi
    · rw [List.getElem?_append_left hi] at hp
      obtain ⟨x, hx, hr⟩ := hargs i p hp
      have hiv : i < vs.size := by rw [hl]; exact hi
      have e : (vs ++ Array.replicate (fn.ntmps - vs.size) undef).getD i undef = x := by
        rw [Array.getD_eq_getD_getElem?, Array.getElem?_append_left hiv, hx]; rfl
      rw [e]; exact hr
    · rw [List.getElem?_append_right hi] at hp
      have hlt := (List.getElem?_eq_some_iff.1 hp).1
      rw [List.length_replicate] at hlt
      rw [List.getElem?_replicate, if_pos hlt] at hp
      cases hp
      have e : (vs ++ Array.replicate (fn.ntmps - vs.size) undef).getD i undef = undef := by
        rw [Array.getD_eq_getD_getElem?, Array.getElem?_append_right (by omega)]
        simp only [Array.getElem?_replicate]
        split <;> rfl
      rw [e]; exact .c .ud
end
end Go.Proofs.Ytooikkfldddjfaa
