/- The layer of plain values: calls. No program in sight. -/
import Derived.Test.YtooikkfldddjfaaPl9
namespace Go.Proofs.Ytooikkfldddjfaa
set_option maxRecDepth 10000
open Go.RowKit

def shC (n : Nat) : PV → PV
  | .ms l => .ms (n + l)
  | .be l i o => .be (n + l) i o
  | p => p
def shA (n : Nat) : PV → PV
  | .ag cs => .ag (cs.map (shC n))
  | p => shC n p
def shV (n : Nat) : PV → PV
  | .tu vs => .tu (vs.map (shA n))
  | p => shA n p
/-- All cells of a value meet G. -/
def forA (G : PV → Prop) : PV → Prop
  | .ag cs => ∀ c ∈ cs, G c
  | .tu _ => False
  | p => G p
def forV (G : PV → Prop) : PV → Prop
  | .tu vs => ∀ v ∈ vs, forA G v
  | p => forA G p

section
variable {w : World} {E : Env} {w0 : World} {m : Mem} {P : Program}

theorem isC_sh {n : Nat} {p : PV} (h : isC p = true) : shC n p = p := by cases p <;> simp_all [isC, shC]
theorem shC_rep {w' : World} {E' E2 : Env} {n : Nat} {G : PV → Prop} (hβ : ∀ l, E2.β (n + l) = E'.β l) (htop : n + E'.top ≤ E2.top) (hS : ∀ p x, G p → RepC w' E'.S p x → RepC w' E2.S p x) {p : PV} {x : Value}
    (h : Rep w' E' p x) (hp : G p) (hna : ∀ cs, p ≠ .ag cs) (hnt : ∀ cs, p ≠ .tu cs) : Rep w' E2 (shC n p) x := by
  cases h with
  | c h =>
    have : shC n p = p := by cases h <;> rfl
    rw [this]
    exact .c (hS p x hp h)
  | ms l _ hl h1 h => exact .ms _ _ (by omega) h1 fun B hB => h B (by rw [← hβ]; exact hB)
  | be l i o _ hl h1 h => exact .be _ _ _ _ (by omega) h1 fun B hB => h B (by rw [← hβ]; exact hB)
  | ag cs => exact absurd rfl (hna cs)
  | tu cs => exact absurd rfl (hnt cs)
/-- Cells are not aggregates. -/
theorem shA_rep {w' : World} {E' E2 : Env} {n : Nat} {G : PV → Prop} (hβ : ∀ l, E2.β (n + l) = E'.β l) (htop : n + E'.top ≤ E2.top) (hS : ∀ p x, G p → RepC w' E'.S p x → RepC w' E2.S p x) {p : PV} {x : Value}
    (h : Rep w' E' p x) (hp : forA G p) : Rep w' E2 (shA n p) x := by
  cases p with
  | ag cs =>
    obtain ⟨vs, rfl, hl, h1, hr⟩ := h.ag_inv
    refine .ag _ vs (by simp [hl]) h1 fun j q x hq hx => ?_
    rw [List.getElem?_map] at hq
    cases hc : cs[j]? with
    | none => simp [hc] at hq
    | some c =>
      simp only [hc, Option.map_some, Option.some.injEq] at hq
      subst hq
      have hrc := hr j c x hc hx
      have hone := h1 j x hx
      refine shC_rep hβ htop hS hrc (hp c (List.mem_of_getElem? hc)) (fun cs e => ?_) (fun cs e => ?_)
      · subst e; obtain ⟨_, rfl, _⟩ := hrc.ag_inv; simp [Value.oneCell'] at hone
      · subst e; obtain ⟨_, rfl, _⟩ := hrc.tu_inv; simp [Value.oneCell'] at hone
  | tu vs => exact hp.elim
  | _ => exact shC_rep hβ htop hS h hp (by simp) (by simp)
theorem shV_rep {w' : World} {E' E2 : Env} {n : Nat} {G : PV → Prop} (hβ : ∀ l, E2.β (n + l) = E'.β l) (htop : n + E'.top ≤ E2.top) (hS : ∀ p x, G p → RepC w' E'.S p x → RepC w' E2.S p x) {p : PV} {x : Value}
    (h : Rep w' E' p x) (hp : forV G p) : Rep w' E2 (shV n p) x := by
  cases p with
  | tu ps =>
    obtain ⟨vs, rfl, hl, hr⟩ := h.tu_inv
    refine .tu _ vs (by simp [hl]) fun j q x hq hx => ?_
    rw [List.getElem?_map] at hq
    cases hc : ps[j]? with
    | none => simp [hc] at hq
    | some c =>
      simp only [hc, Option.map_some, Option.some.injEq] at hq
      subst hq
      exact shA_rep hβ htop hS (hr j c x hc hx) (hp c (List.mem_of_getElem? hc))
  | _ => exact shA_rep hβ htop hS h hp

def Env.join (E E' : Env) (n : Nat) (S : Nat → Prop) : Env := { S := S, β := fun l => if l < n then E.β l else E'.β (l - n), top := n + E'.top }

theorem join_beta (E E' : Env) (n l : Nat) (S : Nat → Prop) : (E.join E' n S).β (n + l) = E'.β l := by
  simp only [Env.join]
  rw [if_neg (by omega), Nat.add_sub_cancel_left]
/-- Behind a call: the callee's rows are the caller's. -/
theorem Ok.call {w' : World} {E' : Env} {m' : Mem} (h : Ok w0 E w m) (h' : Ok w E' w' m') {G : PV → Prop} {S : Nat → Prop} (hm' : ∀ mb, some mb ∈ m' → ∀ cs ∈ mb.es, ∀ p ∈ cs, isC p = true ∧ G p)
    (hS : ∀ p x, G p → RepC w' E'.S p x → RepC w' S p x) (hE : ∀ b, E.S b → S b) (hS' : ∀ b, S b → E.S b ∨ w.heap.size ≤ b) (hsz : ∀ b, S b → b < w'.heap.size) (hown : ∀ l B, E'.β l = some B → ¬ S B.b) :
    Ok w0 (E.join E' m.length S) w' (m ++ m') ∧ Ext w w' E (E.join E' m.length S) := by
  have hltm : ∀ l B, E.β l = some B → l < m.length := fun l B hB => by
    obtain ⟨mb', hm'⟩ := h.dom l B hB
    exact (List.getElem?_eq_some_iff.1 hm').1
  have hsame : ∀ b, b < w.heap.size → w'.heap[b]? = w.heap[b]? := h'.up.block
  have hx : Ext w w' E (E.join E' m.length S) := by
    refine ⟨hE, fun b o hb => cell_of_heap (hsame b (h.sz b hb)), fun l B hl hB => ?_, by simp only [Env.join, h.top]; omega, hS', h'.up.size⟩
    rw [h.top] at hl
    simpa [Env.join, hl] using hB
  have hlow : ∀ l B, (E.join E' m.length S).β l = some B → l < m.length → E.β l = some B := fun l B hB hl => by simpa [Env.join, hl] using hB
  have hhigh : ∀ l B, (E.join E' m.length S).β l = some B → ¬ l < m.length → E'.β (l - m.length) = some B := fun l B hB hl => by simpa [Env.join, hl] using hB
  refine ⟨⟨Up.step h'.up h.up, hsz, ?_, ?_, by simp [Env.join, h'.top], ?_, ?_⟩, hx⟩
  · intro l B hB
    by_cases hl : l < m.length
    · obtain ⟨a, b, c⟩ := h.own l B (hlow l B hB hl)
      refine ⟨a, by have := h'.up.size; omega, fun hSb => ?_⟩
      rcases hS' _ hSb with h1 | h1
      · exact c h1
      · omega
    · have hB' := hhigh l B hB hl
      obtain ⟨a, b, c⟩ := h'.own _ B hB'
      exact ⟨by have := h.up.size; omega, b, hown _ B hB'⟩
  · intro l l' B B' hB hB' e
    by_cases hl : l < m.length <;> by_cases hl' : l' < m.length
    · exact h.inj l l' B B' (hlow l B hB hl) (hlow l' B' hB' hl') e
    · have h1 := (h.own l B (hlow l B hB hl)).2.1
      have h2 := (h'.own _ B' (hhigh l' B' hB' hl')).1
      omega
    · have h1 := (h.own l' B' (hlow l' B' hB' hl')).2.1
      have h2 := (h'.own _ B (hhigh l B hB hl)).1
      omega
    · have := h'.inj _ _ B B' (hhigh l B hB hl) (hhigh l' B' hB' hl') e
      omega
  · intro l mb hm
    by_cases hl : l < m.length
    · rw [List.getElem?_append_left hl] at hm
      obtain ⟨B, hB, hb⟩ := h.mem l mb hm
      exact ⟨B, by simp [Env.join, hl, hB], hb.ext hx (hsame _ (h.own l B hB).2.1)⟩
    · rw [List.getElem?_append_right (by omega)] at hm
      obtain ⟨B, hB, hb⟩ := h'.mem _ mb hm
      obtain ⟨cells, m1, m2, m3⟩ := hb.mem
      refine ⟨B, by simp [Env.join, hl, hB], hb.k, hb.n, hb.T, hb.pos, hb.nc, hb.cm, hb.es, cells, m1, m2, fun i cs j p hi hj => ?_⟩
      obtain ⟨x, x1, x2, x3⟩ := m3 i cs j p hi hj
      obtain ⟨c1, c2⟩ := hm' mb (List.mem_of_getElem? hm) cs (List.mem_of_getElem? hi) p (List.mem_of_getElem? hj)
      exact ⟨x, x1, x2, .c (hS p x c2 (x3.toC c1))⟩
  · intro l B hB
    by_cases hl : l < m.length
    · obtain ⟨mb, hm⟩ := h.dom l B (hlow l B hB hl)
      exact ⟨mb, by rw [List.getElem?_append_left hl]; exact hm⟩
    · obtain ⟨mb, hm⟩ := h'.dom _ B (hhigh l B hB hl)
      exact ⟨mb, by rw [List.getElem?_append_right (by omega)]; exact hm⟩

def isCA : PV → Bool
  | .ag cs => cs.all isC
  | .tu _ => false
  | p => isC p
/-- A call: its result flat (whatever it gets), or deep (it gets no own rows). -/
def pCall (P : Program) (f : FuncId) (ps : List PV) (m : Mem) (K : PV → Mem → Prop) : Prop :=
  ∃ r m', ((snapA m ps (fun qs => CallOk P f qs r m') ∧ (∀ mb, some mb ∈ m' → ∀ cs ∈ mb.es, ∀ p ∈ cs, isC p = true ∧ isF p = true) ∧ forV (fun p => isF p = true) r) ∨
    (CallOk P f ps r m' ∧ (∀ p ∈ ps, isCA p = true) ∧ (∀ mb, some mb ∈ m' → ∀ cs ∈ mb.es, ∀ p ∈ cs, isC p = true ∧ True) ∧ forV (fun _ => True) r)) ∧ K (shV m.length r) (m ++ m')
theorem RepC.flat {S S' : Nat → Prop} {p : PV} {x : Value} (hF : isF p = true) (h : RepC w S p x) : RepC w S' p x := by
  cases h with
  | v x h => exact .v x h
  | ud => exact .ud
  | un x => exact .un x
  | _ => simp [isF] at hF
theorem Rep.toE0 {p : PV} {x : Value} (h : Rep w E p x) (hc : isCA p = true) : Rep w (E0 E.S) p x := by
  cases p with
  | ag cs =>
    obtain ⟨vs, rfl, hl, h1, hr⟩ := h.ag_inv
    refine .ag cs vs hl h1 fun j q x hq hx => .c ((hr j q x hq hx).toC ?_)
    simp only [isCA, List.all_eq_true] at hc
    exact hc q (List.mem_of_getElem? hq)
  | tu vs => simp [isCA] at hc
  | _ => first | exact .c (h.toC hc) | simp [isCA, isC] at hc
theorem pCall_sound (hk : Ok w0 E w m) {f : FuncId} {ps : List PV} {vs : Array Value} (hl : vs.size = ps.length) (hr : ∀ (j : Nat) (p : PV) (x : Value), ps[j]? = some p → vs[j]? = some x → Rep w E p x) {K : PV → Mem → Prop} (h : pCall P f ps m K) :
    ∃ r m', K r m' ∧ Calls P f vs w fun e w' => ∃ v E', e = .returned v ∧ Ok w0 E' w' m' ∧ Ext w w' E E' ∧ Rep w' E' r v := by
  obtain ⟨r, m', h, hK⟩ := h
  refine ⟨_, _, hK, ?_⟩
  rcases h with ⟨hs, hm', hF⟩ | ⟨hc, hps, hm', hF⟩
  · obtain ⟨ds, hc, hdl, hd⟩ := snapA_rep hk ps vs.toList _ (by simpa using hl) (fun j p x hp hx => hr j p x hp (by simpa using hx)) hs
    have hsz : ∀ b, Sall E b → b < w.heap.size := by
      rintro b (h | ⟨l, B, hB, rfl⟩)
      · exact hk.sz b h
      · exact (hk.own l B hB).2.1
    refine (hc (Sall E) w vs hsz (by rw [hl, hdl]) fun i p hp => ?_).mono ?_
    · have hi : i < vs.size := by rw [hl, ← hdl]; exact (List.getElem?_eq_some_iff.1 hp).1
      exact ⟨vs[i], Array.getElem?_eq_getElem hi, hd i p _ hp (by simp [Array.getElem?_eq_getElem hi])⟩
    · rintro e w' ⟨v, E', rfl, hok, h1, h2, hrep⟩
      have hS : ∀ p x, isF p = true → RepC w' E'.S p x → RepC w' E.S p x := fun p x hp hx => hx.flat hp
      obtain ⟨k1, k2⟩ := hk.call hok (G := fun p => isF p = true) (S := E.S) hm' hS (fun b hb => hb) (fun b hb => .inl hb) (fun b hb => Nat.lt_of_lt_of_le (hk.sz b hb) hok.up.size) (fun l B hB hS => by
        have := hk.sz _ hS
        have := (hok.own l B hB).1
        omega)
      exact ⟨v, _, rfl, k1, k2, shV_rep (E' := E') (E2 := E.join E' m.length E.S) (n := m.length) (G := fun p => isF p = true) (fun l => join_beta E E' m.length l _) (Nat.le_refl _) hS hrep hF⟩
  · refine (hc E.S w vs hk.sz hl fun i p hp => ?_).mono ?_
    · have hi : i < vs.size := by rw [hl]; exact (List.getElem?_eq_some_iff.1 hp).1
      exact ⟨vs[i], Array.getElem?_eq_getElem hi, (hr i p _ hp (Array.getElem?_eq_getElem hi)).toE0 (hps p (List.mem_of_getElem? hp))⟩
    · rintro e w' ⟨v, E', rfl, hok, h1, h2, hrep⟩
      obtain ⟨k1, k2⟩ := hk.call hok (G := fun _ => True) (S := E'.S) hm' (fun p x _ hx => hx) h1 h2 hok.sz (fun l B hB => (hok.own l B hB).2.2)
      exact ⟨v, _, rfl, k1, k2, shV_rep (E' := E') (E2 := E.join E' m.length E'.S) (n := m.length) (G := fun _ => True) (fun l => join_beta E E' m.length l _) (Nat.le_refl _) (fun p x _ hx => hx) hrep hF⟩
end
end Go.Proofs.Ytooikkfldddjfaa
