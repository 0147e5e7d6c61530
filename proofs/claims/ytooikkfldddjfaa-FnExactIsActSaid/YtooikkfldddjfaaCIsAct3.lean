/- The statement FnExactIsActSaid: for every input that can be read the law FnExactIsAct returns true and leaves its arguments as they were. No further condition. -/
import Derived.Test.YtooikkfldddjfaaCIsAct2
import Derived.Shelf.Small.Bits
import Derived.Shelf.Strconv.Itoa0
import Derived.Test.YtooikkfldddjfaaProg
import Derived.Shelf.GgSortMore.Iface
import Derived.Sort.OwnSortedInts
import Derived.Test.YtooikkfldddjfaaCIsAct1
import Derived.Laws.AppendOwnNone
import Derived.Test.YtooikkfldddjfaaRows
import Derived.OpenShut
/- The second script: as_ wk; nested own rows are frozen ahead of a region that appends them. No function of the program in sight. -/
namespace Go.Proofs.Ytooikkfldddjfaa
set_option maxRecDepth 10000
open Go.RowKit
set_option linter.unusedVariables false
set_option linter.unusedSimpArgs false
/-- A mark in a mirror: here the state is cut to this one. -/
def frz (t : List PV) (m : Mem) : Option Unit := some ()
theorem Cuts.trans {n0 : Nat} {t t1 t2 : List PV} {m m1 m2 : Mem} (h : Cuts n0 t m t1 m1) (k : Cuts n0 t1 m1 t2 m2) : Cuts n0 t m t2 m2 := by
  induction h with
  | one h => exact .two h k
  | two h h' ih => exact .two h (ih k)
theorem pwp_frz {P : Program} {n0 : Nat} {Q : Exit → List PV → Mem → Prop} {t T : List PV} {m M : Mem} {α β : Type} {F : Unit → Option α} {K : α → Option β} {r : β} {i : Nat} {ops : Array Oper} {draw : Bool}
    (H : ((frz T M).bind F).bind K = some r) (hc : Cuts n0 t m T M) (hk : (F ()).bind K = some r → pwp P n0 (.region i ops draw) Q T M) : pwp P n0 (.region i ops draw) Q t m := by
  rcases hk H with h | ⟨t1, m1, h1, h2⟩
  · exact .inr ⟨T, M, hc, h⟩
  · exact .inr ⟨t1, m1, hc.trans h1, h2⟩
/-- The same, for rows that were written to: they get a name. -/
def frzL {α : Type} (x : α) (t : α → List PV) (m : α → Mem) : Option α := some x
theorem pwp_frzL {P : Program} {n0 : Nat} {Q : Exit → List PV → Mem → Prop} {t : List PV} {m : Mem} {ξ α β : Type} {x : ξ} {T : ξ → List PV} {M : ξ → Mem} {F : ξ → Option α} {K : α → Option β} {r : β} {i : Nat} {ops : Array Oper} {draw : Bool}
    (H : ((frzL x T M).bind F).bind K = some r) (hc : Cuts n0 t m (T x) (M x)) (hk : ∀ z, (F z).bind K = some r → pwp P n0 (.region i ops draw) Q (T z) (M z)) : pwp P n0 (.region i ops draw) Q t m := by
  rcases hk x H with h | ⟨t1, m1, h1, h2⟩
  · exact .inr ⟨T x, M x, hc, h⟩
  · exact .inr ⟨t1, m1, hc.trans h1, h2⟩
/-- A mark in a mirror: the own rows that the next call is handed. -/
def rhoM (ρ : List Nat) : Option Unit := some ()
theorem call_io {R α β : Type} {P : Program} {ρ : List Nat} {A : Option R} [C : CT P A] {F : Unit → Option α} {G : R → Option α} {K : α → Option β} {r : β} {f : FuncId} {ps : List PV} {io : Bool} {wd ν : Nat} {m : Mem} {KA : PV → Mem → Prop}
    (H : ((rhoM ρ).bind F).bind K = some r) (hF : F () = A.bind G) (hf : C.f = f) (hio : io = true) (hps : ps = C.args.map (renA (sig ρ ν))) (hq : ∀ q ∈ C.args, goodA false q ∧ lowA C.m0.length q = true) (hn : ρ.Nodup) (hin : inRows (sig ρ ν) m C.m0.length ρ C.m0)
    (hlen : ∀ y, C.m0.length ≤ (C.mem y).length ∧ (C.mem y).length - C.m0.length ≤ wd) (hm : ∀ y, ∀ mb, some mb ∈ C.mem y → ∀ cs ∈ mb.es, ∀ p ∈ cs, goodC false p) (hg : ∀ y, goodV false (C.res y))
    (hk : ∀ y, A = some y → (G y).bind K = some r → KA (renV (sig ρ ν) (C.res y)) (putNew (sig ρ ν) ν ((C.mem y).drop ρ.length) (putIn (sig ρ ν) ρ (C.mem y) m))) : pCall P io wd ν f ps m KA := by
  have H' : (F ()).bind K = some r := H
  rw [hF] at H'
  obtain ⟨y, hy, H2⟩ := Hcall H'
  subst hf
  exact .inr ⟨ρ, C.m0, C.args, C.res y, C.mem y, .inl hio, C.ok hy, (hlen y).1, (hlen y).2, hps, hq, hn, hin, hm y, hg y, hk y hy H2⟩
def IsRho : Prop := True
theorem rhoH {α β : Type} {ρ : List Nat} {F : Unit → Option α} {K : α → Option β} {r : β} (H : ((rhoM ρ).bind F).bind K = some r) : IsRho := trivial
theorem rhoS {P : Program} {f : FuncId} {ps : List PV} {io : Bool} {wd ν : Nat} {m : Mem} {KA : PV → Mem → Prop} (h : IsRho) (hk : pCall P io wd ν f ps m KA) : pCall P io wd ν f ps m KA := hk
theorem inRows_nil {σ : Nat → Nat} {m : Mem} {n : Nat} : inRows σ m n [] [] := trivial
theorem lowC_isC {n : Nat} {p : PV} (h : isC p = true) : lowC n p = true := by
  cases p with
  | fn f cs =>
    simp only [isC, List.all_eq_true] at h
    simp only [lowC, List.all_eq_true]
    intro c hc
    have := h c hc
    cases c <;> simp_all [isC1, low1]
  | _ => simp_all [isC, isC1, lowC, low1]
theorem inRows_map {α : Type} {f : α → List PV} [hf : PlainC f] {σ : Nat → Nat} {m : Mem} {n l T k : Nat} {xs : List α} {ρ : List Nat} {m0 : Mem} (hl : look m l = some ⟨T, k, xs.map f⟩) (h : inRows σ m n ρ m0) : inRows σ m n (l :: ρ) (some ⟨T, k, xs.map f⟩ :: m0) := by
  refine ⟨?_, fun cs hcs p hp => ?_, h⟩
  · rw [look_iff.1 hl]
    simp only [renMB, renEs_map]
  · obtain ⟨x, _, rfl⟩ := List.mem_map.1 hcs
    exact ⟨goodC_of (hf.h x p hp), lowC_isC (hf.h x p hp)⟩
theorem inRows_one {σ : Nat → Nat} {m : Mem} {n l T k : Nat} {cs cs' : List PV} {ρ : List Nat} {m0 : Mem} (hl : look m l = some ⟨T, k, [cs']⟩) (hc : cs' = cs.map (renC σ)) (hg : ∀ p ∈ cs, goodC false p ∧ lowC n p = true) (h : inRows σ m n ρ m0) : inRows σ m n (l :: ρ) (some ⟨T, k, [cs]⟩ :: m0) := by
  subst hc
  refine ⟨look_iff.1 hl, fun ds hds p hp => ?_, h⟩
  obtain rfl : ds = cs := by simpa using hds
  exact hg p hp
/-- A join in a mirror: a part that falls through (left) or returns (right); how what it leaves lies in the frame. -/
@[irreducible] def jn {ο α : Type} (i j : Nat) (J : Option (ο ⊕ α)) (T : ο → List PV) (M : ο → Mem) : Option (ο ⊕ α) := J
def hdC : Code → Bool
  | .region _ _ _ => true
  | .loop _ => true
  | .seq a _ => hdC a
  | .block _ c => hdC c
  | _ => false
/-- The number of the first region. -/
def idC : Code → Nat
  | .region i _ _ => i
  | .loop c => idC c
  | .seq a _ => idC a
  | .block _ c => idC c
  | _ => 0
theorem pwp_cutC {P : Program} {n0 : Nat} : ∀ (c : Code), hdC c = true → ∀ {Q : Exit → List PV → Mem → Prop} {t T : List PV} {m M : Mem}, Cuts n0 t m T M → pwp P n0 c Q T M → pwp P n0 c Q t m
  | .region i ops draw, _, Q, t, T, m, M, hc, h => by
    rcases h with h | ⟨t1, m1, h1, h2⟩
    · exact .inr ⟨T, M, hc, h⟩
    · exact .inr ⟨t1, m1, hc.trans h1, h2⟩
  | .loop c, _, Q, t, T, m, M, hc, h => by
    obtain ⟨I, n, t0, m0, h1, h2⟩ := h
    exact ⟨I, n, t0, m0, hc.trans h1, h2⟩
  | .seq a b, hd, Q, t, T, m, M, hc, h => pwp_cutC a hd hc h
  | .block i c, hd, Q, t, T, m, M, hc, h => pwp_cutC c hd hc h
theorem pwp_jn {P : Program} {n0 : Nat} {Q : Exit → List PV → Mem → Prop} {t : List PV} {m : Mem} {a b : Code} {ο α β γ : Type} {J : Option (ο ⊕ α)} {T : ο → List PV} {M : ο → Mem} {G : ο → Option β} {F : α → Option β} {K : β → Option γ} {r : γ}
    {i j : Nat} (H : ((jn i j J T M).bind (selim G F)).bind K = some r) (hd : hdC b = true) (hi : (idC a == i && idC b == j) = true)
    (h1 : ∀ K' : List PV → Mem → Prop, (∀ o t' m', (G o).bind K = some r → Cuts n0 t' m' (T o) (M o) → K' t' m') → J.bind (selim (fun o => (G o).bind K) (fun v => (F v).bind K)) = some r → pwp P n0 a (thenP K' Q) t m)
    (h2 : ∀ o, (G o).bind K = some r → pwp P n0 b Q (T o) (M o)) : pwp P n0 (.seq a b) Q t m := by
  unfold jn at H
  refine h1 (fun t m => pwp P n0 b Q t m) (fun o t' m' h hc => pwp_cutC b hd hc (h2 o h)) ?_
  cases J with
  | none => cases H
  | some x => cases x <;> exact H
theorem jnX {ο α β : Type} {n0 : Nat} {s : ο} {F : ο → Option β} {K : α → Option β} {r : β} {Kp : List PV → Mem → Prop} {T : ο → List PV} {M : ο → Mem} {t : List PV} {m : Mem} (H : (some (Sum.inl s)).bind (selim F K) = some r) (hL : ∀ o t' m', F o = some r → Cuts n0 t' m' (T o) (M o) → Kp t' m') (hc : Cuts n0 t m (T s) (M s)) : Kp t m := hL s t m H hc
def IsJn : Prop := True
theorem jnH {ο α β γ : Type} {i j : Nat} {J : Option (ο ⊕ α)} {T : ο → List PV} {M : ο → Mem} {G : (ο ⊕ α) → Option β} {K : β → Option γ} {r : γ} (H : ((jn i j J T M).bind G).bind K = some r) : IsJn := trivial
theorem jnS {P : Program} {n0 : Nat} {Q : Exit → List PV → Mem → Prop} {t : List PV} {m : Mem} {a b : Code} (h : IsJn) (hk : pwp P n0 (.seq a b) Q t m) : pwp P n0 (.seq a b) Q t m := hk
theorem thenP_thenP {K K2 : List PV → Mem → Prop} {Q : Exit → List PV → Mem → Prop} : thenP K (thenP K2 Q) = thenP K Q := by
  funext e t m
  cases e <;> rfl
theorem pwp_assoc {P : Program} {n0 : Nat} {Q : Exit → List PV → Mem → Prop} {t : List PV} {m : Mem} {a b c : Code} (h : pwp P n0 (.seq (.seq a b) c) Q t m) : pwp P n0 (.seq a (.seq b c)) Q t m := by
  have e : pwp P n0 (.seq (.seq a b) c) Q t m = pwp P n0 a (thenP (fun t m => pwp P n0 b (thenP (fun t m => pwp P n0 c Q t m) Q) t m) (thenP (fun t m => pwp P n0 c Q t m) Q)) t m := by simp only [pwp]
  rw [e, thenP_thenP] at h
  simp only [pwp]
  exact h
theorem pwp_jn2 {P : Program} {n0 : Nat} {Q : Exit → List PV → Mem → Prop} {t : List PV} {m : Mem} {a b c : Code} {ο α β γ : Type} {J : Option (ο ⊕ α)} {T : ο → List PV} {M : ο → Mem} {G : ο → Option β} {F : α → Option β} {K : β → Option γ} {r : γ}
    {i j : Nat} (H : ((jn i j J T M).bind (selim G F)).bind K = some r) (hd : hdC c = true) (hi : (idC a == i && idC c == j) = true)
    (h1 : ∀ K' : List PV → Mem → Prop, (∀ o t' m', (G o).bind K = some r → Cuts n0 t' m' (T o) (M o) → K' t' m') → J.bind (selim (fun o => (G o).bind K) (fun v => (F v).bind K)) = some r → pwp P n0 (.seq a b) (thenP K' Q) t m)
    (h2 : ∀ o, (G o).bind K = some r → pwp P n0 c Q (T o) (M o)) : pwp P n0 (.seq a (.seq b c)) Q t m := pwp_assoc (pwp_jn H hd hi h1 h2)
/-- A value that may stand for another: the nil slice reads as_ the empty list. -/
inductive SubC : PV → PV → Prop
  | r (p : PV) : SubC p p
  | nil (c : Nat) : SubC (.v (.slice none 0 c)) (.sl [])
inductive SubL : List PV → List PV → Prop
  | n : SubL [] []
  | c {p q : PV} {ps qs : List PV} (h : SubC p q) (k : SubL ps qs) : SubL (p :: ps) (q :: qs)
inductive SubV : PV → PV → Prop
  | c {p q : PV} (h : SubC p q) : SubV p q
  | ag {cs ds : List PV} (h : SubL cs ds) : SubV (.ag cs) (.ag ds)
inductive SubA : List PV → List PV → Prop
  | n : SubA [] []
  | c {p q : PV} {ps qs : List PV} (h : SubV p q) (k : SubA ps qs) : SubA (p :: ps) (q :: qs)
theorem SubC.rep {w : World} {E : Env} {p q : PV} {x : Value} (h : SubC p q) (hr : Rep w E p x) : Rep w E q x := by
  cases h with
  | r => exact hr
  | nil c =>
    cases hr with
    | c h => cases h with
      | v _ _ => exact .c (.nil none c)
theorem SubL.len {cs ds : List PV} (h : SubL cs ds) : cs.length = ds.length := by
  induction h with
  | n => rfl
  | c _ _ ih => simp [ih]
theorem SubL.get {cs ds : List PV} (h : SubL cs ds) : ∀ (j : Nat) (q : PV), ds[j]? = some q → ∃ p, cs[j]? = some p ∧ SubC p q := by
  induction h with
  | n => intro j q hq; simp at hq
  | c h k ih =>
    intro j q hq
    cases j with
    | zero => simp at hq; subst hq; exact ⟨_, by simp, h⟩
    | succ j => simpa using ih j q (by simpa using hq)
theorem SubV.rep {w : World} {E : Env} {p q : PV} {x : Value} (h : SubV p q) (hr : Rep w E p x) : Rep w E q x := by
  cases h with
  | c h => exact h.rep hr
  | ag h =>
    obtain ⟨vs, rfl, hl, h1, hc⟩ := Rep.ag_inv hr
    exact .ag _ vs (by rw [hl, h.len]) h1 fun j p y hp hy => by
      obtain ⟨p', hp', hs⟩ := h.get j p hp
      exact hs.rep (hc j p' y hp' hy)
theorem SubA.len {cs ds : List PV} (h : SubA cs ds) : cs.length = ds.length := by
  induction h with
  | n => rfl
  | c _ _ ih => simp [ih]
theorem SubA.get {cs ds : List PV} (h : SubA cs ds) : ∀ (j : Nat) (q : PV), ds[j]? = some q → ∃ p, cs[j]? = some p ∧ SubV p q := by
  induction h with
  | n => intro j q hq; simp at hq
  | c h k ih =>
    intro j q hq
    cases j with
    | zero => simp at hq; subst hq; exact ⟨_, by simp, h⟩
    | succ j => simpa using ih j q (by simpa using hq)
theorem CallM.weak {P : Program} {f : FuncId} {ps qs : List PV} {m0 : Mem} {r : PV} {m1 : Mem} (h : CallM P f qs m0 r m1) (hs : SubA ps qs) : CallM P f ps m0 r m1 := by
  intro S β w vs hok hl ha
  refine h S β w vs hok (by rw [hl, hs.len]) fun i q hq => ?_
  obtain ⟨p, hp, hv⟩ := hs.get i q hq
  obtain ⟨x, hx, hr⟩ := ha i p hp
  exact ⟨x, hx, hv.rep hr⟩
/-- As isC, own rows too. -/
def isCM : PV → Bool
  | .ms _ => true
  | p => isC p
def isCAM : PV → Bool
  | .ag cs => cs.all isCM
  | .tu _ => false
  | p => isCM p
theorem goodM_of {p : PV} (h : isCM p = true) : goodC false p := by
  cases p with
  | ms l => simp [goodC]
  | _ => exact goodC_of h
theorem gV_agM {cs : List PV} (h : cs.all isCM = true) : goodV false (.ag cs) := fun c hc => goodM_of (List.all_eq_true.1 h c hc)
theorem gV_tuM {ps : List PV} (h : ps.all isCAM = true) : goodV false (.tu ps) := by
  intro c hc
  have := List.all_eq_true.1 h c hc
  cases c with
  | ag cs => exact fun d hd => goodM_of (List.all_eq_true.1 this d hd)
  | tu vs => simp [isCAM] at this
  | fn f cs => exact goodC_of (c := .fn f cs) this
  | _ => simp [goodA, goodC]
theorem cutC_nilsl0 {m m' : Mem} {ρ : Nat → Option Nat} {c : Nat} : CutC ρ m m' (.v (.slice none 0 c)) (.sl []) := .nilsl c
theorem rowsOk_new0 {m m' : Mem} {rs rr : List (Option Nat)} {T k : Nat} {mm : Mem} (hk : decide (0 < k) = true) (h : rowsOk rs m m' rr mm) : rowsOk rs m m' (none :: rr) (some ⟨T, k, []⟩ :: mm) := ⟨⟨rfl, of_decide_eq_true hk⟩, h⟩
theorem lowB_0 {i : Nat} {rs : List (Option Nat)} {m : Mem} : lowB 0 i rs m = true := rfl
theorem lowB_c {n i : Nat} {rs : List (Option Nat)} {mb : MB} {m : Mem} (h : lowB n (i + 1) rs m = true) : lowB (n + 1) i (some i :: rs) (some mb :: m) = true := by simp [lowB, h]
theorem lowB_d {n i : Nat} {rs : List (Option Nat)} {m : Mem} (h : lowB n (i + 1) rs m = true) : lowB (n + 1) i (none :: rs) (none :: m) = true := by simpa [lowB] using h
theorem cutL_0 {n0 : Nat} {t t' : List PV} {m : Mem} (hl : lowB n0 0 [] [] = true) (hT : cutT (rho []) m [] t t') (hM : rowsOk [] m [] [] []) (hi : injB [] = true) : Cuts n0 t m t' [] := cut_mk hT hM hi hl
theorem cutL_1 {n0 : Nat} {t t' : List PV} {m : Mem} {a : Option MB} (r0 : Option Nat) (hl : lowB n0 0 [r0] [a] = true) (hT : cutT (rho [r0]) m [a] t t') (hM : rowsOk [r0] m [a] [r0] [a]) (hi : injB [r0] = true) : Cuts n0 t m t' [a] := cut_mk hT hM hi hl
theorem cutL_2 {n0 : Nat} {t t' : List PV} {m : Mem} {a b : Option MB} (r0 r1 : Option Nat) (hl : lowB n0 0 [r0, r1] [a, b] = true) (hT : cutT (rho [r0, r1]) m [a, b] t t') (hM : rowsOk [r0, r1] m [a, b] [r0, r1] [a, b]) (hi : injB [r0, r1] = true) : Cuts n0 t m t' [a, b] := cut_mk hT hM hi hl
theorem cutL_3 {n0 : Nat} {t t' : List PV} {m : Mem} {a b c : Option MB} (r0 r1 r2 : Option Nat) (hl : lowB n0 0 [r0, r1, r2] [a, b, c] = true) (hT : cutT (rho [r0, r1, r2]) m [a, b, c] t t') (hM : rowsOk [r0, r1, r2] m [a, b, c] [r0, r1, r2] [a, b, c]) (hi : injB [r0, r1, r2] = true) : Cuts n0 t m t' [a, b, c] := cut_mk hT hM hi hl
theorem cutL_4 {n0 : Nat} {t t' : List PV} {m : Mem} {a b c d : Option MB} (r0 r1 r2 r3 : Option Nat) (hl : lowB n0 0 [r0, r1, r2, r3] [a, b, c, d] = true) (hT : cutT (rho [r0, r1, r2, r3]) m [a, b, c, d] t t') (hM : rowsOk [r0, r1, r2, r3] m [a, b, c, d] [r0, r1, r2, r3] [a, b, c, d]) (hi : injB [r0, r1, r2, r3] = true) : Cuts n0 t m t' [a, b, c, d] := cut_mk hT hM hi hl
theorem cutL_5 {n0 : Nat} {t t' : List PV} {m : Mem} {a b c d e : Option MB} (r0 r1 r2 r3 r4 : Option Nat) (hl : lowB n0 0 [r0, r1, r2, r3, r4] [a, b, c, d, e] = true) (hT : cutT (rho [r0, r1, r2, r3, r4]) m [a, b, c, d, e] t t') (hM : rowsOk [r0, r1, r2, r3, r4] m [a, b, c, d, e] [r0, r1, r2, r3, r4] [a, b, c, d, e]) (hi : injB [r0, r1, r2, r3, r4] = true) : Cuts n0 t m t' [a, b, c, d, e] := cut_mk hT hM hi hl
theorem cutL_6 {n0 : Nat} {t t' : List PV} {m : Mem} {a b c d e f : Option MB} (r0 r1 r2 r3 r4 r5 : Option Nat) (hl : lowB n0 0 [r0, r1, r2, r3, r4, r5] [a, b, c, d, e, f] = true) (hT : cutT (rho [r0, r1, r2, r3, r4, r5]) m [a, b, c, d, e, f] t t') (hM : rowsOk [r0, r1, r2, r3, r4, r5] m [a, b, c, d, e, f] [r0, r1, r2, r3, r4, r5] [a, b, c, d, e, f]) (hi : injB [r0, r1, r2, r3, r4, r5] = true) : Cuts n0 t m t' [a, b, c, d, e, f] := cut_mk hT hM hi hl
theorem cutL_7 {n0 : Nat} {t t' : List PV} {m : Mem} {a b c d e f g : Option MB} (r0 r1 r2 r3 r4 r5 r6 : Option Nat) (hl : lowB n0 0 [r0, r1, r2, r3, r4, r5, r6] [a, b, c, d, e, f, g] = true) (hT : cutT (rho [r0, r1, r2, r3, r4, r5, r6]) m [a, b, c, d, e, f, g] t t') (hM : rowsOk [r0, r1, r2, r3, r4, r5, r6] m [a, b, c, d, e, f, g] [r0, r1, r2, r3, r4, r5, r6] [a, b, c, d, e, f, g]) (hi : injB [r0, r1, r2, r3, r4, r5, r6] = true) : Cuts n0 t m t' [a, b, c, d, e, f, g] := cut_mk hT hM hi hl
theorem cutL_8 {n0 : Nat} {t t' : List PV} {m : Mem} {a b c d e f g h : Option MB} (r0 r1 r2 r3 r4 r5 r6 r7 : Option Nat) (hl : lowB n0 0 [r0, r1, r2, r3, r4, r5, r6, r7] [a, b, c, d, e, f, g, h] = true) (hT : cutT (rho [r0, r1, r2, r3, r4, r5, r6, r7]) m [a, b, c, d, e, f, g, h] t t') (hM : rowsOk [r0, r1, r2, r3, r4, r5, r6, r7] m [a, b, c, d, e, f, g, h] [r0, r1, r2, r3, r4, r5, r6, r7] [a, b, c, d, e, f, g, h]) (hi : injB [r0, r1, r2, r3, r4, r5, r6, r7] = true) : Cuts n0 t m t' [a, b, c, d, e, f, g, h] := cut_mk hT hM hi hl
theorem cutL_9 {n0 : Nat} {t t' : List PV} {m : Mem} {a b c d e f g h i : Option MB} (r0 r1 r2 r3 r4 r5 r6 r7 r8 : Option Nat) (hl : lowB n0 0 [r0, r1, r2, r3, r4, r5, r6, r7, r8] [a, b, c, d, e, f, g, h, i] = true) (hT : cutT (rho [r0, r1, r2, r3, r4, r5, r6, r7, r8]) m [a, b, c, d, e, f, g, h, i] t t') (hM : rowsOk [r0, r1, r2, r3, r4, r5, r6, r7, r8] m [a, b, c, d, e, f, g, h, i] [r0, r1, r2, r3, r4, r5, r6, r7, r8] [a, b, c, d, e, f, g, h, i]) (hi : injB [r0, r1, r2, r3, r4, r5, r6, r7, r8] = true) : Cuts n0 t m t' [a, b, c, d, e, f, g, h, i] := cut_mk hT hM hi hl
theorem cutL_10 {n0 : Nat} {t t' : List PV} {m : Mem} {a b c d e f g h i j : Option MB} (r0 r1 r2 r3 r4 r5 r6 r7 r8 r9 : Option Nat) (hl : lowB n0 0 [r0, r1, r2, r3, r4, r5, r6, r7, r8, r9] [a, b, c, d, e, f, g, h, i, j] = true) (hT : cutT (rho [r0, r1, r2, r3, r4, r5, r6, r7, r8, r9]) m [a, b, c, d, e, f, g, h, i, j] t t') (hM : rowsOk [r0, r1, r2, r3, r4, r5, r6, r7, r8, r9] m [a, b, c, d, e, f, g, h, i, j] [r0, r1, r2, r3, r4, r5, r6, r7, r8, r9] [a, b, c, d, e, f, g, h, i, j]) (hi : injB [r0, r1, r2, r3, r4, r5, r6, r7, r8, r9] = true) : Cuts n0 t m t' [a, b, c, d, e, f, g, h, i, j] := cut_mk hT hM hi hl
theorem cutL_11 {n0 : Nat} {t t' : List PV} {m : Mem} {a b c d e f g h i j k : Option MB} (r0 r1 r2 r3 r4 r5 r6 r7 r8 r9 r10 : Option Nat) (hl : lowB n0 0 [r0, r1, r2, r3, r4, r5, r6, r7, r8, r9, r10] [a, b, c, d, e, f, g, h, i, j, k] = true) (hT : cutT (rho [r0, r1, r2, r3, r4, r5, r6, r7, r8, r9, r10]) m [a, b, c, d, e, f, g, h, i, j, k] t t') (hM : rowsOk [r0, r1, r2, r3, r4, r5, r6, r7, r8, r9, r10] m [a, b, c, d, e, f, g, h, i, j, k] [r0, r1, r2, r3, r4, r5, r6, r7, r8, r9, r10] [a, b, c, d, e, f, g, h, i, j, k]) (hi : injB [r0, r1, r2, r3, r4, r5, r6, r7, r8, r9, r10] = true) : Cuts n0 t m t' [a, b, c, d, e, f, g, h, i, j, k] := cut_mk hT hM hi hl
theorem cutL_12 {n0 : Nat} {t t' : List PV} {m : Mem} {a b c d e f g h i j k l : Option MB} (r0 r1 r2 r3 r4 r5 r6 r7 r8 r9 r10 r11 : Option Nat) (hl : lowB n0 0 [r0, r1, r2, r3, r4, r5, r6, r7, r8, r9, r10, r11] [a, b, c, d, e, f, g, h, i, j, k, l] = true) (hT : cutT (rho [r0, r1, r2, r3, r4, r5, r6, r7, r8, r9, r10, r11]) m [a, b, c, d, e, f, g, h, i, j, k, l] t t') (hM : rowsOk [r0, r1, r2, r3, r4, r5, r6, r7, r8, r9, r10, r11] m [a, b, c, d, e, f, g, h, i, j, k, l] [r0, r1, r2, r3, r4, r5, r6, r7, r8, r9, r10, r11] [a, b, c, d, e, f, g, h, i, j, k, l]) (hi : injB [r0, r1, r2, r3, r4, r5, r6, r7, r8, r9, r10, r11] = true) : Cuts n0 t m t' [a, b, c, d, e, f, g, h, i, j, k, l] := cut_mk hT hM hi hl
theorem goodD_cells {b : Bool} {T k : Nat} {es : List (List PV)} (h : ∀ cs ∈ es, ∀ p ∈ cs, goodC b p) : ∀ mb, some mb ∈ ([some ⟨T, k, es⟩] : Mem) → ∀ cs ∈ mb.es, ∀ p ∈ cs, goodC b p := by
  intro mb hm
  simp only [List.mem_singleton, Option.some.injEq] at hm
  subst hm
  exact h
theorem hm_none {m : Mem} {b : Bool} (h2 : ∀ mb, some mb ∈ m → ∀ cs ∈ mb.es, ∀ p ∈ cs, goodC b p) : ∀ mb, some mb ∈ ((none : Option MB) :: m) → ∀ cs ∈ mb.es, ∀ p ∈ cs, goodC b p := by
  intro mb h
  rcases List.mem_cons.1 h with h | h
  · cases h
  · exact h2 mb h
theorem hm_e {T k : Nat} {b : Bool} : ∀ mb, some mb ∈ ([some ⟨T, k, []⟩] : Mem) → ∀ cs ∈ mb.es, ∀ p ∈ cs, goodC b p := goodD_cells (by simp)
theorem Hnone {α β : Type} {K : α → Option β} {r : β} (h : (none : Option α).bind K = some r) : False := by cases h

theorem wk2 {p : Prop} (h : p := by
  (simp only [List.length_cons, List.length_nil, Nat.reduceAdd, Nat.reduceSub, List.replicate_succ, List.replicate_zero, List.cons_append, List.nil_append, go_sem]);
  repeat' (first
    | ((with_reducible refine jnS (jnH H) ?_); (first | ((refine pwp_jn2 H ?_ ?_ (fun K_ hL H => ?_) (fun o_ H => ?_)); (focus (decide +kernel)); (focus (decide +kernel))) | ((refine pwp_jn H ?_ ?_ (fun K_ hL H => ?_) (fun o_ H => ?_)); (focus (decide +kernel)); (focus (decide +kernel)))))
    | ((with_reducible refine rhoS (rhoH H) ?_); (refine call_io H rfl rfl rfl ?_ ?_ ?_ ?_ ?_ ?_ ?_ ?_); (focus (first | rfl | (simp only [CT.args, List.map_cons, List.map_nil, renA, renC, ren1, sig_z, sig_s, sig_n]; done))); (focus (simp [CT.args, CT.m0, goodA, goodC, lowA, lowC, low1, isR])); (focus (first | exact List.nodup_nil | decide)); (focus ((simp only [CT.m0]); (repeat' (first | exact inRows_nil | (refine inRows_map (by rfl) ?_) | (refine inRows_one (by rfl) (by rfl) (by simp [goodC, lowC, low1, isR]) ?_))))); (focus (intro y_; simp [CT.mem, CT.m0])); (focus (intro y_; (simp only [CT.mem]); (repeat (first | exact hm_nil | exact hm_one | exact hm_oneT | (refine hm_c hm_one ?_) | (refine hm_c (goodD_cells (by simp [goodC, isR])) ?_) | exact goodD_cells (by simp [goodC, isR]) | (refine hm_none ?_))))); (focus (intro y_; (simp [CT.res, goodV, goodA, goodC, isR]))); (clear H; intro y_ hy H; simp only [CT.res, CT.mem, putIn, List.drop_succ_cons, List.drop_zero, Option.map_none, go_sem, Nat.reduceAdd, Nat.reduceSub, Nat.reduceMul, Nat.reduceLT, Nat.reduceLeDiff, Nat.reduceEqDiff, if_true, eq_self]))
    | ((with_reducible refine pwp_frzL H ?_ ?_); (focus ((with_reducible refine cutS ?_); (first | (with_reducible apply cutL_0) | (with_reducible apply cutL_1) | (with_reducible apply cutL_2) | (with_reducible apply cutL_3) | (with_reducible apply cutL_4) | (with_reducible apply cutL_5) | (with_reducible apply cutL_6) | (with_reducible apply cutL_7) | (with_reducible apply cutL_8) | (with_reducible apply cutL_9) | (with_reducible apply cutL_10) | (with_reducible apply cutL_11) | (with_reducible apply cutL_12)); (repeat' (first       | (exact lowB_0) | (refine lowB_c ?_) | (refine lowB_d ?_) | (with_reducible refine cutT_un ?_)       | (with_reducible refine cutT_c ?_ ?_)       | (with_reducible exact cutT_nil)       | (with_reducible exact cutV_c rfl)       | exact cutV_c rfl       | (with_reducible exact cutL_nil)       | (with_reducible refine cutL_c ?_ ?_)       | exact .c _ rfl       | exact .un _       | exact cutC_ms rfl rfl       | exact cutC_be rfl rfl       | exact cutC_nilsl0 | exact cutC_nilsl       | exact cutC_nilms rfl rfl       | (refine cutC_fms rfl ?_)       | (refine cutC_fbe rfl rfl ?_)       | (with_reducible refine cutV_ag ?_)       | (with_reducible refine cutV_tu ?_)       | (with_reducible exact cutAs_nil)       | (with_reducible refine cutAs_c ?_ ?_)       | (with_reducible refine cutA_ag ?_)       | (with_reducible refine cutA_k ?_)       | (with_reducible refine cutV_k ?_)       | (with_reducible exact rowsOk_nil)       | (refine rowsOk_live rfl ?_ ?_)       | (refine rowsOk_new0 rfl ?_) | (refine rowsOk_new rfl ?_)       | (with_reducible refine rowsOk_dead ?_)       | (with_reducible refine cutB_one ?_)       | (with_reducible exact cutB_nil)       | (with_reducible refine cutB_two ?_)       | (with_reducible exact cutE_n)       | (with_reducible refine cutE_c ?_ ?_)       | (with_reducible exact cutB_same)       | (with_reducible refine cutB_set ?_)       | exact cutB_same       | (refine cutB_set ?_)       | (refine cutB_rep ?_)       | (refine cutB_snoc ?_)       | (simp only [cInt, cStr, cBool, cLabel, cParcel, cZone, cRate, cLeg, cNetwork, cTrip, cBooking, cScan, cOrder, cWorld, cLine, cAct, cOffice, cItem, cChute, cInlet, cCentre, cThing, cBelief])       | (with_unfolding_all rfl))); (all_goals first | (exact dropped_of rfl) | exact none))); (clear H; intro z_ H))
    | ((with_reducible refine pwp_frz H ?_ ?_); (focus ((with_reducible refine cutS ?_); (first | (with_reducible apply cutL_0) | (with_reducible apply cutL_1) | (with_reducible apply cutL_2) | (with_reducible apply cutL_3) | (with_reducible apply cutL_4) | (with_reducible apply cutL_5) | (with_reducible apply cutL_6) | (with_reducible apply cutL_7) | (with_reducible apply cutL_8) | (with_reducible apply cutL_9) | (with_reducible apply cutL_10) | (with_reducible apply cutL_11) | (with_reducible apply cutL_12)); (repeat' (first       | (exact lowB_0) | (refine lowB_c ?_) | (refine lowB_d ?_) | (with_reducible refine cutT_un ?_)       | (with_reducible refine cutT_c ?_ ?_)       | (with_reducible exact cutT_nil)       | (with_reducible exact cutV_c rfl)       | exact cutV_c rfl       | (with_reducible exact cutL_nil)       | (with_reducible refine cutL_c ?_ ?_)       | exact .c _ rfl       | exact .un _       | exact cutC_ms rfl rfl       | exact cutC_be rfl rfl       | exact cutC_nilsl0 | exact cutC_nilsl       | exact cutC_nilms rfl rfl       | (refine cutC_fms rfl ?_)       | (refine cutC_fbe rfl rfl ?_)       | (with_reducible refine cutV_ag ?_)       | (with_reducible refine cutV_tu ?_)       | (with_reducible exact cutAs_nil)       | (with_reducible refine cutAs_c ?_ ?_)       | (with_reducible refine cutA_ag ?_)       | (with_reducible refine cutA_k ?_)       | (with_reducible refine cutV_k ?_)       | (with_reducible exact rowsOk_nil)       | (refine rowsOk_live rfl ?_ ?_)       | (refine rowsOk_new0 rfl ?_) | (refine rowsOk_new rfl ?_)       | (with_reducible refine rowsOk_dead ?_)       | (with_reducible refine cutB_one ?_)       | (with_reducible exact cutB_nil)       | (with_reducible refine cutB_two ?_)       | (with_reducible exact cutE_n)       | (with_reducible refine cutE_c ?_ ?_)       | (with_reducible exact cutB_same)       | (with_reducible refine cutB_set ?_)       | exact cutB_same       | (refine cutB_set ?_)       | (refine cutB_rep ?_)       | (refine cutB_snoc ?_)       | (simp only [cInt, cStr, cBool, cLabel, cParcel, cZone, cRate, cLeg, cNetwork, cTrip, cBooking, cScan, cOrder, cWorld, cLine, cAct, cOffice, cItem, cChute, cInlet, cCentre, cThing, cBelief])       | (with_unfolding_all rfl))); (all_goals first | (exact dropped_of rfl) | exact none))); (clear H; intro H))
    | ((with_reducible refine pwp_seq ?_); intro K_ hK)
    | ((with_reducible refine pwp_block ?_))
    | ((with_reducible refine pwp_region ?_); simp only [go_sem, Nat.reduceAdd, Nat.reduceSub, Nat.reduceMul, Nat.reduceLT, Nat.reduceLeDiff, Nat.reduceEqDiff, if_true, eq_self])
    | ((with_reducible refine pwp_skip ?_); simp only [thenP_normal, blockP_normal])
    | ((with_reducible refine pwp_exit ?_); (simp only [thenP_exit, blockP_exit, thenP_normal, blockP_normal, if_true, if_false, eq_self, Nat.reduceEqDiff, Nat.one_ne_zero, Nat.zero_ne_one]); (try simp only [bexR, bsr, bsl] at H))
    | ((with_reducible refine pwp_ret ?_); (try simp only [thenP_ret, blockP_ret]))
    | ((with_reducible refine hQ _ _ ?_); (try simp only [bexR, bsr, bsl] at H); replace H := Hret H; subst H; simp only [Fin, resP, oneP, go_sem, Nat.reduceAdd, Nat.reduceSub, Nat.reduceMul, Nat.reduceLT, Nat.reduceLeDiff, Nat.reduceEqDiff, if_true, eq_self]; (with_reducible refine cutS ?_); (first | (with_reducible apply cutL_0) | (with_reducible apply cutL_1) | (with_reducible apply cutL_2) | (with_reducible apply cutL_3) | (with_reducible apply cutL_4) | (with_reducible apply cutL_5) | (with_reducible apply cutL_6) | (with_reducible apply cutL_7) | (with_reducible apply cutL_8) | (with_reducible apply cutL_9) | (with_reducible apply cutL_10) | (with_reducible apply cutL_11) | (with_reducible apply cutL_12)); (repeat' (first       | (exact lowB_0) | (refine lowB_c ?_) | (refine lowB_d ?_) | (with_reducible refine cutT_un ?_)       | (with_reducible refine cutT_c ?_ ?_)       | (with_reducible exact cutT_nil)       | (with_reducible exact cutV_c rfl)       | exact cutV_c rfl       | (with_reducible exact cutL_nil)       | (with_reducible refine cutL_c ?_ ?_)       | exact .c _ rfl       | exact .un _       | exact cutC_ms rfl rfl       | exact cutC_be rfl rfl       | exact cutC_nilsl0 | exact cutC_nilsl       | exact cutC_nilms rfl rfl       | (refine cutC_fms rfl ?_)       | (refine cutC_fbe rfl rfl ?_)       | (with_reducible refine cutV_ag ?_)       | (with_reducible refine cutV_tu ?_)       | (with_reducible exact cutAs_nil)       | (with_reducible refine cutAs_c ?_ ?_)       | (with_reducible refine cutA_ag ?_)       | (with_reducible refine cutA_k ?_)       | (with_reducible refine cutV_k ?_)       | (with_reducible exact rowsOk_nil)       | (refine rowsOk_live rfl ?_ ?_)       | (refine rowsOk_new0 rfl ?_) | (refine rowsOk_new rfl ?_)       | (with_reducible refine rowsOk_dead ?_)       | (with_reducible refine cutB_one ?_)       | (with_reducible exact cutB_nil)       | (with_reducible refine cutB_two ?_)       | (with_reducible exact cutE_n)       | (with_reducible refine cutE_c ?_ ?_)       | (with_reducible exact cutB_same)       | (with_reducible refine cutB_set ?_)       | exact cutB_same       | (refine cutB_set ?_)       | (refine cutB_rep ?_)       | (refine cutB_snoc ?_)       | (simp only [cInt, cStr, cBool, cLabel, cParcel, cZone, cRate, cLeg, cNetwork, cTrip, cBooking, cScan, cOrder, cWorld, cLine, cAct, cOffice, cItem, cChute, cInlet, cCentre, cThing, cBelief])       | (with_unfolding_all rfl))); (all_goals first | (exact dropped_of rfl) | exact none))
    | ((with_reducible refine hQn _ _ ?_); (try simp only [bexR, bsr, bsl] at H); replace H := Hret H; subst H; simp only [Fin, resP, oneP, go_sem, Nat.reduceAdd, Nat.reduceSub, Nat.reduceMul, Nat.reduceLT, Nat.reduceLeDiff, Nat.reduceEqDiff, if_true, eq_self]; (with_reducible refine cutS ?_); (first | (with_reducible apply cutL_0) | (with_reducible apply cutL_1) | (with_reducible apply cutL_2) | (with_reducible apply cutL_3) | (with_reducible apply cutL_4) | (with_reducible apply cutL_5) | (with_reducible apply cutL_6) | (with_reducible apply cutL_7) | (with_reducible apply cutL_8) | (with_reducible apply cutL_9) | (with_reducible apply cutL_10) | (with_reducible apply cutL_11) | (with_reducible apply cutL_12)); (repeat' (first       | (exact lowB_0) | (refine lowB_c ?_) | (refine lowB_d ?_) | (with_reducible refine cutT_un ?_)       | (with_reducible refine cutT_c ?_ ?_)       | (with_reducible exact cutT_nil)       | (with_reducible exact cutV_c rfl)       | exact cutV_c rfl       | (with_reducible exact cutL_nil)       | (with_reducible refine cutL_c ?_ ?_)       | exact .c _ rfl       | exact .un _       | exact cutC_ms rfl rfl       | exact cutC_be rfl rfl       | exact cutC_nilsl0 | exact cutC_nilsl       | exact cutC_nilms rfl rfl       | (refine cutC_fms rfl ?_)       | (refine cutC_fbe rfl rfl ?_)       | (with_reducible refine cutV_ag ?_)       | (with_reducible refine cutV_tu ?_)       | (with_reducible exact cutAs_nil)       | (with_reducible refine cutAs_c ?_ ?_)       | (with_reducible refine cutA_ag ?_)       | (with_reducible refine cutA_k ?_)       | (with_reducible refine cutV_k ?_)       | (with_reducible exact rowsOk_nil)       | (refine rowsOk_live rfl ?_ ?_)       | (refine rowsOk_new0 rfl ?_) | (refine rowsOk_new rfl ?_)       | (with_reducible refine rowsOk_dead ?_)       | (with_reducible refine cutB_one ?_)       | (with_reducible exact cutB_nil)       | (with_reducible refine cutB_two ?_)       | (with_reducible exact cutE_n)       | (with_reducible refine cutE_c ?_ ?_)       | (with_reducible exact cutB_same)       | (with_reducible refine cutB_set ?_)       | exact cutB_same       | (refine cutB_set ?_)       | (refine cutB_rep ?_)       | (refine cutB_snoc ?_)       | (simp only [cInt, cStr, cBool, cLabel, cParcel, cZone, cRate, cLeg, cNetwork, cTrip, cBooking, cScan, cOrder, cWorld, cLine, cAct, cOffice, cItem, cChute, cInlet, cCentre, cThing, cBelief])       | (with_unfolding_all rfl))); (all_goals first | (exact dropped_of rfl) | exact none))
    | ((with_reducible refine gateS ?_); (refine gate2_intro (fun hg => Hc1k H hg ?_) (fun hg => Hc2k H hg ?_)) <;> (clear H; intro H; simp only [go_sem, Nat.reduceAdd, Nat.reduceSub, Nat.reduceMul, Nat.reduceLT, Nat.reduceLeDiff, Nat.reduceEqDiff, if_true, eq_self]))
    | ((with_reducible refine pwp_condE ?_); simp only [evP_tmp, getD_z, getD_s, evP_bool]; (first | (with_reducible refine condP_tt ?_) | (with_reducible refine condP_ff ?_) | ((refine condP_intro (fun hg => Hc1k H hg ?_) (fun hg => Hc2k H hg ?_)) <;> (clear H; intro H))))
    | ((with_reducible refine idxS ?_); replace H := Hcall H; obtain ⟨y_, hy, H⟩ := H; (with_reducible apply idx_sl hy); (focus (first | (simp only [go_sem]; done) | (simp only [go_sem]; decide))); (focus (first | rfl | (simp only [go_sem]; rfl))); simp only [go_sem, Nat.reduceAdd, Nat.reduceSub, Nat.reduceMul, Nat.reduceLT, Nat.reduceLeDiff, Nat.reduceEqDiff, if_true, eq_self])
    | ((with_reducible refine idxM ?_); replace H := Hcall H; obtain ⟨y_, hy, H⟩ := H; (refine idx_msb hy (by rfl) (by first | (simp only [go_sem]; done) | (simp only [go_sem]; decide)) (by first | rfl | (simp only [go_sem]; rfl)) ?_); simp only [go_sem, Nat.reduceAdd, Nat.reduceSub, Nat.reduceMul, Nat.reduceLT, Nat.reduceLeDiff, Nat.reduceEqDiff, if_true, eq_self])
    | ((with_reducible refine idxB ?_); replace H := Hcall H; obtain ⟨y_, hy, H⟩ := H; (with_reducible apply idx_str hy); (focus (simp only [go_sem])); simp only [go_sem, Nat.reduceAdd, Nat.reduceSub, Nat.reduceMul, Nat.reduceLT, Nat.reduceLeDiff, Nat.reduceEqDiff, if_true, eq_self])
    | ((with_reducible refine callS ?_); replace H := Hcall H; obtain ⟨y_, hy, H⟩ := H; (first | ((with_reducible apply call_deep); (focus (exact CT.ok hy)); (focus (simp [isCA, isC, isC1])); (focus (exact Nat.le_of_ble_eq_true rfl)); (focus (first | exact hm_nil | (repeat (first | exact hm_one | exact hm_oneT | exact hm_e | (refine hm_c hm_one ?_) | (refine hm_c hm_oneT ?_) | (refine hm_c hm_e ?_) | (refine hm_none ?_))))); (focus (first | exact gV_ag rfl | exact gV_tu rfl | exact gV_agM rfl | exact gV_tuM rfl | exact (fun h => (by cases h)) | (simp [CT.res, goodV, goodA, goodC]))); (simp only [CT.res, CT.mem, go_sem, Nat.reduceAdd, Nat.reduceSub, Nat.reduceMul, Nat.reduceLT, Nat.reduceLeDiff, Nat.reduceEqDiff, if_true, eq_self])) | ((with_reducible apply call_deep); (focus ((refine CallM.weak (CT.ok hy) ?_); (repeat' (first | exact SubA.n | (refine SubA.c ?_ ?_) | exact SubV.c (SubC.r _) | (refine SubV.ag ?_) | exact SubL.n | (refine SubL.c ?_ ?_) | exact SubC.r _ | exact SubC.nil _)))); (focus (simp [isCA, isC, isC1])); (focus (exact Nat.le_of_ble_eq_true rfl)); (focus (first | exact hm_nil | (repeat (first | exact hm_one | exact hm_oneT | exact hm_e | (refine hm_c hm_one ?_) | (refine hm_c hm_oneT ?_) | (refine hm_c hm_e ?_) | (refine hm_none ?_))))); (focus (first | exact gV_ag rfl | exact gV_tu rfl | exact gV_agM rfl | exact gV_tuM rfl | exact (fun h => (by cases h)) | (simp [CT.res, goodV, goodA, goodC]))); (simp only [CT.res, CT.mem, go_sem, Nat.reduceAdd, Nat.reduceSub, Nat.reduceMul, Nat.reduceLT, Nat.reduceLeDiff, Nat.reduceEqDiff, if_true, eq_self])) | ((with_reducible apply call_flat); (focus (first | (simp only [snapA, snapV, snapC, snapL, live_look, look_z, look_s, rowQ_map, drop_mp, take_mp, List.forall_mem_nil, true_and, and_true]; (first | exact CT.ok hy | (simp only [all_nil, all_cons, isC, isC1, true_and, and_true]; exact CT.ok hy))) | (simp only [snapA, snapV, snapC, snapL, live_look, look_z, look_s, rowQ_map, drop_mp, take_mp, List.forall_mem_nil, true_and, and_true]; (first | ((refine CallM.weak (CT.ok hy) ?_); (repeat' (first | exact SubA.n | (refine SubA.c ?_ ?_) | exact SubV.c (SubC.r _) | (refine SubV.ag ?_) | exact SubL.n | (refine SubL.c ?_ ?_) | exact SubC.r _ | exact SubC.nil _))) | (simp only [all_nil, all_cons, isC, isC1, true_and, and_true]; ((refine CallM.weak (CT.ok hy) ?_); (repeat' (first | exact SubA.n | (refine SubA.c ?_ ?_) | exact SubV.c (SubC.r _) | (refine SubV.ag ?_) | exact SubL.n | (refine SubL.c ?_ ?_) | exact SubC.r _ | exact SubC.nil _)))))))); (focus (exact Nat.le_of_ble_eq_true rfl)); (focus (first | exact hm_nil | (repeat (first | exact hm_one | exact hm_oneT | exact hm_e | (refine hm_c hm_one ?_) | (refine hm_c hm_oneT ?_) | (refine hm_c hm_e ?_) | (refine hm_none ?_))))); (focus (first | exact gV_agF rfl | exact (fun _ => rfl) | (simp [CT.res, goodV, goodA, goodC, isF]))); (simp only [CT.res, CT.mem, go_sem, Nat.reduceAdd, Nat.reduceSub, Nat.reduceMul, Nat.reduceLT, Nat.reduceLeDiff, Nat.reduceEqDiff, if_true, eq_self]))))
    | ((with_reducible refine slcS ?_); replace H := Hchk H; obtain ⟨hc, H⟩ := H; (first | ((with_reducible apply slice_sl hc); (focus rfl); (focus rfl); (focus (first | (simp only [go_sem]; done) | (simp only [go_sem]; decide))); (focus (first | rfl | (intro x_; rfl))); simp only [go_sem, Nat.reduceAdd, Nat.reduceSub, Nat.reduceMul, Nat.reduceLT, Nat.reduceLeDiff, Nat.reduceEqDiff, if_true, eq_self]) | ((refine slice_msb hc (by rfl) (by rfl) (by rfl) (by first | (simp only [go_sem]; done) | (simp only [go_sem]; decide)) (by first | rfl | (simp only [go_sem]; rfl)) ?_); simp only [go_sem, Nat.reduceAdd, Nat.reduceSub, Nat.reduceMul, Nat.reduceLT, Nat.reduceLeDiff, Nat.reduceEqDiff, if_true, eq_self]) | ((with_reducible apply slice_str hc); (focus rfl); (focus rfl); (focus (simp only [go_sem])); simp only [go_sem, Nat.reduceAdd, Nat.reduceSub, Nat.reduceMul, Nat.reduceLT, Nat.reduceLeDiff, Nat.reduceEqDiff, if_true, eq_self])))
    | ((with_reducible refine appS ?_); replace H := Hchk H; obtain ⟨hc, H⟩ := H; (first | (refine app_msb hc (by first | (simp only [go_sem]; done) | (simp only [go_sem]; rfl)) (by first | (simp only [go_sem]; done) | (simp only [go_sem]; rfl)) (by first | (simp only [go_sem]; done) | (simp only [go_sem]; rfl)) (by first | (simp only [go_sem]; done) | (simp only [go_sem]; rfl)) (by rfl) (by first | rfl | exact src_ss' (by rfl) (by rfl) (by rfl)) rfl rfl (by intro x_; rfl) rfl ?_) | (refine app_nlb hc (by first | (simp only [go_sem]; done) | (simp only [go_sem]; rfl)) (by first | (simp only [go_sem]; done) | (simp only [go_sem]; rfl)) (by first | (simp only [go_sem]; done) | (simp only [go_sem]; rfl)) (by first | (simp only [go_sem]; done) | (simp only [go_sem]; rfl)) (by first | rfl | exact src_ss' (by rfl) (by rfl) (by rfl)) rfl rfl (by intro x_; rfl) ?_)); simp only [go_sem, Nat.reduceAdd, Nat.reduceSub, Nat.reduceMul, Nat.reduceLT, Nat.reduceLeDiff, Nat.reduceEqDiff, if_true, eq_self])
    | ((with_reducible refine mkS ?_); replace H := Hchk H; obtain ⟨hc, H⟩ := H; (refine make_b hc (by first | (simp only [go_sem]; done) | (simp only [go_sem]; rfl)) (by first | (simp only [go_sem]; done) | (simp only [go_sem]; rfl)) (by first | (simp only [go_sem]; done) | (simp only [go_sem]; rfl)) (by first | (simp only [go_sem]; done) | (simp only [go_sem]; rfl)) rfl rfl ?_); simp only [go_sem, Nat.reduceAdd, Nat.reduceSub, Nat.reduceMul, Nat.reduceLT, Nat.reduceLeDiff, Nat.reduceEqDiff, if_true, eq_self])
    | ((with_reducible refine optS ?_); (first | (with_reducible refine opt_if (by decide) ?_) | (replace H := Hchk H; obtain ⟨hc, H⟩ := H; (first | (refine opt_if hc ?_) | (refine opt_if (of_decide_eq_true hc) ?_) | (refine opt_if ⟨rfl, of_decide_eq_true hc⟩ ?_)))); simp only [go_sem, Nat.reduceAdd, Nat.reduceSub, Nat.reduceMul, Nat.reduceLT, Nat.reduceLeDiff, Nat.reduceEqDiff, if_true, eq_self])
    | ((with_reducible refine loopS ?_); (refine pwp_loopH (Hlp H) ?_ ?_); (focus (simp only [LoopE.T, LoopE.M]; (with_reducible refine cutS ?_); (first | (with_reducible apply cutL_0) | (with_reducible apply cutL_1) | (with_reducible apply cutL_2) | (with_reducible apply cutL_3) | (with_reducible apply cutL_4) | (with_reducible apply cutL_5) | (with_reducible apply cutL_6) | (with_reducible apply cutL_7) | (with_reducible apply cutL_8) | (with_reducible apply cutL_9) | (with_reducible apply cutL_10) | (with_reducible apply cutL_11) | (with_reducible apply cutL_12)); (repeat' (first       | (exact lowB_0) | (refine lowB_c ?_) | (refine lowB_d ?_) | (with_reducible refine cutT_un ?_)       | (with_reducible refine cutT_c ?_ ?_)       | (with_reducible exact cutT_nil)       | (with_reducible exact cutV_c rfl)       | exact cutV_c rfl       | (with_reducible exact cutL_nil)       | (with_reducible refine cutL_c ?_ ?_)       | exact .c _ rfl       | exact .un _       | exact cutC_ms rfl rfl       | exact cutC_be rfl rfl       | exact cutC_nilsl0 | exact cutC_nilsl       | exact cutC_nilms rfl rfl       | (refine cutC_fms rfl ?_)       | (refine cutC_fbe rfl rfl ?_)       | (with_reducible refine cutV_ag ?_)       | (with_reducible refine cutV_tu ?_)       | (with_reducible exact cutAs_nil)       | (with_reducible refine cutAs_c ?_ ?_)       | (with_reducible refine cutA_ag ?_)       | (with_reducible refine cutA_k ?_)       | (with_reducible refine cutV_k ?_)       | (with_reducible exact rowsOk_nil)       | (refine rowsOk_live rfl ?_ ?_)       | (refine rowsOk_new0 rfl ?_) | (refine rowsOk_new rfl ?_)       | (with_reducible refine rowsOk_dead ?_)       | (with_reducible refine cutB_one ?_)       | (with_reducible exact cutB_nil)       | (with_reducible refine cutB_two ?_)       | (with_reducible exact cutE_n)       | (with_reducible refine cutE_c ?_ ?_)       | (with_reducible exact cutB_same)       | (with_reducible refine cutB_set ?_)       | exact cutB_same       | (refine cutB_set ?_)       | (refine cutB_rep ?_)       | (refine cutB_snoc ?_)       | (simp only [cInt, cStr, cBool, cLabel, cParcel, cZone, cRate, cLeg, cNetwork, cTrip, cBooking, cScan, cOrder, cWorld, cLine, cAct, cOffice, cItem, cChute, cInlet, cCentre, cThing, cBelief])       | (with_unfolding_all rfl))); (all_goals first | (exact dropped_of rfl) | exact none))); (clear H; intro n_ s_ H K_ hL; replace H := Hrd H; simp only [LoopE.T, LoopE.M]))
    | ((with_reducible refine pwp_draw (by kernel_rfl) ?_); simp only [go_sem, Nat.reduceAdd, Nat.reduceSub, Nat.reduceMul, Nat.reduceLT, Nat.reduceLeDiff, Nat.reduceEqDiff, if_true, eq_self])
    | ((with_reducible refine endD_intro (by kernel_rfl) ?_); simp only [thenP_normal, blockP_normal])
    | ((with_reducible refine hK _ _ ?_); clear hK)
    | (clear hK; (with_reducible refine hK _ _ ?_); clear hK)
    | (clear hK; clear hK; (with_reducible refine hK _ _ ?_); clear hK)
    | (clear hK; clear hK; clear hK; (with_reducible refine hK _ _ ?_); clear hK)
    | (clear hK; clear hK; clear hK; clear hK; (with_reducible refine hK _ _ ?_); clear hK)
    | (clear hK; clear hK; clear hK; clear hK; clear hK; (with_reducible refine hK _ _ ?_); clear hK)
    | ((with_reducible refine And.intro ?_ ?_); omega)
    | (simp only [nxt_app, nxd_app, atM_app]; simp only [go_sem, Nat.reduceAdd, Nat.reduceSub, Nat.reduceMul, Nat.reduceLT, Nat.reduceLeDiff, Nat.reduceEqDiff, if_true, eq_self])
    | (simp only [idxmap hy, go_sem, Nat.reduceAdd, Nat.reduceSub, Nat.reduceMul, Nat.reduceLT, Nat.reduceLeDiff, Nat.reduceEqDiff, if_true, eq_self])
    | ((with_reducible replace H := HexL H); (with_reducible refine hL _ _ _ H ?_); (try simp only [LoopE.T, LoopE.M]); (with_reducible refine cutS ?_); (first | (with_reducible apply cutL_0) | (with_reducible apply cutL_1) | (with_reducible apply cutL_2) | (with_reducible apply cutL_3) | (with_reducible apply cutL_4) | (with_reducible apply cutL_5) | (with_reducible apply cutL_6) | (with_reducible apply cutL_7) | (with_reducible apply cutL_8) | (with_reducible apply cutL_9) | (with_reducible apply cutL_10) | (with_reducible apply cutL_11) | (with_reducible apply cutL_12)); (repeat' (first       | (exact lowB_0) | (refine lowB_c ?_) | (refine lowB_d ?_) | (with_reducible refine cutT_un ?_)       | (with_reducible refine cutT_c ?_ ?_)       | (with_reducible exact cutT_nil)       | (with_reducible exact cutV_c rfl)       | exact cutV_c rfl       | (with_reducible exact cutL_nil)       | (with_reducible refine cutL_c ?_ ?_)       | exact .c _ rfl       | exact .un _       | exact cutC_ms rfl rfl       | exact cutC_be rfl rfl       | exact cutC_nilsl0 | exact cutC_nilsl       | exact cutC_nilms rfl rfl       | (refine cutC_fms rfl ?_)       | (refine cutC_fbe rfl rfl ?_)       | (with_reducible refine cutV_ag ?_)       | (with_reducible refine cutV_tu ?_)       | (with_reducible exact cutAs_nil)       | (with_reducible refine cutAs_c ?_ ?_)       | (with_reducible refine cutA_ag ?_)       | (with_reducible refine cutA_k ?_)       | (with_reducible refine cutV_k ?_)       | (with_reducible exact rowsOk_nil)       | (refine rowsOk_live rfl ?_ ?_)       | (refine rowsOk_new0 rfl ?_) | (refine rowsOk_new rfl ?_)       | (with_reducible refine rowsOk_dead ?_)       | (with_reducible refine cutB_one ?_)       | (with_reducible exact cutB_nil)       | (with_reducible refine cutB_two ?_)       | (with_reducible exact cutE_n)       | (with_reducible refine cutE_c ?_ ?_)       | (with_reducible exact cutB_same)       | (with_reducible refine cutB_set ?_)       | exact cutB_same       | (refine cutB_set ?_)       | (refine cutB_rep ?_)       | (refine cutB_snoc ?_)       | (simp only [cInt, cStr, cBool, cLabel, cParcel, cZone, cRate, cLeg, cNetwork, cTrip, cBooking, cScan, cOrder, cWorld, cLine, cAct, cOffice, cItem, cChute, cInlet, cCentre, cThing, cBelief])       | (with_unfolding_all rfl))); (all_goals first | (exact dropped_of rfl) | exact none))
    | ((with_reducible replace H := HexL H); clear hL; (with_reducible refine hL _ _ _ H ?_); (try simp only [LoopE.T, LoopE.M]); (with_reducible refine cutS ?_); (first | (with_reducible apply cutL_0) | (with_reducible apply cutL_1) | (with_reducible apply cutL_2) | (with_reducible apply cutL_3) | (with_reducible apply cutL_4) | (with_reducible apply cutL_5) | (with_reducible apply cutL_6) | (with_reducible apply cutL_7) | (with_reducible apply cutL_8) | (with_reducible apply cutL_9) | (with_reducible apply cutL_10) | (with_reducible apply cutL_11) | (with_reducible apply cutL_12)); (repeat' (first       | (exact lowB_0) | (refine lowB_c ?_) | (refine lowB_d ?_) | (with_reducible refine cutT_un ?_)       | (with_reducible refine cutT_c ?_ ?_)       | (with_reducible exact cutT_nil)       | (with_reducible exact cutV_c rfl)       | exact cutV_c rfl       | (with_reducible exact cutL_nil)       | (with_reducible refine cutL_c ?_ ?_)       | exact .c _ rfl       | exact .un _       | exact cutC_ms rfl rfl       | exact cutC_be rfl rfl       | exact cutC_nilsl0 | exact cutC_nilsl       | exact cutC_nilms rfl rfl       | (refine cutC_fms rfl ?_)       | (refine cutC_fbe rfl rfl ?_)       | (with_reducible refine cutV_ag ?_)       | (with_reducible refine cutV_tu ?_)       | (with_reducible exact cutAs_nil)       | (with_reducible refine cutAs_c ?_ ?_)       | (with_reducible refine cutA_ag ?_)       | (with_reducible refine cutA_k ?_)       | (with_reducible refine cutV_k ?_)       | (with_reducible exact rowsOk_nil)       | (refine rowsOk_live rfl ?_ ?_)       | (refine rowsOk_new0 rfl ?_) | (refine rowsOk_new rfl ?_)       | (with_reducible refine rowsOk_dead ?_)       | (with_reducible refine cutB_one ?_)       | (with_reducible exact cutB_nil)       | (with_reducible refine cutB_two ?_)       | (with_reducible exact cutE_n)       | (with_reducible refine cutE_c ?_ ?_)       | (with_reducible exact cutB_same)       | (with_reducible refine cutB_set ?_)       | exact cutB_same       | (refine cutB_set ?_)       | (refine cutB_rep ?_)       | (refine cutB_snoc ?_)       | (simp only [cInt, cStr, cBool, cLabel, cParcel, cZone, cRate, cLeg, cNetwork, cTrip, cBooking, cScan, cOrder, cWorld, cLine, cAct, cOffice, cItem, cChute, cInlet, cCentre, cThing, cBelief])       | (with_unfolding_all rfl))); (all_goals first | (exact dropped_of rfl) | exact none))
    | ((with_reducible refine jnX H hL ?_); (with_reducible refine cutS ?_); (first | (with_reducible apply cutL_0) | (with_reducible apply cutL_1) | (with_reducible apply cutL_2) | (with_reducible apply cutL_3) | (with_reducible apply cutL_4) | (with_reducible apply cutL_5) | (with_reducible apply cutL_6) | (with_reducible apply cutL_7) | (with_reducible apply cutL_8) | (with_reducible apply cutL_9) | (with_reducible apply cutL_10) | (with_reducible apply cutL_11) | (with_reducible apply cutL_12)); (repeat' (first       | (exact lowB_0) | (refine lowB_c ?_) | (refine lowB_d ?_) | (with_reducible refine cutT_un ?_)       | (with_reducible refine cutT_c ?_ ?_)       | (with_reducible exact cutT_nil)       | (with_reducible exact cutV_c rfl)       | exact cutV_c rfl       | (with_reducible exact cutL_nil)       | (with_reducible refine cutL_c ?_ ?_)       | exact .c _ rfl       | exact .un _       | exact cutC_ms rfl rfl       | exact cutC_be rfl rfl       | exact cutC_nilsl0 | exact cutC_nilsl       | exact cutC_nilms rfl rfl       | (refine cutC_fms rfl ?_)       | (refine cutC_fbe rfl rfl ?_)       | (with_reducible refine cutV_ag ?_)       | (with_reducible refine cutV_tu ?_)       | (with_reducible exact cutAs_nil)       | (with_reducible refine cutAs_c ?_ ?_)       | (with_reducible refine cutA_ag ?_)       | (with_reducible refine cutA_k ?_)       | (with_reducible refine cutV_k ?_)       | (with_reducible exact rowsOk_nil)       | (refine rowsOk_live rfl ?_ ?_)       | (refine rowsOk_new0 rfl ?_) | (refine rowsOk_new rfl ?_)       | (with_reducible refine rowsOk_dead ?_)       | (with_reducible refine cutB_one ?_)       | (with_reducible exact cutB_nil)       | (with_reducible refine cutB_two ?_)       | (with_reducible exact cutE_n)       | (with_reducible refine cutE_c ?_ ?_)       | (with_reducible exact cutB_same)       | (with_reducible refine cutB_set ?_)       | exact cutB_same       | (refine cutB_set ?_)       | (refine cutB_rep ?_)       | (refine cutB_snoc ?_)       | (simp only [cInt, cStr, cBool, cLabel, cParcel, cZone, cRate, cLeg, cNetwork, cTrip, cBooking, cScan, cOrder, cWorld, cLine, cAct, cOffice, cItem, cChute, cInlet, cCentre, cThing, cBelief])       | (with_unfolding_all rfl))); (all_goals first | (exact dropped_of rfl) | exact none))
    | (with_reducible exact (Hnone H).elim))) : p := h
theorem eqT_Label {n : Nat} {a b a2 b2 : Int} {c c2 : ByteArray} : eqT Try.prog (n + 3) 55 [vi a, vi b, vs c] [vi a2, vi b2, vs c2] = some (decide ((⟨a, b, c⟩ : YLabel) = (⟨a2, b2, c2⟩ : YLabel))) := by
  simp only [eqT, Try.underlying3, Try.underlying55, ts55, Try.underlying9, Program.fieldsOf, go_sem]
  simp [tc55, tc3, tc9]
  rw [baB]; rfl
@[go_sem] theorem eqK_Label {a b a2 b2 : Int} {c c2 : ByteArray} {KR : PV → Prop} : eqK Try.prog .eql 55 [vi a, vi b, vs c] [vi a2, vi b2, vs c2] KR = KR (vb (decide ((⟨a, b, c⟩ : YLabel) = (⟨a2, b2, c2⟩ : YLabel)))) := by unfold eqK; rw [show (10000 : Nat) = 9997 + 3 from rfl, eqT_Label, Try.underlying55]; simp only [te55, true_and]
@[go_sem] theorem neK_Label {a b a2 b2 : Int} {c c2 : ByteArray} {KR : PV → Prop} : eqK Try.prog .neq 55 [vi a, vi b, vs c] [vi a2, vi b2, vs c2] KR = KR (vb (!decide ((⟨a, b, c⟩ : YLabel) = (⟨a2, b2, c2⟩ : YLabel)))) := by unfold eqK; rw [show (10000 : Nat) = 9997 + 3 from rfl, eqT_Label, Try.underlying55]; simp only [te55, true_and]
end Go.Proofs.Ytooikkfldddjfaa

/- The mirror of impl_IsPlace, and that the code does just that (printed by a program of my own). -/
namespace Go.Proofs.Ytooikkfldddjfaa
set_option maxRecDepth 10000
open Go.RowKit
set_option linter.unusedVariables false
set_option maxHeartbeats 16000000
def m_impl_IsPlace_b0 (s : ByteArray) (s0 : Int) : Option (Int ⊕ (Unit ⊕ Bool)) :=
 cond (decide (s0 < (s.size : Int)))
 ((getB s s0).bind fun y1 =>
 cond (decide (y1 < 65))
 (some (.inr (.inr false)))
 ((getB s s0).bind fun y2 =>
 cond (decide (90 < y2))
 (some (.inr (.inr false)))
 (some (.inl (w64 (s0 + 1))))))
 (some (.inr (.inl ())))
instance (s : ByteArray) : LoopE (m_impl_IsPlace_b0 s) := ⟨fun s0 => [vs s, .un, .un, vi s0, .un, .un, .un, .un, .un, .un, .un, .un, .un, .un, .un, .un, .un, .un, .un, .un, .un, .un, .un], fun s0 => []⟩
def m_impl_IsPlace (s : ByteArray) : Option Bool :=
 (iterF (m_impl_IsPlace_b0 s) NN 0).bind (selim (fun o0 =>
 some (decide ((s.size : Int) = 3))) (fun r => some r))
theorem ok_impl_IsPlace (s : ByteArray) {r : Bool} (H : m_impl_IsPlace s = some r) : CallM Try.prog 96 [vs s] [] (vb r) [] := by
  replace H := H0 H
  unfold m_impl_IsPlace at H
  refine callM_of Try.func96 rfl Try.ntmps96 Try.results96 fun Q hQ hQn => ?_
  exact wk2
instance (s : ByteArray) : CT Try.prog (m_impl_IsPlace s) := ⟨96, [vs s], [], fun r => vb r, fun r => [], ok_impl_IsPlace s⟩
end Go.Proofs.Ytooikkfldddjfaa

/- The mirror of spec_l1In, and that the code does just that (printed by a program of my own). -/
namespace Go.Proofs.Ytooikkfldddjfaa
set_option maxRecDepth 10000
open Go.RowKit
set_option linter.unusedVariables false
set_option maxHeartbeats 16000000
def m_spec_l1In (x : Int) (least : Int) (most : Int) : Option Bool :=
 cond (decide (least ≤ x))
 (some (decide (x ≤ most)))
 (some false)
theorem ok_spec_l1In (x : Int) (least : Int) (most : Int) {r : Bool} (H : m_spec_l1In x least most = some r) : CallM Try.prog 50 [vi x, vi least, vi most] [] (vb r) [] := by
  replace H := H0 H
  unfold m_spec_l1In at H
  refine callM_of Try.func50 rfl Try.ntmps50 Try.results50 fun Q hQ hQn => ?_
  exact wk2
instance (x : Int) (least : Int) (most : Int) : CT Try.prog (m_spec_l1In x least most) := ⟨50, [vi x, vi least, vi most], [], fun r => vb r, fun r => [], ok_spec_l1In x least most⟩
end Go.Proofs.Ytooikkfldddjfaa

/- The mirror of spec_IsPlace, and that the code does just that (printed by a program of my own). -/
namespace Go.Proofs.Ytooikkfldddjfaa
set_option maxRecDepth 10000
open Go.RowKit
set_option linter.unusedVariables false
set_option maxHeartbeats 16000000
def m_spec_IsPlace_b0 (s : ByteArray) (s0 : Int) : Option (Int ⊕ (Unit ⊕ Bool)) :=
 cond (decide (s0 < 3))
 ((getB s s0).bind fun y1 =>
 (m_spec_l1In (IntKind.i64.wrap y1) 65 90).bind fun y2 =>
 cond (!y2)
 (some (.inr (.inr false)))
 (some (.inl (w64 (s0 + 1)))))
 (some (.inr (.inl ())))
instance (s : ByteArray) : LoopE (m_spec_IsPlace_b0 s) := ⟨fun s0 => [vs s, .un, .un, vi s0, .un, .un, .un, .un, .un, .un, .un, .un, .un, .un, .un, .un, .un], fun s0 => []⟩
def m_spec_IsPlace (s : ByteArray) : Option Bool :=
 cond (!decide ((s.size : Int) = 3))
 (some false)
 ((iterF (m_spec_IsPlace_b0 s) NN 0).bind (selim (fun o0 =>
 some true) (fun r => some r)))
theorem ok_spec_IsPlace (s : ByteArray) {r : Bool} (H : m_spec_IsPlace s = some r) : CallM Try.prog 91 [vs s] [] (vb r) [] := by
  replace H := H0 H
  unfold m_spec_IsPlace at H
  refine callM_of Try.func91 rfl Try.ntmps91 Try.results91 fun Q hQ hQn => ?_
  exact wk2
instance (s : ByteArray) : CT Try.prog (m_spec_IsPlace s) := ⟨91, [vs s], [], fun r => vb r, fun r => [], ok_spec_IsPlace s⟩
end Go.Proofs.Ytooikkfldddjfaa

/- The mirror of impl_within, and that the code does just that (printed by a program of my own). -/
namespace Go.Proofs.Ytooikkfldddjfaa
set_option maxRecDepth 10000
open Go.RowKit
set_option linter.unusedVariables false
set_option maxHeartbeats 16000000
def m_impl_within (n : Int) (low : Int) (high : Int) : Option Bool :=
 cond (decide (low ≤ n))
 (some (decide (n ≤ high)))
 (some false)
theorem ok_impl_within (n : Int) (low : Int) (high : Int) {r : Bool} (H : m_impl_within n low high = some r) : CallM Try.prog 54 [vi n, vi low, vi high] [] (vb r) [] := by
  replace H := H0 H
  unfold m_impl_within at H
  refine callM_of Try.func54 rfl Try.ntmps54 Try.results54 fun Q hQ hQn => ?_
  exact wk2
instance (n : Int) (low : Int) (high : Int) : CT Try.prog (m_impl_within n low high) := ⟨54, [vi n, vi low, vi high], [], fun r => vb r, fun r => [], ok_impl_within n low high⟩
end Go.Proofs.Ytooikkfldddjfaa

/- The two sides' functions on numbers and places answer alike. -/
namespace Go.Proofs.Ytooikkfldddjfaa
set_option maxRecDepth 10000
open Go.RowKit
set_option linter.unusedVariables false
set_option linter.unusedSimpArgs false
theorem within_v (n l h : Int) : m_impl_within n l h = some (decide (l ≤ n) && decide (n ≤ h)) := by
  unfold m_impl_within; cases decide (l ≤ n) <;> rfl
theorem l1In_v (n l h : Int) : m_spec_l1In n l h = some (decide (l ≤ n) && decide (n ≤ h)) := by
  unfold m_spec_l1In; cases decide (l ≤ n) <;> rfl
theorem within_eq : @m_impl_within = @m_spec_l1In := by funext n l h; rw [within_v, l1In_v]
theorem getB_in {s : ByteArray} {i c : Int} (h : getB s i = some c) : 0 ≤ c ∧ c ≤ 255 := by
  unfold getB at h
  split at h
  · cases h
    unfold byteAt
    cases hb : s[i.toNat]? with
    | none => simp
    | some b =>
      have := b.toNat_lt
      simp only [Option.map_some, Option.getD_some]
      omega
  · cases h
theorem placeB_eq {s : ByteArray} (hs : s.size = 3) : m_impl_IsPlace_b0 s = m_spec_IsPlace_b0 s := by
  funext i
  unfold m_impl_IsPlace_b0 m_spec_IsPlace_b0
  rw [hs]
  cases hi : decide (i < 3) with
  | false => simp [hi]
  | true =>
    simp only [show ((3 : Nat) : Int) = 3 from rfl, hi, cond_true]
    cases hg : getB s i with
    | none => rfl
    | some y =>
      obtain ⟨h0, h1⟩ := getB_in hg
      simp only [Option.bind_some, hg]
      rw [show IntKind.i64.wrap y = y from w64_in (by omega), l1In_v]
      simp only [Option.bind_some]
      by_cases h2 : y < 65
      · simp [h2, show ¬ (65 ≤ y) by omega]
      · by_cases h3 : 90 < y
        · simp [h2, h3, show ¬ (y ≤ 90) by omega]
        · simp [h2, h3, show 65 ≤ y by omega, show y ≤ 90 by omega]
theorem getB_some {s : ByteArray} {i : Nat} (h : i < s.size) : ∃ c, getB s (i : Int) = some c := by
  unfold getB; exact ⟨_, if_pos ⟨by omega, by omega⟩⟩
/-- The loop over a place's bytes comes to an end. -/
theorem placeL_some {s : ByteArray} (hs : s.size ≤ 1152921504606846000) : ∀ (k i N : Nat), i + k = s.size → k < N → ∃ o, iterF (m_impl_IsPlace_b0 s) N (i : Int) = some o ∧ (o = .inl () ∨ o = .inr false) := by
  intro k
  induction k with
  | zero =>
    intro i N hi hk
    cases N with
    | zero => omega
    | succ N => exact ⟨.inl (), by simp [iterF, m_impl_IsPlace_b0, show ¬ ((i : Int) < s.size) by omega], .inl rfl⟩
  | succ k ih =>
    intro i N hi hk
    cases N with
    | zero => omega
    | succ N =>
      obtain ⟨c, hc⟩ := getB_some (s := s) (i := i) (by omega)
      have hw := w64_nat (i := i) (n := s.size) (by omega) (by omega)
      by_cases h2 : c < 65
      · exact ⟨.inr false, by simp [iterF, m_impl_IsPlace_b0, show (i : Int) < s.size by omega, hc, h2], .inr rfl⟩
      · by_cases h3 : 90 < c
        · exact ⟨.inr false, by simp [iterF, m_impl_IsPlace_b0, show (i : Int) < s.size by omega, hc, h2, h3], .inr rfl⟩
        · obtain ⟨o, ho, hoo⟩ := ih (i + 1) N (by omega) (by omega)
          refine ⟨o, ?_, hoo⟩
          simp only [iterF, m_impl_IsPlace_b0, decide_eq_true (show (i : Int) < s.size by omega), cond_true, hc, Option.bind_some, decide_eq_false h2, decide_eq_false h3, cond_false, hw]
          exact ho
theorem isPlace_eq {s : ByteArray} (hs : s.size ≤ 1152921504606846000) : m_impl_IsPlace s = m_spec_IsPlace s ∧ ∃ b, m_spec_IsPlace s = some b := by
  obtain ⟨o, ho, hoo⟩ := placeL_some hs s.size 0 NN (by omega) (by unfold NN; omega)
  have ho' : iterF (m_impl_IsPlace_b0 s) NN 0 = some o := ho
  by_cases h3 : s.size = 3
  · have e : m_spec_IsPlace s = (iterF (m_impl_IsPlace_b0 s) NN 0).bind (selim (fun _ => some true) (fun r => some r)) := by
      unfold m_spec_IsPlace; rw [placeB_eq h3, h3]; rfl
    have e2 : m_impl_IsPlace s = (iterF (m_impl_IsPlace_b0 s) NN 0).bind (selim (fun _ => some (decide ((s.size : Int) = 3))) (fun r => some r)) := rfl
    rw [e, e2, ho', h3]
    rcases hoo with rfl | rfl
    · exact ⟨rfl, _, rfl⟩
    · exact ⟨rfl, _, rfl⟩
  · have e : m_spec_IsPlace s = some false := by unfold m_spec_IsPlace; rw [decide_eq_false (by omega)]; rfl
    have e2 : m_impl_IsPlace s = some false := by
      unfold m_impl_IsPlace; rw [ho']
      rcases hoo with rfl | rfl
      · show some _ = some _; rw [decide_eq_false (by omega)]
      · rfl
    exact ⟨by rw [e, e2], _, e⟩
def B60 : Nat := 1152921504606846000
end Go.Proofs.Ytooikkfldddjfaa

/-
  DERIVED: THE SHELF's CONTRACTS AT THIS DUMP, IN PLAIN WORDS (tools/lay-plain.mjs out of 'TryShelf.lean', which tools/lay-shelf.mjs wrote): THE SAME DECLARATIONS UNDER THE SAME NAMES: 'import', 'namespace', 'open', 'def', 'theorem' AND NOTHING ELSE: no command of the shelf's: FOR A HAND-IN. Each laying: the table of numbers ('.._ren') and one theorem, a field a fact of the dump's own or the kernel's comparison; each contract: ONE APPLICATION.
-/
namespace Go.Proofs
open Go.Shelf
def Try.lays128_ren : Go.Shelf.Ren := ⟨fun | 128 => 117 | n => n, fun | 51 => 187 | 3 => 3 | 4 => 4 | 46 => 181 | 5 => 5 | 9 => 9 | n => n, fun | n => n⟩
theorem Try.lays128 : Go.Proofs.Lays.n128 Try.prog Try.lays128_ren := {
  mixed := by kernel_rfl
  f128 := Try.func117.trans (congrArg some (by kernel_rfl))
  t3 := Try.underlying3
  a3 := Try.isAgg3
  z3 := Try.sizeOf3
  v3 := Try.zeroValue3
  t4 := Try.underlying4
  a4 := Try.isAgg4
  z4 := Try.sizeOf4
  v4 := Try.zeroValue4
  t5 := Try.underlying5
  a5 := Try.isAgg5
  z5 := Try.sizeOf5
  v5 := Try.zeroValue5
  t9 := Try.underlying9
  a9 := Try.isAgg9
  z9 := Try.sizeOf9
  v9 := Try.zeroValue9
  t46 := Try.underlying181
  a46 := Try.isAgg181
  z46 := Try.sizeOf181
  v46 := Try.zeroValue181
  t51 := Try.underlying187
  a51 := Try.isAgg187
  z51 := Try.sizeOf187
  v51 := Try.zeroValue187 }
/-- bits.Len32: "Len32 returns the minimum number of bits required to represent x; the result is 0 for x == 0.": IT RETURNS 'Lib.bitLen x'; the world is as_ it was. ('h0', 'h1': x is a uint32.) (LAID: no walk: one application.) -/
theorem Try.bits_Len32 (x : Int) (w : World) (h0 : 0 ≤ x) (h1 : x ≤ 4294967295) :
    Calls Try.prog 117 #[.int .u32 x] w fun e w' => e = .returned (.int .i64 (Lib.bitLen x.toNat)) ∧ w' = w := Any.bits_Len32 Try.lays128 x w h0 h1
def Try.lays125_ren : Go.Shelf.Ren := ⟨fun | 125 => 115 | 128 => 117 | 129 => 118 | n => n, fun | 46 => 181 | 3 => 3 | 51 => 187 | 53 => 189 | 4 => 4 | 5 => 5 | 9 => 9 | n => n, fun | n => n⟩
theorem Try.lays125 : Go.Proofs.Lays.n125 Try.prog Try.lays125_ren := {
  mixed := by kernel_rfl
  f125 := Try.func115.trans (congrArg some (by kernel_rfl))
  f128 := Try.func117.trans (congrArg some (by kernel_rfl))
  f129 := Try.func118.trans (congrArg some (by kernel_rfl))
  t3 := Try.underlying3
  a3 := Try.isAgg3
  z3 := Try.sizeOf3
  v3 := Try.zeroValue3
  t4 := Try.underlying4
  a4 := Try.isAgg4
  z4 := Try.sizeOf4
  v4 := Try.zeroValue4
  t5 := Try.underlying5
  a5 := Try.isAgg5
  z5 := Try.sizeOf5
  v5 := Try.zeroValue5
  t9 := Try.underlying9
  a9 := Try.isAgg9
  z9 := Try.sizeOf9
  v9 := Try.zeroValue9
  t46 := Try.underlying181
  a46 := Try.isAgg181
  z46 := Try.sizeOf181
  v46 := Try.zeroValue181
  t51 := Try.underlying187
  a51 := Try.isAgg187
  z51 := Try.sizeOf187
  v51 := Try.zeroValue187
  t53 := Try.underlying189
  a53 := Try.isAgg189
  z53 := Try.sizeOf189
  v53 := Try.zeroValue189 }
/-- bits.Len: "Len returns the minimum number of bits required to represent x; the result is 0 for x == 0.": IT RETURNS 'Lib.bitLen x'; the world is as_ it was. (A uint has 64 bits in the model.) ITS CALLEE bits.Len64 IS MET BY ITS OWN CONTRACT OFF THE SHELF (lay that first). (LAID: no walk: one application.) -/
theorem Try.bits_Len (x : Int) (w : World) (h0 : 0 ≤ x) (h1 : x ≤ 18446744073709551615) :
    Calls Try.prog 115 #[.int .u64 x] w fun e w' => e = .returned (.int .i64 (Lib.bitLen x.toNat)) ∧ w' = w := Any.bits_Len Try.lays125 x w h0 h1
def Try.lays129_ren : Go.Shelf.Ren := ⟨fun | 129 => 118 | n => n, fun | 53 => 189 | 3 => 3 | 4 => 4 | 46 => 181 | 5 => 5 | 9 => 9 | n => n, fun | n => n⟩
theorem Try.lays129 : Go.Proofs.Lays.n129 Try.prog Try.lays129_ren := {
  mixed := by kernel_rfl
  f129 := Try.func118.trans (congrArg some (by kernel_rfl))
  t3 := Try.underlying3
  a3 := Try.isAgg3
  z3 := Try.sizeOf3
  v3 := Try.zeroValue3
  t4 := Try.underlying4
  a4 := Try.isAgg4
  z4 := Try.sizeOf4
  v4 := Try.zeroValue4
  t5 := Try.underlying5
  a5 := Try.isAgg5
  z5 := Try.sizeOf5
  v5 := Try.zeroValue5
  t9 := Try.underlying9
  a9 := Try.isAgg9
  z9 := Try.sizeOf9
  v9 := Try.zeroValue9
  t46 := Try.underlying181
  a46 := Try.isAgg181
  z46 := Try.sizeOf181
  v46 := Try.zeroValue181
  t53 := Try.underlying189
  a53 := Try.isAgg189
  z53 := Try.sizeOf189
  v53 := Try.zeroValue189 }
/-- bits.Len64: "Len64 returns the minimum number of bits required to represent x; the result is 0 for x == 0.": IT RETURNS 'Lib.bitLen x'; the world is as_ it was. ('h0', 'h1': x is a uint64.) (LAID: no walk: one application.) -/
theorem Try.bits_Len64 (x : Int) (w : World) (h0 : 0 ≤ x) (h1 : x ≤ 18446744073709551615) :
    Calls Try.prog 118 #[.int .u64 x] w fun e w' => e = .returned (.int .i64 (Lib.bitLen x.toNat)) ∧ w' = w := Any.bits_Len64 Try.lays129 x w h0 h1
end Go.Proofs

/- impl.SortSides at three sides: sort.Sort(sort.Reverse(sort.IntSlice(..))), walked once. -/
namespace Go.Proofs.Ytooikkfldddjfaa
set_option maxRecDepth 10000
open Go.RowKit
set_option linter.unusedVariables false
set_option linter.unusedSimpArgs false
set_option maxRecDepth 100000
abbrev RP (b : Nat) : Value := .pointer (some ⟨b, 0, none⟩)
theorem rev_emb (w : World) (b f : Nat) (sv : Value) (nm : String) (sg : TypeId) (h : w.cell? ⟨b, 0, none⟩ = some (.iface 178 sv))
    (hm : ((Try.prog.info? 183).map fun i => i.methods.find? (·.name == nm)) = some (some ⟨nm, sg, #[⟨185, 0, true⟩], none⟩))
    (hi : Sem.run Try.prog (method (Try.prog.types.size + 99) 178 sv nm) w = .ok (f, sv) w) :
    Sem.run Try.prog (method (Try.prog.types.size + 100) 183 (RP b) nm) w = .ok (f, sv) w := by
  obtain ⟨i, hi', hm'⟩ := Option.map_eq_some_iff.1 hm
  have u := run_underlying Try.underlying185
  unfold method
  have hl : Sem.run Try.prog (Sem.load Mode.plain ({ block := b, off := 0 } : Addr) Sem.pure) w = .ok (.iface 178 sv) w := by
    simp [Sem.run, h]
  simp [typeInfo, hi', hm', follow, Place.get, u, asAddr, loadVar, isAgg, load, h, fieldPlace]
  rw [show ({ block := b, off := 0 } : Addr).add 0 = { block := b, off := 0 } from rfl, hl]
  exact hi
theorem rev_less (w : World) (b : Nat) (sv : Value) (h : w.cell? ⟨b, 0, none⟩ = some (.iface 178 sv)) :
    Sem.run Try.prog (method (Try.prog.types.size + 100) 183 (RP b) "Less") w = .ok (153, .agg #[.iface 178 sv]) w := by
  have hm : ((Try.prog.info? 183).map fun i => i.methods.find? (·.name == "Less")) = some (some ⟨ "Less", 195, #[], some (153, false)⟩) := by kernel_rfl
  obtain ⟨i, hi', hm'⟩ := Option.map_eq_some_iff.1 hm
  have u := run_underlying Try.underlying183
  have u2 := run_underlying Try.underlying185
  unfold method
  have hlv : Sem.run Try.prog (loadVar 185 ⟨b, 0, none⟩) w = .ok (.agg #[.iface 178 sv]) w := by
    have a1 := Try.isAgg185
    have a2 := Try.sizeOf185
    have hl : Sem.run Try.prog (Sem.load Mode.plain ({ block := b, off := 0 } : Addr) Sem.pure) w = .ok (.iface 178 sv) w := by
      simp [Sem.run, h]
    unfold loadVar loadCells
    simp [a1, a2, loadCellsFrom, load]
    rw [show ({ block := b, off := 0 } : Addr).add 0 = { block := b, off := 0 } from rfl, hl]
    rfl
  have hk : ∀ (x y : ByteArray) (w : World), Sem.run Try.prog (Builtin.ssaWrapNilChk_ #[183] 183 #[RP b, .string x, .string y]) w = .ok (RP b) w := fun _ _ _ => rfl
  have hf : Sem.run Try.prog (follow [] 183 (Place.val (RP b))) w = .ok (183, Place.val (RP b)) w := rfl
  have hr : ∀ x, Sem.run Try.prog (receiverAt 183 (Place.val (RP b)) false (some x)) w = .ok (.agg #[.iface 178 sv]) w := by
    intro x
    unfold receiverAt
    simp [u, Place.get, strVal, hk, asAddr, hlv]
  simp [typeInfo, hi', hm', hf, hr]
open Go.Lib Go.Sort
set_option maxHeartbeats 4000000
abbrev SV (blk off n c : Nat) : Value := .slice (some ⟨blk, off, none⟩) n c
theorem is_len (blk off n c : Nat) (w : World) : Sem.run Try.prog (method (Try.prog.types.size + 99) 178 (SV blk off n c) "Len") w = .ok (149, SV blk off n c) w := by kernel_rfl
theorem is_swap (blk off n c : Nat) (w : World) : Sem.run Try.prog (method (Try.prog.types.size + 99) 178 (SV blk off n c) "Swap") w = .ok (152, SV blk off n c) w := by kernel_rfl
theorem is_less (blk off n c : Nat) (w : World) : Sem.run Try.prog (method (Try.prog.types.size + 100) 178 (SV blk off n c) "Less") w = .ok (150, SV blk off n c) w := by kernel_rfl
theorem isl_Less (blk off c size : Nat) (W : World) (G : Nat → Int) (hc : ∀ t, t < size → W.cell? ⟨blk, off + t, none⟩ = some (.int .i64 (G t))) (i j : Nat) (hi : i < size) (hj : j < size) (_hsz : size < 4611686018427387904) :
    Calls Try.prog 150 #[SV blk off size c, .int .i64 i, .int .i64 j] W fun e w' => e = .returned (.bool (decide (G i < G j))) ∧ ∃ q, w' = W.drewN q := by
  have ci := hc i hi
  have cj := hc j hj
  go_enter Try.func150, Try.ntmps150
  go_wp2
  go_quiet (fail)
  go_wp2
  go_ret
  exact ⟨rfl, nq, rfl⟩
theorem isl_Swap (blk off c size : Nat) (W : World) (x y : Int) (i j : Nat) (hi : i < size) (hj : j < size) (_hsz : size < 4611686018427387904)
    (ci : W.cell? ⟨blk, off + i, none⟩ = some (.int .i64 x)) (cj : W.cell? ⟨blk, off + j, none⟩ = some (.int .i64 y)) (fi : W.frozen? ⟨blk, off + i, none⟩ = false) (fj : W.frozen? ⟨blk, off + j, none⟩ = false) :
    Calls Try.prog 152 #[SV blk off size c, .int .i64 i, .int .i64 j] W fun e w' => e = .returned (.tuple #[]) ∧ ∃ q, w' = ((W.setCell ⟨blk, off + i, none⟩ (.int .i64 y)).setCell ⟨blk, off + j, none⟩ (.int .i64 x)).drewN q := by
  obtain ⟨v', hy'⟩ := cell?_setCell_some (w := W) (p := ⟨blk, off + i, none⟩) (x := .int .i64 y) (q := ⟨blk, off + j, none⟩) cj
  go_enter Try.func152, Try.ntmps152
  go_wp2
  go_region
  all_goals (try go_wp2)
  all_goals go_end0
  all_goals exact ⟨rfl, 1, rfl⟩
theorem isl_Len (blk off c size : Nat) (W : World) : Calls Try.prog 149 #[SV blk off size c] W fun e w' => e = .returned (.int .i64 size) ∧ w' = W := by
  go_enter Try.func149, Try.ntmps149
  go_wp2
  go_ret
  exact ⟨rfl, rfl⟩
theorem rev_Less (blk off c size : Nat) (W : World) (G : Nat → Int) (hc : ∀ t, t < size → W.cell? ⟨blk, off + t, none⟩ = some (.int .i64 (G t))) (hb : blk < W.heap.size) (i j : Nat) (hi : i < size) (hj : j < size) (hsz : size < 4611686018427387904) :
    Calls Try.prog 153 #[.agg #[.iface 178 (SV blk off size c)], .int .i64 i, .int .i64 j] W fun e w' => e = .returned (.bool (decide (G j < G i))) ∧ ∃ o q, w' = (W.alloc o).drewN q := by
  have mL := is_less blk off size c
  have eL : ∀ args w, (callFunc 150 args).run Try.prog w = .ok (.enter 150 args) w := enters_of Try.func150 (by kernel_rfl) rfl
  simp at mL
  have hl : ∀ o, Calls Try.prog 150 #[SV blk off size c, .int .i64 j, .int .i64 i] (W.alloc o) fun e w' => e = .returned (.bool (decide (G j < G i))) ∧ ∃ q, w' = (W.alloc o).drewN q := fun o =>
    isl_Less blk off c size _ G (fun t ht => (Below.cell (Up.al o (Up.rfl' W)) (p := ⟨blk, off + t, none⟩) hb).trans (hc t ht)) j i hj hi hsz
  go_enter Try.func153, Try.ntmps153
  go_wp2_with (go_at_fn 150; refine (hl _).mono ?_; rintro e w' ⟨rfl, q, rfl⟩)
  go_ret
  exact ⟨rfl, _, q, rfl⟩
theorem SW.cellO {w0 W : World} {blk off : Nat} {dk : Array Int} (h : SW (Value.int .i64) w0 blk off dk W) {b o : Nat} (hb : b < w0.heap.size) (hne : b ≠ blk) : W.cell? ⟨b, o, none⟩ = w0.cell? ⟨b, o, none⟩ := by
  obtain ⟨n, os, rfl⟩ := h
  unfold sortWorld
  rw [cell?_grow _ _ _ (by simpa using hb), cell?_putRow_other _ _ _ _ _ _ (.inl hne)]
  rfl
def gtI (x y : Int) : Bool := decide (y < x)
theorem insSort (blk off c b bR : Nat) (d : Array Int) (w : World) (hH : Holds (Value.int .i64) w blk off d) (hblk : blk < w.heap.size) (hR : w.cell? ⟨bR, 0, none⟩ = some (.iface 178 (SV blk off d.size c))) (hRb : bR < w.heap.size) (hne : bR ≠ blk)
    (hab : 0 ≤ b) (hb : b ≤ d.size) (hsz : d.size < 4611686018427387904) :
    Calls Try.prog 119 #[.iface 183 (RP bR), .int .i64 0, .int .i64 b] w fun e w' => e = .returned (.tuple #[]) ∧ SW (Value.int .i64) w blk off (Sort.insertionSort gtI d 0 b) w' := by
  have eL : ∀ args w, (callFunc 153 args).run Try.prog w = .ok (.enter 153 args) w := enters_of Try.func153 (by kernel_rfl) rfl
  have eS : ∀ args w, (callFunc 152 args).run Try.prog w = .ok (.enter 152 args) w := enters_of Try.func152 (by kernel_rfl) rfl
  go_enter Try.func119, Try.ntmps119
  go_wp2
  go_loopw [6] (fun vi wr => ∃ (i : Nat) (dk : Array Int), vi = .int .i64 i ∧ 0 < i ∧ i ≤ b + 1 ∧ dk.size = d.size ∧ SW (Value.int .i64) w blk off dk wr ∧
      insOuter gtI 0 b i dk = insOuter gtI 0 b (0 + 1) d) (fun vi _ => b + 1 - (intOf vi).toNat)
  case atStart => exact ⟨1, d, by go_num, by omega, by omega, rfl, SW.start hH, rfl⟩
  case round =>
    obtain ⟨i, dk, rfl, hai, hib, hsk, hwr, hO⟩ := hrel
    have HO : Hid (insOuter gtI 0 b i dk = insOuter gtI 0 b (0 + 1) d) := hO
    clear hO
    go_wp2
    · go_loopw [7] (fun vj wr2 => ∃ (j : Nat) (dj : Array Int), vj = .int .i64 j ∧ j ≤ i ∧ dj.size = d.size ∧ SW (Value.int .i64) w blk off dj wr2 ∧
          insInner gtI 0 j dj = insInner gtI 0 i dk) (fun vj _ => (intOf vj).toNat)
      case atStart => exact ⟨i, dk, rfl, Nat.le_refl _, hsk, hwr, rfl⟩
      case round =>
        obtain ⟨j, dj, rfl, hji, hsj, hw2, hI⟩ := hrel
        have hlt : i < b := by assumption
        have HW : Hid (SW (Value.int .i64) w blk off dj wr) := hw2
        have HI : Hid (insInner gtI 0 j dj = insInner gtI 0 i dk) := hI
        have hHj := hw2.holds hblk hH hsj
        have hbw := hw2.lt hblk
        have hRw : wr.cell? ⟨bR, 0, none⟩ = some (.iface 178 (SV blk off d.size c)) := (SW.cellO hw2 hRb hne).trans hR
        clear hw2 hI
        have out : (j ≤ 0 ∨ gtI dj[j]! dj[j - 1]! = false) → ∀ W, SW (Value.int .i64) w blk off dj W → ∃ (i' : Nat) (dk' : Array Int), Value.int .i64 ((i : Int) + 1) = .int .i64 (i' : Nat) ∧ 0 < i' ∧ i' ≤ b + 1 ∧ dk'.size = d.size ∧
            SW (Value.int .i64) w blk off dk' W ∧ insOuter gtI 0 b i' dk' = insOuter gtI 0 b (0 + 1) d := fun hs W hW =>
          ⟨i + 1, dj, by go_num, by omega, by omega, hsj, hW,
            by rw [← HO.out, insOuter_go _ _ _ _ _ hlt, ← HI.out, insInner_stop _ _ _ _ hs]⟩
        have OUT : Hid _ := out
        clear out
        by_cases hja : 0 < j
        · have mL := rev_less wr bR _ hRw
          simp at mL
          have hl := rev_Less blk off c d.size wr (fun t => dj[t]!) (fun t ht => (hHj t (by omega)).1) hbw j (j - 1) (by omega) (by omega) hsz
          rw [show (((j - 1 : Nat) : Int)) = (j : Int) - 1 by omega] at hl
          have W2 : Hid (∀ o q, SW (Value.int .i64) w blk off dj ((wr.alloc o).drewN q)) := fun o q => (HW.out.alloc o).drewN q
          have mS : ∀ o q, Sem.run Try.prog (method 324 183 (RP bR) "Swap") ((wr.alloc o).drewN q) = .ok (152, SV blk off d.size c) ((wr.alloc o).drewN q) := fun o q => by
            have := rev_emb ((wr.alloc o).drewN q) bR 152 (SV blk off d.size c) "Swap" 199 ((SW.cellO (W2.out o q) hRb hne).trans hR) (by kernel_rfl) (is_swap _ _ _ _ _)
            simpa using this
          have hsw : ∀ o q, Calls Try.prog 152 #[SV blk off d.size c, .int .i64 j, .int .i64 ((j - 1 : Nat) : Int)] ((wr.alloc o).drewN q) fun e w' => e = .returned (.tuple #[]) ∧ SW (Value.int .i64) w blk off (swp dj j (j - 1)) w' := fun o q => by
            have hh := (W2.out o q).holds hblk hH hsj
            refine (isl_Swap blk off c d.size _ _ _ j (j - 1) (by omega) (by omega) hsz (hh j (by omega)).1 (hh (j - 1) (by omega)).1 (hh j (by omega)).2 (hh (j - 1) (by omega)).2).mono ?_
            rintro e w' ⟨rfl, q', rfl⟩
            exact ⟨rfl, ((W2.out o q).swap hblk j (j - 1) (by omega) (by omega)).drewN q'⟩
          rw [show (((j - 1 : Nat) : Int)) = (j : Int) - 1 by omega] at hsw
          change Calls _ _ _ _ fun e w' => e = .returned (.bool (gtI dj[j]! dj[j - 1]!)) ∧ _ at hl
          cases hlv : gtI dj[j]! dj[j - 1]! with
          | true =>
            rw [hlv] at hl
            go_wp2_with (first
              | (go_at_fn 153; refine hl.mono ?_; rintro e w' ⟨rfl, o, q, rfl⟩)
              | (go_at_fn 152; refine (hsw _ _).mono ?_; rintro e w' ⟨rfl, hS⟩))
            go_roundw
            case rel =>
              (repeat apply Exists.intro)
              refine ⟨⟨j - 1, swp dj j (j - 1), by congr 1 <;> omega, by omega, by rw [size_swp]; exact hsj, hS, ?_⟩, by rw [decide_eq_true hlt, show ((j - 1 : Nat) : Int) = (j : Int) - 1 by omega]⟩
              rw [← HI.out, insInner_go gtI 0 j dj hja hlv]
            case measure => simp [intOf]; omega
          | false =>
            rw [hlv] at hl
            go_wp2_with (go_at_fn 153; refine hl.mono ?_; rintro e w' ⟨rfl, o, q, rfl⟩)
            go_roundw
            case rel => exact OUT.out (Or.inr hlv) _ (W2.out o q)
            case measure => simp [intOf]; omega
        · go_wp2
          go_roundw
          case rel => exact OUT.out (Or.inl (by omega)) _ HW.out
          case measure => simp [intOf]; omega
    · have hge : ¬ i < b := by assumption
      go_end0
      exact ⟨rfl, by unfold Sort.insertionSort; rw [← HO.out, insOuter_stop _ _ _ _ _ hge]; exact hwr⟩
end Go.Proofs.Ytooikkfldddjfaa

/- sort.Sort over sort.Reverse at three integers; impl.SortSides. -/
namespace Go.Proofs.Ytooikkfldddjfaa
set_option maxRecDepth 10000
open Go.RowKit Go.Lib Go.Sort
set_option linter.unusedVariables false
set_option linter.unusedSimpArgs false
set_option maxRecDepth 100000
set_option maxHeartbeats 4000000
theorem pdq3 (blk off c lim bR : Nat) (d : Array Int) (w : World) (hH : Holds (Value.int .i64) w blk off d) (hblk : blk < w.heap.size) (hd : d.size = 3) (hR : w.cell? ⟨bR, 0, none⟩ = some (.iface 178 (SV blk off d.size c))) (hRb : bR < w.heap.size) (hne : bR ≠ blk) :
    Calls Try.prog 116 #[.iface 183 (RP bR), .int .i64 0, .int .i64 3, .int .i64 lim] w fun e w' => e = .returned (.tuple #[]) ∧ SW (Value.int .i64) w blk off (Sort.insertionSort gtI d 0 3) w' := by
  have hi := insSort blk off c 3 bR d w hH hblk hR hRb hne (by omega) (by omega) (by omega)
  rw [show ((3 : Nat) : Int) = 3 from rfl] at hi
  clear hH hR
  go_enter Try.func116, Try.ntmps116
  go_wp2
  go_loopw [1, 2] (fun v1 v2 wr => v1 = .int .i64 0 ∧ v2 = .int .i64 3 ∧ wr = w) (fun _ _ _ => 0)
  case atStart => exact ⟨rfl, rfl, rfl⟩
  case round =>
    obtain ⟨rfl, rfl, rfl⟩ := hrel
    go_wp2_with (go_at_call 119; refine hi.mono ?_; rintro e w' ⟨rfl, hS⟩)
    (try simp only [Exit.inBlock, Exit.then])
    refine bodyPost_ret (results_none rfl _ _ _) rfl ?_
    exact ⟨rfl, hS⟩
theorem sortRev3 (blk off c bR : Nat) (d : Array Int) (w : World) (hH : Holds (Value.int .i64) w blk off d) (hblk : blk < w.heap.size) (hd : d.size = 3) (hR : w.cell? ⟨bR, 0, none⟩ = some (.iface 178 (SV blk off d.size c))) (hRb : bR < w.heap.size) (hne : bR ≠ blk) :
    Calls Try.prog 113 #[.iface 183 (RP bR)] w fun e w' => e = .returned (.tuple #[]) ∧ SW (Value.int .i64) w blk off (Sort.insertionSort gtI d 0 3) w' := by
  have mN := rev_emb w bR 149 (SV blk off d.size c) "Len" 179 hR (by kernel_rfl) (is_len _ _ _ _ _)
  simp at mN
  have eN : ∀ args w, (callFunc 149 args).run Try.prog w = .ok (.enter 149 args) w := enters_of Try.func149 (by kernel_rfl) rfl
  have hN := isl_Len blk off c d.size w
  have hL := Try.bits_Len 3 w (by omega) (by omega)
  have hp := fun lim => pdq3 blk off c lim bR d w hH hblk hd hR hRb hne
  rw [hd] at mN hN
  rw [show ((3 : Nat) : Int) = 3 from rfl] at hN
  clear hH hR
  go_enter Try.func113, Try.ntmps113
  go_wp2_with (first
    | (go_at_fn 149; refine hN.mono ?_; rintro e w' ⟨rfl, rfl⟩)
    | (go_at_call 115; refine hL.mono ?_; rintro e w' ⟨rfl, rfl⟩)
    | (go_at_call 116; refine (hp _).mono ?_; rintro e w' ⟨rfl, hS⟩))
  all_goals first
    | (exfalso; omega)
    | (go_end0; exact ⟨rfl, hS⟩)
end Go.Proofs.Ytooikkfldddjfaa

/- append onto a slice of the call's own, the source any slice that reads as_ a list. No program in sight. -/
namespace Go.Proofs.Ytooikkfldddjfaa
set_option maxRecDepth 10000
open Go.RowKit

/-- The facts on a slice type and its element type that append asks. -/
structure ElT (P : Program) (t e : TypeId) (k bytes : Nat) : Prop where
  ht : P.underlying t = some (.slice e)
  info : ∃ i z, P.info? e = some i ∧ i.zero = some z ∧ i.size = k ∧ i.bytes = bytes ∧ z.cells.size = k
theorem ElT.mk' {P : Program} {t e : TypeId} {k bytes : Nat} {z : Value} (ht : P.underlying t = some (.slice e)) (h : (P.info? e).map (fun i => (i.zero, i.size, i.bytes)) = some (some z, k, bytes)) (hz : z.cells.size = k) : ElT P t e k bytes := by
  obtain ⟨i, h1, h2, h3, h4⟩ := info_parts h
  exact ⟨ht, i, z, h1, h2, h3, h4, hz⟩

theorem Own.form {α : Type} [Enc α] {w : World} {B E : Nat} {v : Value} {xs : List α} (h : Own w B E v xs) : ∃ A c, v = .slice A xs.length c ∧ xs.length ≤ c ∧ c ≤ maxLen := by
  rcases h.2 with ⟨hv, h0⟩ | ⟨g, cap, cur, hv, _, _, hnc, hcm, _⟩
  · exact ⟨none, 0, by rw [hv, h0], by omega, by unfold maxLen; omega⟩
  · exact ⟨_, cap, hv, hnc, hcm⟩
theorem Own.nil_ {α : Type} [Enc α] (w : World) (B E : Nat) : Own w B E (.slice none 0 0) ([] : List α) := World.ownsRow_nil _ _ _ _
theorem Own.empty {α : Type} [Enc α] (w : World) (B E c : Nat) (cur : Array Value) (hB : B ≤ w.heap.size) (hm : c ≤ maxLen) (hs : cur.size = c * Enc.k α) :
    Own (w.alloc (.cells cur E)) B E (.slice (some ⟨w.heap.size, 0, none⟩) 0 c) ([] : List α) := World.ownsRow_made w cur c hB hm hs
theorem Own.more {α : Type} [Enc α] {w : World} {B B' E : Nat} {v : Value} {xs : List α} (h : Own w B E v xs) (hB : B' ≤ B) : Own w B' E v xs := by
  refine ⟨h.1, ?_⟩
  rcases h.2 with h2 | ⟨g, cap, cur, hv, hb, r⟩
  · exact .inl h2
  · exact .inr ⟨g, cap, cur, hv, by omega, r⟩
theorem Own.down {α : Type} [Enc α] {w0 W w : World} {E : Nat} {v : Value} {xs : List α} (h : Own w W.heap.size E v xs) (hu : Up w0 W) : Own w w0.heap.size E v xs := h.more hu.size
theorem Up.le {w0 w : World} (h : Up w0 w) : w0.heap.size ≤ w.heap.size := h.size
theorem Own.grown {α : Type} [Enc α] {w w' : World} {B E : Nat} {v : Value} {xs : List α} {row : Option Nat} (h : Own w B E v xs) (hg : w.grownBy w' row) (hne : v.ownBlock = none ∨ v.ownBlock ≠ row) : Own w' B E v xs :=
  World.ownsRow.kept h hg hne
/-- A fresh slice of one element, as_ append's last argument is laid. -/
theorem Rd.one {α : Type} [Enc α] (w : World) (T : TypeId) (x : α) (B : Nat) (hB : w.heap.size < B) : Rd (w.alloc (.cells (Enc.cells x).toArray T)) B (some ⟨w.heap.size, 0, none⟩) [x] := by
  intro _
  refine ⟨w.heap.size, 0, rfl, hB, fun j u hu => ?_⟩
  rw [flat_one] at hu
  rw [Nat.zero_add, cell_of_row _ _ j _ T (0, 0) (heap_alloc_new w _)]
  simpa using hu

/-- The row at a block, as_ a loop that writes into it sees it: its first m cells are ys's. -/
def Marking (w0 w : World) (B E k : Nat) (g n cap m : Nat) (ys : List Value) : Prop :=
  ∃ cs : List Value, w.ownsRow B E k (.slice (some ⟨g, 0, none⟩) n cap) n cs ∧ cs.take m = ys.take m ∧ w0.grownBy w (some g)
theorem Marking.start {w : World} {B E k g n cap : Nat} {cs ys : List Value} (h : w.ownsRow B E k (.slice (some ⟨g, 0, none⟩) n cap) n cs) : Marking w w B E k g n cap 0 ys :=
  ⟨cs, h, by simp, ⟨rfl, rfl, rfl, Nat.le_refl _, fun _ _ _ => rfl⟩⟩
theorem Marking.cell {w0 w : World} {B E k g n cap m : Nat} {ys : List Value} (h : Marking w0 w B E k g n cap m ys) {j : Nat} (hj : j < n * k) : ∃ u, w.cell? ⟨g, j, none⟩ = some u := by
  obtain ⟨cs, ho, _⟩ := h
  have hl : cs.length = n * k := ho.1
  exact ⟨cs[j]'(by omega), by rw [ho.cellAt j hj]; exact List.getElem?_eq_getElem _⟩
theorem Marking.frozen {w0 w : World} {B E k g n cap m : Nat} {ys : List Value} (h : Marking w0 w B E k g n cap m ys) (j : Nat) : w.frozen? ⟨g, j, none⟩ = false := by
  obtain ⟨cs, ho, _⟩ := h
  exact ho.frozenAt j
theorem grownBy_trans {a b c : World} {row : Option Nat} (h : a.grownBy b row) (k : b.grownBy c row) : a.grownBy c row :=
  ⟨k.os.trans h.os, k.tape.trans h.tape, k.output.trans h.output, Nat.le_trans h.size k.size, fun i hi hne => (k.block i (Nat.lt_of_lt_of_le hi h.size) hne).trans (h.block i hi hne)⟩
theorem Marking.set1 {w0 w : World} {B E k g n cap m : Nat} {ys : List Value} {v : Value} (h : Marking w0 w B E k g n cap m ys) (hm : m < n * k) (hy : ys[m]? = some v) :
    Marking w0 (w.setCell ⟨g, m, none⟩ v) B E k g n cap (m + 1) ys := by
  obtain ⟨cs, ho, ht, hg⟩ := h
  have hl : cs.length = n * k := ho.1
  obtain ⟨h1, h2⟩ := ho.stored m v
  exact ⟨cs.set m v, h1, take_set_succ (by omega) hy ht, grownBy_trans hg h2⟩
theorem Marking.drewN {w0 w : World} {B E k g n cap m : Nat} {ys : List Value} (h : Marking w0 w B E k g n cap m ys) (q : Nat) : Marking w0 (w.drewN q) B E k g n cap m ys := by
  obtain ⟨cs, ho, ht, hg⟩ := h
  exact ⟨cs, ho, ht, ⟨hg.os, hg.tape, hg.output, hg.size, hg.block⟩⟩
theorem Marking.own {α : Type} [Enc α] {w0 w : World} {B E g n cap : Nat} {ys : List α} (h : Marking w0 w B E (Enc.k α) g n cap (n * Enc.k α) (flat ys)) (hn : ys.length = n) : Own w B E (.slice (some ⟨g, 0, none⟩) n cap) ys ∧ w0.grownBy w (some g) := by
  obtain ⟨cs, ho, ht, hg⟩ := h
  have hl : cs.length = n * Enc.k α := ho.1
  have e1 : (flat ys).take (n * Enc.k α) = flat ys := List.take_of_length_le (by rw [flat_len, hn]; exact Nat.le_refl _)
  rw [e1, List.take_of_length_le (by omega)] at ht
  subst ht
  refine ⟨?_, hg⟩
  unfold Own
  rw [hn]
  exact ho
theorem Own.sep1 {α β : Type} [Enc α] [Enc β] {w w' we : World} {B E Bx Ex : Nat} {v vx : Value} {xs : List α} {ys : List β} (hv : Own w B E v xs) (hx : Own we Bx Ex vx ys) (hle : we.heap.size ≤ B) (hg : w.grownBy w' vx.ownBlock) : Own w' B E v xs := by
  refine hv.grown hg ?_
  cases hb : v.ownBlock with
  | none => exact .inl rfl
  | some k =>
    refine .inr fun e => ?_
    have h1 := (World.ownsRow.lt hv k hb).1
    have h2 := (World.ownsRow.lt hx k e.symm).2
    omega
theorem Own.sep2 {α β : Type} [Enc α] [Enc β] {w w' we : World} {B B' E Bx Ex : Nat} {v vx : Value} {xs xs' : List α} {ys : List β} (hv : Own w B E v xs) (hv0 : Own we B' E v xs') (hx : Own w Bx Ex vx ys) (hle : we.heap.size ≤ Bx) (hg : w.grownBy w' vx.ownBlock) : Own w' B E v xs := by
  refine hv.grown hg ?_
  cases hb : v.ownBlock with
  | none => exact .inl rfl
  | some k =>
    refine .inr fun e => ?_
    have h1 := (World.ownsRow.lt hv0 k hb).2
    have h2 := (World.ownsRow.lt hx k e.symm).1
    omega
theorem addr_add (b o j : Nat) : (⟨b, o, none⟩ : Addr).add j = ⟨b, o + j, none⟩ := by unfold Addr.add; split <;> simp_all

theorem run_append_nil_src {α : Type} [Enc α] {P : Program} (w : World) {t ty e : Nat} {i : TypeInfo} (ht : P.underlying t = some (.slice e)) (hi : P.info? e = some i) {base : Nat} {v : Value} {ys : List α} (hown : Own w base e v ys) (c : Nat) :
    (Builtin.append_ #[t, t] ty #[v, .slice none 0 c]).run P w = .ok v w := by
  rcases hown.2 with ⟨rfl, h0⟩ | ⟨g, cap, cur, rfl, _, _, hnc, _⟩
  · simp [Builtin.append_, run_underlying ht, sizeOf, typeInfo, hi, Builtin.lenOf, Builtin.firstCells]
  · simp [Builtin.append_, run_underlying ht, sizeOf, typeInfo, hi, Builtin.lenOf, Builtin.firstCells, hnc, storeCells]
theorem run_append_rd {α : Type} [Enc α] {P : Program} (w : World) {t ty e bytes : Nat} (T : ElT P t e (Enc.k α) bytes) {base : Nat} {v : Value} {ys : List α} (hown : Own w base e v ys)
    {B : Nat} {A : Option Addr} {c : Nat} {xs : List α} (hr : Rd w B A xs) (hbytes : (ys.length + xs.length) * bytes ≤ 140737488355328) (h63 : ys.length + xs.length ≤ maxLen) (hbase : base ≤ w.heap.size) :
    ∃ v' w', (Builtin.append_ #[t, t] ty #[v, .slice A xs.length c]).run P w = .ok v' w' ∧ Own w' base e v' (ys ++ xs) ∧ w.grownBy w' v.ownBlock ∧ (v'.ownBlock = v.ownBlock ∨ v'.ownBlock = some w.heap.size) := by
  obtain ⟨i, z, hi, hz, hs, hb, hzs⟩ := T.info
  cases A with
  | none =>
    have hx : xs = [] := by
      rcases Classical.em (xs = []) with h | h
      · exact h
      · obtain ⟨_, _, h', _⟩ := hr h
        cases h'
    subst hx
    have hrun := run_append_nil_src (P := P) w (ty := ty) T.ht hi hown c
    exact ⟨v, w, by simpa using hrun, by simpa using hown, ⟨rfl, rfl, rfl, Nat.le_refl _, fun _ _ _ => rfl⟩, .inl rfl⟩
  | some ad =>
    have hnews : ∀ j u, (flat xs)[j]? = some u → w.cell? (ad.add j) = some u := by
      intro j u hu
      have hne : xs ≠ [] := by rintro rfl; simp [flat] at hu
      obtain ⟨b, off, hA', _, hc⟩ := hr hne
      injection hA' with hA'
      subst hA'
      rw [addr_add]
      exact hc j u hu
    obtain ⟨v', w', hrun, h2, h3, _, h5⟩ := run_append_own_at (P := P) w base t ty e i z (Enc.k α) bytes T.ht hi hz hs hb hzs Enc.pos v ys.length (flat ys) hown ad xs.length c (flat xs) (flat_len xs) hnews (flat_oneCell xs) h63 hbytes hbase
    refine ⟨v', w', hrun, ?_, h3, h5⟩
    have e1 : (ys ++ xs).length = ys.length + xs.length := List.length_append
    unfold Own
    rw [e1, flat_append]
    exact h2

theorem Up.grown' {α : Type} [Enc α] {w0 w w' : World} {base e : Nat} {v : Value} {ys : List α} (h : Up w0 w) (hg : w.grownBy w' v.ownBlock) (hown : Own w base e v ys) (hb : w0.heap.size ≤ base) : Up w0 w' :=
  Below.grown h hg h.size (fun k hk => Nat.le_trans hb (World.ownsRow.lt hown k hk).1)

theorem wp_append_rd {α : Type} [Enc α] {P : Program} {w : World} {o : Oper} {a : Act} {K : Act → World → Prop} {Q : Exit → Act → World → Prop} {t e bytes : Nat} (T : ElT P t e (Enc.k α) bytes)
    (s x : Operand) (ho : o.op = .call { callee := .builtin .append, args := #[s, x], argTypes := #[t, t] })
    {base : Nat} {v : Value} {ys : List α} (hs : a.eval s = v) (hown : Own w base e v ys)
    {B : Nat} {A : Option Addr} {c : Nat} {xs : List α} (n : Nat) (hx : a.eval x = .slice A n c) (hn : n = xs.length) (hr : Rd w B A xs)
    (hbytes : (ys.length + xs.length) * bytes ≤ 140737488355328) (h63 : ys.length + xs.length ≤ maxLen) (hbase : base ≤ w.heap.size)
    (h : ∀ v' w', Own w' base e v' (ys ++ xs) → w.grownBy w' v.ownBlock → (v'.ownBlock = v.ownBlock ∨ v'.ownBlock = some w.heap.size) → (∀ w0, w0.heap.size ≤ base → Up w0 w → Up w0 w') → K (a.put o.dst v') w') :
    o.wp P a w K Q := by
  subst hn
  obtain ⟨v', w', hrun, h2, h3, h4⟩ := run_append_rd (P := P) w (ty := o.type) (c := c) T hown hr hbytes h63 hbase
  unfold Oper.wp execOp
  simp only [ho, resolve, invoke, builtin, Sem.run_bind, Sem.run_pure, Result.andThen_ok, List.map_toArray, List.map_cons, List.map_nil, hs, hx, hrun]
  exact h v' w' h2 h3 h4 fun w0 hb hu => Up.grown' hu h3 hown hb
theorem wpList_append_rd {α : Type} [Enc α] {P : Program} {w : World} {ops : Array Oper} {rest : List Oper} {o : Oper} {a : Act} {Q : Exit → Act → World → Prop} {t e bytes : Nat} (T : ElT P t e (Enc.k α) bytes)
    (hgd : o.guard = none) (s x : Operand) (ho : o.op = .call { callee := .builtin .append, args := #[s, x], argTypes := #[t, t] })
    {base : Nat} {v : Value} {ys : List α} (hs : a.eval s = v) (hown : Own w base e v ys)
    {B : Nat} {A : Option Addr} {c : Nat} {xs : List α} (n : Nat) (hx : a.eval x = .slice A n c) (hn : n = xs.length) (hr : Rd w B A xs)
    (hbytes : (ys.length + xs.length) * bytes ≤ 140737488355328) (h63 : ys.length + xs.length ≤ maxLen) (hbase : base ≤ w.heap.size)
    (h : ∀ v' w', Own w' base e v' (ys ++ xs) → w.grownBy w' v.ownBlock → (v'.ownBlock = v.ownBlock ∨ v'.ownBlock = some w.heap.size) → (∀ w0, w0.heap.size ≤ base → Up w0 w → Up w0 w') → wpList P ops Q rest (a.put o.dst v') w') :
    wpList P ops Q (o :: rest) a w :=
  wpList_plain hgd fun _ hK => wp_append_rd T s x ho hs hown n hx hn hr hbytes h63 hbase fun v' w' h2 h3 h4 h5 => hK _ _ (h v' w' h2 h3 h4 h5)
theorem step_append_rd {α : Type} [Enc α] {P : Program} {w : World} {ops : Array Oper} {o : Oper} {a : Act} {K : Act → World → Prop} {Q : Exit → Act → World → Prop} {E : Prop} {t e bytes : Nat} (T : ElT P t e (Enc.k α) bytes)
    (hgd : o.guard = none) (s x : Operand) (ho : o.op = .call { callee := .builtin .append, args := #[s, x], argTypes := #[t, t] })
    {base : Nat} {v : Value} {ys : List α} (hs : a.eval s = v) (hown : Own w base e v ys)
    {B : Nat} {A : Option Addr} {c : Nat} {xs : List α} (n : Nat) (hx : a.eval x = .slice A n c) (hn : n = xs.length) (hr : Rd w B A xs)
    (hbytes : (ys.length + xs.length) * bytes ≤ 140737488355328) (h63 : ys.length + xs.length ≤ maxLen) (hbase : base ≤ w.heap.size)
    (h : ∀ v' w', Own w' base e v' (ys ++ xs) → w.grownBy w' v.ownBlock → (v'.ownBlock = v.ownBlock ∨ v'.ownBlock = some w.heap.size) → (∀ w0, w0.heap.size ≤ base → Up w0 w → Up w0 w') → K (a.put o.dst v') w') :
    if Region.wanted o (yielded ops a.tmps) = true then Oper.wp P o a w K Q else E := by
  rw [if_pos (by simp [Region.wanted, hgd])]
  exact wp_append_rd T s x ho hs hown n hx hn hr hbytes h63 hbase h
end Go.Proofs.Ytooikkfldddjfaa

/- impl.SortSides at three sides, walked at a world. -/
namespace Go.Proofs.Ytooikkfldddjfaa
set_option maxRecDepth 10000
open Go.RowKit Go.Lib Go.Sort
set_option linter.unusedVariables false
set_option linter.unusedSimpArgs false
set_option maxRecDepth 100000
set_option maxHeartbeats 4000000
theorem el_int3 : ElT Try.prog 23 3 (Enc.k Int) 8 := ElT.mk' (z := .int .i64 0) Try.underlying23 (by kernel_rfl) rfl
theorem flat_intsI (ls : List Int) : flat ls = ls.map (Value.int .i64) := by
  induction ls with
  | nil => rfl
  | cons x xs ih => rw [flat_cons, ih]; rfl
theorem own3 {w : World} {B : Nat} {v : Value} {xs : List Int} (h : Own w B 3 v xs) (hl : xs.length = 3) : ∃ g cap cur, v = .slice (some ⟨g, 0, none⟩) 3 cap ∧ B ≤ g ∧ w.heap[g]? = some (.cells cur 3 (0, 0)) ∧ 3 ≤ cap ∧ cap ≤ maxLen ∧ cur.size = cap * 1 ∧ cur.toList.take 3 = xs.map (Value.int .i64) := by
  rcases h.2 with ⟨_, h0⟩ | ⟨g, cap, cur, hv, hB, hg, hnc, hcm, hcs, ht⟩
  · omega
  · rw [hl] at hv hnc ht
    rw [flat_intsI] at ht
    exact ⟨g, cap, cur, hv, hB, hg, hnc, hcm, hcs, ht⟩
theorem rev_call (W : World) (sv : Value) : Calls Try.prog 114 #[.iface 178 sv] W fun e w' => e = .returned (.iface 183 (RP W.heap.size)) ∧ w' = W.alloc (.cells #[.iface 178 sv] 185) := by
  go_enter Try.func114, Try.ntmps114
  go_wp2
  go_ret
  exact ⟨rfl, rfl⟩
def srt3 (xs : List Int) : List Int := (Sort.insertionSort gtI xs.toArray 0 3).toList
theorem size_insInner (lt : Int → Int → Bool) (a : Nat) : ∀ (j : Nat) (d : Array Int), (insInner lt a j d).size = d.size
  | 0, d => rfl
  | j + 1, d => by
    unfold insInner
    split
    · rw [size_insInner lt a j, size_swp]
    · rfl
theorem size_insOuter (lt : Int → Int → Bool) (a b : Nat) : ∀ (n i : Nat) (d : Array Int), b - i ≤ n → (insOuter lt a b i d).size = d.size
  | 0, i, d, h => by rw [insOuter, if_neg (by omega)]
  | n + 1, i, d, h => by
    rw [insOuter]
    split
    · rw [size_insOuter lt a b n (i + 1) _ (by omega), size_insInner]
    · rfl
theorem srt3_len (xs : List Int) : (srt3 xs).length = xs.length := by
  unfold srt3 Sort.insertionSort
  rw [Array.length_toList, size_insOuter _ _ _ 3 _ _ (by omega)]
  simp
theorem sortSides_any (A : Option Addr) (xs : List Int) (c : Nat) (w : World) (hr : Rd w w.heap.size A xs) (hl : xs.length = 3) :
    Calls Try.prog 111 #[.slice A 3 c] w fun e w' => ∃ v, e = .returned v ∧ Own w' w.heap.size 3 v (srt3 xs) ∧ Up w w' := by
  go_enter Try.func111, Try.ntmps111
  go_wp2_with (at_builtin; refine wpList_append_rd el_int3 rfl (.tmp 4) (.tmp 5) rfl (base := w.heap.size) (ys := []) (by rfl) (Own.empty w _ _ 0 _ (Nat.le_refl _) (by unfold maxLen; omega) rfl) 3 (by rfl) hl.symm (hr.up (by (repeat (first | exact Up.rfl' _ | (refine Up.al _ ?_) | (refine Up.dr _ ?_) | (refine Up.dr1 ?_) | (refine Up.sc ?_ (by first | exact Nat.le_refl _ | (simp; done) | omega) _) | (refine Up.step (by assumption) ?_))))) (by simp; omega) (by unfold maxLen; simp; omega) (by first | (simp; done) | (simp; omega) | (have h_ := hB.size; omega) | (have h_ := hB.size; simp; omega)) ?_; intro v' w1 ho1 hg1 _ hu1; refine Hid.out ?_)
  refine Lib.hid ?_
  have ho : Own w1 w.heap.size 3 v' xs := by simpa using ho1
  have hu := hu1 w (Nat.le_refl _) (by (repeat (first | exact Up.rfl' _ | (refine Up.al _ ?_) | (refine Up.dr _ ?_) | (refine Up.dr1 ?_) | (refine Up.sc ?_ (by first | exact Nat.le_refl _ | (simp; done) | omega) _) | (refine Up.step (by assumption) ?_))))
  obtain ⟨g, cap, cur, rfl, hgB, hgh, h3, hcm, hcs, hct⟩ := own3 ho hl
  have hgl : g < w1.heap.size := (Array.getElem?_eq_some_iff.1 hgh).1
  have hRv := rev_call w1 (SV g 0 3 cap)
  have hg2 : ∀ o, (w1.alloc o).heap[g]? = some (.cells cur 3 (0, 0)) := fun o => (Below.block (Up.al o (Up.rfl' w1)) g hgl).trans hgh
  have hsz : ∀ o, (w1.alloc o).heap.size = w1.heap.size + 1 := fun o => by simp
  have hS : ∀ o, o = Obj.cells #[.iface 178 (SV g 0 3 cap)] 185 (0, 0) → _ := fun o ho => sortRev3 g 0 cap w1.heap.size xs.toArray (w1.alloc o) (holds_of_blockI (hg2 o) (by rw [hl]; exact hct)) (by rw [hsz]; omega) (by simp [hl]) (by subst ho; rw [cell_of_row _ _ 0 _ _ (0, 0) (heap_alloc_new w1 _)]; simp [hl]) (by rw [hsz]; omega) (by omega)
  have hS2 := hS _ rfl
  clear hS
  go_wp2_with (first
    | (go_at_call 114; refine hRv.mono ?_; rintro e w' ⟨rfl, rfl⟩)
    | (go_at_call 113; refine hS2.mono ?_; rintro e w' ⟨rfl, hSW⟩))
  go_ret
  obtain ⟨n, os, rfl⟩ := hSW
  have hlt : (srt3 xs).length = xs.length := srt3_len xs
  have hown := ownsRow_sortedI (n := n) (os := os) (ss := xs) (ts := srt3 xs) hlt hgB (hg2 (Obj.cells #[.iface 178 (SV g 0 3 cap)] 185 (0, 0))) (by omega) hcm hcs
  refine ⟨_, rfl, ?_, ?_⟩
  · unfold Own
    rw [hlt, flat_intsI]
    rw [hl] at hown ⊢
    unfold srt3 at hown ⊢
    exact hown
  · have hgr := grownBy_sortedI (w := w1.alloc (Obj.cells #[.iface 178 (SV g 0 3 cap)] 185 (0, 0))) (g := g) (n := n) (os := os) (Sort.insertionSort gtI xs.toArray 0 3)
    have hu2 := Up.al (Obj.cells #[.iface 178 (SV g 0 3 cap)] 185 (0, 0)) hu
    exact ⟨hgr.os.trans hu2.os, hgr.tape.trans hu2.tape, hgr.output.trans hu2.output, Nat.le_trans hu2.size hgr.size, fun b hb => (hgr.block b (Nat.lt_of_lt_of_le hb hu2.size) (by simp; omega)).trans (hu2.block b hb)⟩
end Go.Proofs.Ytooikkfldddjfaa

/- A fresh row at a world, as_ the result of a contract in plain values. -/
namespace Go.Proofs.Ytooikkfldddjfaa
set_option maxRecDepth 10000
open Go.RowKit
set_option linter.unusedVariables false
set_option linter.unusedSimpArgs false
/-- A fresh row of the call's own, as_ a result. -/
theorem ms_of_own {α : Type} [Enc α] {c : α → List PV} {T : TypeId} {S : Nat → Prop} {β : Nat → Option Blk} {w w' : World} {v : Value} {ys : List α} (hk : Ok w (own0 β) (E1 S β 0) w []) (ho : Own w' w.heap.size T v ys) (hu : Up w w')
    (hc : ∀ (x : α), (c x).length = Enc.k α ∧ ∀ (j : Nat) (p : PV), (c x)[j]? = some p → ∃ u, (Enc.cells x)[j]? = some u ∧ u.oneCell' = true ∧ ∀ (w : World) (E : Env), Rep w E p u) :
    ∃ E', Ok w (own0 β) E' w' [some ⟨T, Enc.k α, ys.map c⟩] ∧ (∀ b, S b → E'.S b) ∧ (∀ b, E'.S b → S b ∨ w.heap.size ≤ b ∨ own0 β b) ∧ (∀ l B, l < 0 → E'.β l = some B → β l = some B) ∧ Rep w' E' (.ms 0) v := by
  have hesl : ∀ (i : Nat) (cs : List PV), (ys.map c)[i]? = some cs → cs.length = Enc.k α := by
    intro i cs hi
    rw [List.getElem?_map] at hi
    obtain ⟨y, _, rfl⟩ := Option.map_eq_some_iff.1 hi
    exact (hc y).1
  have key : ∀ (B : Blk), v = B.sv → v.oneCell' = true → (B.z = false → w.heap.size ≤ B.b ∧ B.b < w'.heap.size) → (∀ E, BlkRep w' E ⟨T, Enc.k α, ys.map c⟩ B) →
      ∃ E', Ok w (own0 β) E' w' [some ⟨T, Enc.k α, ys.map c⟩] ∧ (∀ b, S b → E'.S b) ∧ (∀ b, E'.S b → S b ∨ w.heap.size ≤ b ∨ own0 β b) ∧ (∀ l B, l < 0 → E'.β l = some B → β l = some B) ∧ Rep w' E' (.ms 0) v := by
    intro B hv h1 hB hb
    obtain ⟨h2, _⟩ := hk.new (ν := 0) (fun h => absurd h (Nat.not_lt_zero 0)) ⟨T, Enc.k α, ys.map c⟩ B hu.os hu.tape hu.output hu.size (fun b hb => hu.block b hb) hB (fun _ => hb _)
    refine ⟨_, h2, fun b h => h, fun b h => .inl h, fun l B h => absurd h (Nat.not_lt_zero l), .ms 0 v (.inl rfl) h1 fun B' hB' => ?_⟩
    have : B' = B := by simpa [Env.add, eq_comm] using hB'
    rw [this]; exact hv
  rcases ho.2 with ⟨hv, h0⟩ | ⟨g, cap, cur, hv, hB, hg, hnc, hcm, hcs, ht⟩
  · have hy : ys = [] := List.length_eq_zero_iff.1 h0
    subst hy
    exact key ⟨0, 0, 0, Enc.k α, T, true⟩ (by rw [hv]; rfl) (by rw [hv]; rfl) (fun h => by cases h) fun E => ⟨rfl, rfl, rfl, Enc.pos, Nat.le_refl _, Nat.zero_le _, hesl, fun _ => rfl, fun h => by cases h⟩
  · refine key ⟨g, cap, ys.length, Enc.k α, T, false⟩ (by rw [hv]; rfl) (by rw [hv]; rfl) (fun _ => ⟨hB, (Array.getElem?_eq_some_iff.1 hg).1⟩) fun E => ⟨rfl, by simp, rfl, Enc.pos, hnc, hcm, hesl, (fun h => by cases h), fun _ => ⟨cur, hg, hcs, fun i cs j p hi hj => ?_⟩⟩
    rw [List.getElem?_map] at hi
    obtain ⟨y, hy, rfl⟩ := Option.map_eq_some_iff.1 hi
    obtain ⟨hl, hcc⟩ := hc y
    obtain ⟨u, hu1, hu2, hu3⟩ := hcc j p hj
    refine ⟨u, ?_, hu2, hu3 _ _⟩
    have hf := flat_at hy hu1
    have hlt := (List.getElem?_eq_some_iff.1 hf).1
    rw [flat_len] at hlt
    have := congrArg (fun l : List Value => l[i * Enc.k α + j]?) ht
    have h2 : (cur.toList.take (ys.length * Enc.k α))[i * Enc.k α + j]? = (flat ys)[i * Enc.k α + j]? := this
    rw [List.getElem?_take_of_lt hlt, Array.getElem?_toList, hf] at h2
    exact h2
end Go.Proofs.Ytooikkfldddjfaa

/- impl.SortSides at three sides: its mirror (by hand), and that the code does just that. -/
namespace Go.Proofs.Ytooikkfldddjfaa
set_option maxRecDepth 10000
open Go.RowKit Go.Lib
set_option linter.unusedVariables false
set_option linter.unusedSimpArgs false
def m_impl_SortSides (l : List Int) : Option (List Int) := if l.length = 3 then some (srt3 l) else none
theorem rd_ints {w : World} {S : Nat → Prop} {xs : List Int} {x : Value} (hsz : ∀ b, S b → b < w.heap.size) (h : RepC w S (.sl (xs.map cInt)) x) : ∃ A c, x = .slice A xs.length c ∧ xs.length ≤ c ∧ Rd w w.heap.size A xs := by
  generalize hq : PV.sl (xs.map cInt) = q at h
  cases h with
  | v x h => cases hq
  | ud => cases hq
  | un => cases hq
  | rp => cases hq
  | fn => cases hq
  | nil A c =>
    have : xs = [] := by simpa using hq
    exact ⟨A, c, by rw [this]; rfl, by rw [this]; simp, by rw [this]; exact Rd.nil_⟩
  | sl es b off k c u hS hkp hnc hm hes hcc h1 hrr =>
    obtain rfl : xs.map cInt = es := by simpa using hq
    refine ⟨_, c, by simp, by simpa using hnc, fun hne => ⟨b, off, rfl, hsz b hS, fun j u' hu' => ?_⟩⟩
    have hpos : 0 < xs.length := List.length_pos_iff.2 hne
    have hk1 : k = 1 := (hes 0 (cInt xs[0]) (by simp [hpos])).symm
    subst hk1
    rw [flat_intsI] at hu'
    rw [List.getElem?_map] at hu'
    obtain ⟨y, hy, rfl⟩ := Option.map_eq_some_iff.1 hu'
    have hj := (List.getElem?_eq_some_iff.1 hy).1
    have e1 : (xs.map cInt)[j]? = some (cInt y) := by rw [List.getElem?_map, hy]; rfl
    have hc := hcc j _ 0 (vi y) e1 rfl
    have hz := hrr j _ 0 (vi y) e1 rfl
    have hz' : u j 0 = .int .i64 y := by
      generalize hp : u j 0 = z at hz
      cases hz with
      | v _ _ => rfl
    rw [hz'] at hc
    rw [show off + j = off + j * 1 + 0 by omega]
    exact hc
theorem ok_impl_SortSides (l : List Int) {r : List Int} (H : m_impl_SortSides l = some r) : CallM Try.prog 111 [.sl (l.map cInt)] [] (.ms 0) [some ⟨3, 1, r.map cInt⟩] := by
  unfold m_impl_SortSides at H
  split at H
  case isFalse => cases H
  rename_i hl3
  obtain rfl := Option.some.inj H
  intro S β w vs hk hl ha
  obtain ⟨x, hx0, hr⟩ := ha 0 _ rfl
  have hv : vs = #[x] := by
    have h1 : vs.size = 1 := hl
    apply Array.ext (by simp [h1])
    intro i h2 h3
    have : i = 0 := by omega
    subst this
    have := (Array.getElem?_eq_some_iff.1 hx0).2
    simpa using this
  subst hv
  have hr0 : RepC w S (.sl (l.map cInt)) x := by cases hr with | c h => exact h
  obtain ⟨A, c, rfl, hcap, hrd⟩ := rd_ints hk.sz hr0
  rw [hl3]
  refine (sortSides_any A l c w hrd hl3).mono ?_
  rintro e w' ⟨v, rfl, ho, hu⟩
  obtain ⟨E', h1, h2, h3, h4, h5⟩ := ms_of_own (c := cInt) hk ho hu (fun x => ⟨rfl, fun j p hj => by
    cases j with
    | zero => obtain rfl : vi x = p := by simpa using hj
              exact ⟨_, rfl, rfl, fun w E => .c (.v _ rfl)⟩
    | succ j => simp [cInt] at hj⟩)
  exact ⟨v, E', rfl, h1, h2, h3, h4, h5⟩
instance (l : List Int) : CT Try.prog (m_impl_SortSides l) := ⟨111, [.sl (l.map cInt)], [], fun r => .ms 0, fun r => [some ⟨3, 1, r.map cInt⟩], ok_impl_SortSides l⟩
end Go.Proofs.Ytooikkfldddjfaa

/- The mirror of impl_threeSides, and that the code does just that (printed by a program of my own). -/
namespace Go.Proofs.Ytooikkfldddjfaa
set_option maxRecDepth 10000
open Go.RowKit
set_option linter.unusedVariables false
set_option maxHeartbeats 16000000
def m_impl_threeSides_b0 (l : List Int) (s0 : Int) : Option (Int ⊕ (Unit ⊕ Bool)) :=
 cond (decide (s0 < (l.length : Int)))
 ((getI l s0).bind fun y1 =>
 (m_impl_within y1 1 2000).bind fun y2 =>
 cond (!y2)
 (some (.inr (.inr false)))
 (some (.inl (w64 (s0 + 1)))))
 (some (.inr (.inl ())))
instance (l : List Int) : LoopE (m_impl_threeSides_b0 l) := ⟨fun s0 => [.sl (l.map cInt), .un, .un, .un, .un, .sl (l.map cInt), vi (l.length : Int), vi s0, .un, .un, .un, .un, .un, .un, .un, .un, .un, .un], fun s0 => []⟩
def m_impl_threeSides (l : List Int) : Option Bool :=
 (iterF (m_impl_threeSides_b0 l) NN 0).bind (selim (fun o0 =>
 some (decide ((l.length : Int) = 3))) (fun r => some r))
theorem ok_impl_threeSides (l : List Int) {r : Bool} (H : m_impl_threeSides l = some r) : CallM Try.prog 97 [.sl (l.map cInt)] [] (vb r) [] := by
  replace H := H0 H
  unfold m_impl_threeSides at H
  refine callM_of Try.func97 rfl Try.ntmps97 Try.results97 fun Q hQ hQn => ?_
  exact wk2
instance (l : List Int) : CT Try.prog (m_impl_threeSides l) := ⟨97, [.sl (l.map cInt)], [], fun r => vb r, fun r => [], ok_impl_threeSides l⟩
end Go.Proofs.Ytooikkfldddjfaa

/- The mirror of impl_GirthOf, and that the code does just that (printed by a program of my own). -/
namespace Go.Proofs.Ytooikkfldddjfaa
set_option maxRecDepth 10000
open Go.RowKit
set_option linter.unusedVariables false
set_option maxHeartbeats 16000000
def m_impl_GirthOf (sides : List Int) : Option Int :=
 (m_impl_threeSides sides).bind fun y1 =>
 cond (!y1)
 (some 0)
 ((m_impl_SortSides sides).bind fun y2 =>
 (getI y2 0).bind fun y3 =>
 (getI y2 1).bind fun y4 =>
 (getI y2 2).bind fun y5 =>
 some (w64 ((w64 (y3 + (w64 (2 * y4)))) + (w64 (2 * y5)))))
theorem ok_impl_GirthOf (sides : List Int) {r : Int} (H : m_impl_GirthOf sides = some r) : CallM Try.prog 98 [.sl (sides.map cInt)] [] (vi r) [] := by
  replace H := H0 H
  unfold m_impl_GirthOf at H
  refine callM_of Try.func98 rfl Try.ntmps98 Try.results98 fun Q hQ hQn => ?_
  exact wk2
instance (sides : List Int) : CT Try.prog (m_impl_GirthOf sides) := ⟨98, [.sl (sides.map cInt)], [], fun r => vi r, fun r => [], ok_impl_GirthOf sides⟩
end Go.Proofs.Ytooikkfldddjfaa

/- The mirror of impl_IsLabel, and that the code does just that (printed by a program of my own). -/
namespace Go.Proofs.Ytooikkfldddjfaa
set_option maxRecDepth 10000
open Go.RowKit
set_option linter.unusedVariables false
set_option maxHeartbeats 16000000
def m_impl_IsLabel (l : YLabel) : Option Bool :=
 (m_impl_within l.service 1 3).bind fun y1 =>
 cond y1
 ((m_impl_within l.serial 0 999999999).bind fun y2 =>
 cond y2
 ((m_impl_IsPlace l.to_).bind fun y3 =>
 some y3)
 (some false))
 (some false)
theorem ok_impl_IsLabel (l : YLabel) {r : Bool} (H : m_impl_IsLabel l = some r) : CallM Try.prog 95 [.ag (cLabel l)] [] (vb r) [] := by
  replace H := H0 H
  unfold m_impl_IsLabel at H
  refine callM_of Try.func95 rfl Try.ntmps95 Try.results95 fun Q hQ hQn => ?_
  exact wk2
instance (l : YLabel) : CT Try.prog (m_impl_IsLabel l) := ⟨95, [.ag (cLabel l)], [], fun r => vb r, fun r => [], ok_impl_IsLabel l⟩
end Go.Proofs.Ytooikkfldddjfaa

/- The mirror of impl_IsParcel, and that the code does just that (printed by a program of my own). -/
namespace Go.Proofs.Ytooikkfldddjfaa
set_option maxRecDepth 10000
open Go.RowKit
set_option linter.unusedVariables false
set_option maxHeartbeats 16000000
def m_impl_IsParcel (p : YParcel) : Option Bool :=
 (m_impl_IsLabel p.label).bind fun y1 =>
 cond y1
 ((m_impl_IsPlace p.from_).bind fun y2 =>
 cond y2
 (cond (!decide (p.from_ = p.label.to_))
 ((m_impl_within p.weight 1 30000).bind fun y3 =>
 cond y3
 ((m_impl_threeSides p.sides).bind fun y4 =>
 cond y4
 ((m_impl_GirthOf p.sides).bind fun y5 =>
 cond (decide (y5 ≤ 3600))
 ((m_impl_within p.value 0 500000).bind fun y6 =>
 some y6)
 (some false))
 (some false))
 (some false))
 (some false))
 (some false))
 (some false)
theorem ok_impl_IsParcel (p : YParcel) {r : Bool} (H : m_impl_IsParcel p = some r) : CallM Try.prog 53 [.ag (cParcel p)] [] (vb r) [] := by
  replace H := H0 H
  unfold m_impl_IsParcel at H
  refine callM_of Try.func53 rfl Try.ntmps53 Try.results53 fun Q hQ hQn => ?_
  exact wk2
instance (p : YParcel) : CT Try.prog (m_impl_IsParcel p) := ⟨53, [.ag (cParcel p)], [], fun r => vb r, fun r => [], ok_impl_IsParcel p⟩
end Go.Proofs.Ytooikkfldddjfaa

/- The mirror of impl_same_int_, and that the code does just that (printed by a program of my own). -/
namespace Go.Proofs.Ytooikkfldddjfaa
set_option maxRecDepth 10000
open Go.RowKit
set_option linter.unusedVariables false
set_option maxHeartbeats 16000000
def m_impl_same_int__b0 (a : List Int) (b : List Int) (s0 : Int) : Option (Int ⊕ (Unit ⊕ Bool)) :=
 cond (decide (s0 < (a.length : Int)))
 ((getI a s0).bind fun y1 =>
 (getI b s0).bind fun y2 =>
 cond (!decide (y1 = y2))
 (some (.inr (.inr false)))
 (some (.inl (w64 (s0 + 1)))))
 (some (.inr (.inl ())))
instance (a : List Int) (b : List Int) : LoopE (m_impl_same_int__b0 a b) := ⟨fun s0 => [.sl (a.map cInt), .sl (b.map cInt), .un, .un, .un, .un, .un, .un, .un, .un, .un, .un, vi (a.length : Int), vi s0, .un, .un, .un, .un, .un, .un, .un, .un, .un, .un, .un, .un], fun s0 => []⟩
def m_impl_same_int_ (a : List Int) (b : List Int) : Option Bool :=
 cond (!decide ((a.length : Int) = (b.length : Int)))
 (some false)
 ((iterF (m_impl_same_int__b0 a b) NN 0).bind (selim (fun o0 =>
 some true) (fun r => some r)))
theorem ok_impl_same_int_ (a : List Int) (b : List Int) {r : Bool} (H : m_impl_same_int_ a b = some r) : CallM Try.prog 38 [.sl (a.map cInt), .sl (b.map cInt)] [] (vb r) [] := by
  replace H := H0 H
  unfold m_impl_same_int_ at H
  refine callM_of Try.func38 rfl Try.ntmps38 Try.results38 fun Q hQ hQn => ?_
  exact wk2
instance (a : List Int) (b : List Int) : CT Try.prog (m_impl_same_int_ a b) := ⟨38, [.sl (a.map cInt), .sl (b.map cInt)], [], fun r => vb r, fun r => [], ok_impl_same_int_ a b⟩
end Go.Proofs.Ytooikkfldddjfaa

/- The mirror of impl_sameParcels, and that the code does just that (printed by a program of my own). -/
namespace Go.Proofs.Ytooikkfldddjfaa
set_option maxRecDepth 10000
open Go.RowKit
set_option linter.unusedVariables false
set_option maxHeartbeats 16000000
def m_impl_sameParcels (a : YParcel) (b : YParcel) : Option Bool :=
 cond (decide (a.label = b.label))
 (cond (decide (a.from_ = b.from_))
 (cond (decide (a.weight = b.weight))
 ((m_impl_same_int_ a.sides b.sides).bind fun y1 =>
 cond y1
 (some (decide (a.value = b.value)))
 (some false))
 (some false))
 (some false))
 (some false)
theorem ok_impl_sameParcels (a : YParcel) (b : YParcel) {r : Bool} (H : m_impl_sameParcels a b = some r) : CallM Try.prog 72 [.ag (cParcel a), .ag (cParcel b)] [] (vb r) [] := by
  replace H := H0 H
  unfold m_impl_sameParcels at H
  refine callM_of Try.func72 rfl Try.ntmps72 Try.results72 fun Q hQ hQn => ?_
  exact wk2
instance (a : YParcel) (b : YParcel) : CT Try.prog (m_impl_sameParcels a b) := ⟨72, [.ag (cParcel a), .ag (cParcel b)], [], fun r => vb r, fun r => [], ok_impl_sameParcels a b⟩
end Go.Proofs.Ytooikkfldddjfaa

/- The mirror of impl_sameActs, and that the code does just that (printed by a program of my own). -/
namespace Go.Proofs.Ytooikkfldddjfaa
set_option maxRecDepth 10000
open Go.RowKit
set_option linter.unusedVariables false
set_option maxHeartbeats 16000000
def m_impl_sameActs (a : YAct) (b : YAct) : Option Bool :=
 cond (decide (a.kind = b.kind))
 ((m_impl_sameParcels a.parcel b.parcel).bind fun y1 =>
 cond y1
 (cond (decide (a.order = b.order))
 (cond (decide (a.amount = b.amount))
 (cond (decide (a.until_ = b.until_))
 (some (decide (a.trip = b.trip)))
 (some false))
 (some false))
 (some false))
 (some false))
 (some false)
theorem ok_impl_sameActs (a : YAct) (b : YAct) {r : Bool} (H : m_impl_sameActs a b = some r) : CallM Try.prog 55 [.ag (cAct a), .ag (cAct b)] [] (vb r) [] := by
  replace H := H0 H
  unfold m_impl_sameActs at H
  refine callM_of Try.func55 rfl Try.ntmps55 Try.results55 fun Q hQ hQn => ?_
  exact wk2
instance (a : YAct) (b : YAct) : CT Try.prog (m_impl_sameActs a b) := ⟨55, [.ag (cAct a), .ag (cAct b)], [], fun r => vb r, fun r => [], ok_impl_sameActs a b⟩
end Go.Proofs.Ytooikkfldddjfaa

/- The mirror of impl_IsAct, and that the code does just that (printed by a program of my own). -/
namespace Go.Proofs.Ytooikkfldddjfaa
set_option maxRecDepth 10000
open Go.RowKit
set_option linter.unusedVariables false
set_option maxHeartbeats 16000000
def m_impl_IsAct (a : YAct) : Option Bool :=
 (jn 3 22 (
 cond (decide (a.kind = 1))
 ((m_impl_IsParcel a.parcel).bind fun y1 =>
 some (.inl (y1, a.parcel.label.service, a.parcel.label.serial, a.parcel.label.to_, a.parcel.from_, a.parcel.weight, a.parcel.sides, a.parcel.value, 0, 0, 0, 0, 0)))
 (cond (decide (a.kind = 2))
 ((m_impl_within a.order 1 9999).bind fun y2 =>
 cond y2
 ((m_impl_within a.amount 1 100000).bind fun y3 =>
 some (.inl (y3, 0, 0, ⟨#[]⟩, ⟨#[]⟩, 0, [], 0, a.order, a.amount, 0, 0, 0)))
 (some (.inl (false, 0, 0, ⟨#[]⟩, ⟨#[]⟩, 0, [], 0, a.order, a.amount, 0, 0, 0))))
 (cond (decide (a.kind = 3))
 ((m_impl_within a.until_ 0 100000).bind fun y4 =>
 some (.inl (y4, 0, 0, ⟨#[]⟩, ⟨#[]⟩, 0, [], 0, 0, 0, a.until_, 0, 0)))
 (cond (decide (a.kind = 4))
 ((m_impl_within a.trip.leg 0 19).bind fun y5 =>
 cond y5
 ((m_impl_within a.trip.day 0 60).bind fun y6 =>
 some (.inl (y6, 0, 0, ⟨#[]⟩, ⟨#[]⟩, 0, [], 0, 0, 0, 0, a.trip.leg, a.trip.day)))
 (some (.inl (false, 0, 0, ⟨#[]⟩, ⟨#[]⟩, 0, [], 0, 0, 0, 0, a.trip.leg, a.trip.day))))
 (cond (decide (a.kind = 5))
 (some (.inl (true, 0, 0, ⟨#[]⟩, ⟨#[]⟩, 0, [], 0, 0, 0, 0, 0, 0)))
 (cond (decide (a.kind = 6))
 ((m_impl_within a.order 1 9999).bind fun y7 =>
 some (.inl (y7, 0, 0, ⟨#[]⟩, ⟨#[]⟩, 0, [], 0, a.order, 0, 0, 0, 0)))
 (some (.inl (false, 0, 0, ⟨#[]⟩, ⟨#[]⟩, 0, [], 0, 0, 0, 0, 0, 0)))))))) : Option ((Bool × Int × Int × ByteArray × ByteArray × Int × (List Int) × Int × Int × Int × Int × Int × Int) ⊕ Empty)) (fun z8 => (.un :: .be 0 0 0 :: .un :: .be 1 0 0 :: vb z8.1 :: .un :: .un :: .un :: .un :: .un :: .un :: .un :: .un :: .un :: .un :: .un :: .un :: .un :: .un :: .un :: .un :: .un :: .un :: .un :: .un :: .un :: .un :: .un :: .un :: .un :: .un :: .un :: .un :: .un :: .un :: .un :: .un :: .un :: .un :: .un :: .un :: .un :: .un :: .un :: .un :: .un :: .un :: .un :: .un :: .un :: .un :: .un :: .un :: .un :: .un :: .un :: .un :: .un :: .un :: .un :: .un :: .un :: .un :: .un :: .un :: .un :: .un :: .un :: .un :: .un :: .un :: .un :: .un :: [])) (fun z8 => [some ⟨60, 13, [[vi a.kind, vi a.parcel.label.service, vi a.parcel.label.serial, vs a.parcel.label.to_, vs a.parcel.from_, vi a.parcel.weight, .sl (a.parcel.sides.map cInt), vi a.parcel.value, vi a.order, vi a.amount, vi a.until_, vi a.trip.leg, vi a.trip.day]]⟩, some ⟨60, 13, [[vi a.kind, vi z8.2.1, vi z8.2.2.1, vs z8.2.2.2.1, vs z8.2.2.2.2.1, vi z8.2.2.2.2.2.1, .sl (z8.2.2.2.2.2.2.1.map cInt), vi z8.2.2.2.2.2.2.2.1, vi z8.2.2.2.2.2.2.2.2.1, vi z8.2.2.2.2.2.2.2.2.2.1, vi z8.2.2.2.2.2.2.2.2.2.2.1, vi z8.2.2.2.2.2.2.2.2.2.2.2.1, vi z8.2.2.2.2.2.2.2.2.2.2.2.2]]⟩])).bind (selim (fun z8 =>
 cond z8.1
 ((m_impl_sameActs a (⟨a.kind, (⟨(⟨z8.2.1, z8.2.2.1, z8.2.2.2.1⟩ : YLabel), z8.2.2.2.2.1, z8.2.2.2.2.2.1, z8.2.2.2.2.2.2.1, z8.2.2.2.2.2.2.2.1⟩ : YParcel), z8.2.2.2.2.2.2.2.2.1, z8.2.2.2.2.2.2.2.2.2.1, z8.2.2.2.2.2.2.2.2.2.2.1, (⟨z8.2.2.2.2.2.2.2.2.2.2.2.1, z8.2.2.2.2.2.2.2.2.2.2.2.2⟩ : YTrip)⟩ : YAct)).bind fun y9 =>
 some y9)
 (some false)) (fun r => nomatch r))
theorem ok_impl_IsAct (a : YAct) {r : Bool} (H : m_impl_IsAct a = some r) : CallM Try.prog 14 [.ag (cAct a)] [] (vb r) [] := by
  replace H := H0 H
  unfold m_impl_IsAct at H
  refine callM_of Try.func14 rfl Try.ntmps14 Try.results14 fun Q hQ hQn => ?_
  exact wk2
instance (a : YAct) : CT Try.prog (m_impl_IsAct a) := ⟨14, [.ag (cAct a)], [], fun r => vb r, fun r => [], ok_impl_IsAct a⟩
end Go.Proofs.Ytooikkfldddjfaa

/- The mirror of spec_IsLabel, and that the code does just that (printed by a program of my own). -/
namespace Go.Proofs.Ytooikkfldddjfaa
set_option maxRecDepth 10000
open Go.RowKit
set_option linter.unusedVariables false
set_option maxHeartbeats 16000000
def m_spec_IsLabel (l : YLabel) : Option Bool :=
 (m_spec_l1In l.service 1 3).bind fun y1 =>
 cond y1
 ((m_spec_l1In l.serial 0 999999999).bind fun y2 =>
 cond y2
 ((m_spec_IsPlace l.to_).bind fun y3 =>
 some y3)
 (some false))
 (some false)
theorem ok_spec_IsLabel (l : YLabel) {r : Bool} (H : m_spec_IsLabel l = some r) : CallM Try.prog 90 [.ag (cLabel l)] [] (vb r) [] := by
  replace H := H0 H
  unfold m_spec_IsLabel at H
  refine callM_of Try.func90 rfl Try.ntmps90 Try.results90 fun Q hQ hQn => ?_
  exact wk2
instance (l : YLabel) : CT Try.prog (m_spec_IsLabel l) := ⟨90, [.ag (cLabel l)], [], fun r => vb r, fun r => [], ok_spec_IsLabel l⟩
end Go.Proofs.Ytooikkfldddjfaa

/- The mirror of spec_l2Three, and that the code does just that (printed by a program of my own). -/
namespace Go.Proofs.Ytooikkfldddjfaa
set_option maxRecDepth 10000
open Go.RowKit
set_option linter.unusedVariables false
set_option maxHeartbeats 16000000
def m_spec_l2Three_b0 (l : List Int) (s0 : Int) : Option (Int ⊕ (Unit ⊕ Bool)) :=
 cond (decide (s0 < (l.length : Int)))
 ((getI l s0).bind fun y1 =>
 (m_spec_l1In y1 1 2000).bind fun y2 =>
 cond (!y2)
 (some (.inr (.inr false)))
 (some (.inl (w64 (s0 + 1)))))
 (some (.inr (.inl ())))
instance (l : List Int) : LoopE (m_spec_l2Three_b0 l) := ⟨fun s0 => [.sl (l.map cInt), .un, .un, vi s0, .un, .un, .un, .un, .un, .un, .un, .un, .un, .un, .un, .un, .un, .un, .un], fun s0 => []⟩
def m_spec_l2Three (l : List Int) : Option Bool :=
 (iterF (m_spec_l2Three_b0 l) NN 0).bind (selim (fun o0 =>
 some (decide ((l.length : Int) = 3))) (fun r => some r))
theorem ok_spec_l2Three (l : List Int) {r : Bool} (H : m_spec_l2Three l = some r) : CallM Try.prog 92 [.sl (l.map cInt)] [] (vb r) [] := by
  replace H := H0 H
  unfold m_spec_l2Three at H
  refine callM_of Try.func92 rfl Try.ntmps92 Try.results92 fun Q hQ hQn => ?_
  exact wk2
instance (l : List Int) : CT Try.prog (m_spec_l2Three l) := ⟨92, [.sl (l.map cInt)], [], fun r => vb r, fun r => [], ok_spec_l2Three l⟩
end Go.Proofs.Ytooikkfldddjfaa

/- The mirror of spec_l1Ints, and that the code does just that (printed by a program of my own). -/
namespace Go.Proofs.Ytooikkfldddjfaa
set_option maxRecDepth 10000
open Go.RowKit
set_option linter.unusedVariables false
set_option maxHeartbeats 16000000
def m_spec_l1Ints (l : List Int) : Option (List Int) :=
 (chk (appOk ((([] : List Int) : List Int).length + (l : List Int).length) 8)).bind fun _ =>
 some ((([] : List Int) : List Int) ++ l)
theorem ok_spec_l1Ints (l : List Int) {r : (List Int)} (H : m_spec_l1Ints l = some r) : CallM Try.prog 112 [.sl (l.map cInt)] [] (.ms 0) [some ⟨3, 1, r.map cInt⟩] := by
  replace H := H0 H
  unfold m_spec_l1Ints at H
  refine callM_of Try.func112 rfl Try.ntmps112 Try.results112 fun Q hQ hQn => ?_
  exact wk2
instance (l : List Int) : CT Try.prog (m_spec_l1Ints l) := ⟨112, [.sl (l.map cInt)], [], fun r => .ms 0, fun r => [some ⟨3, 1, r.map cInt⟩], ok_spec_l1Ints l⟩
end Go.Proofs.Ytooikkfldddjfaa

/- The mirror of spec_SortSides, and that the code does just that (printed by a program of my own). -/
namespace Go.Proofs.Ytooikkfldddjfaa
set_option maxRecDepth 10000
open Go.RowKit
set_option linter.unusedVariables false
set_option maxHeartbeats 16000000
def m_spec_SortSides_b1 (l : List Int) (s0 : Int × (List Int)) (s1 : Int) : Option (Int ⊕ Int) :=
 cond (decide (s1 < (s0.2.length : Int)))
 ((getI s0.2 s1).bind fun y1 =>
 (getI l s0.1).bind fun y2 =>
 cond (decide (y2 ≤ y1))
 (some (.inl (w64 (s1 + 1))))
 (some (.inr s1)))
 (some (.inr s1))
instance (l : List Int) (s0 : Int × (List Int)) : LoopE (m_spec_SortSides_b1 l s0) := ⟨fun s1 => [.sl (l.map cInt), .un, .un, .ms 0, vi s0.1, vi s1, .un, .un, .un, .un, .un, .un, .un, .un, .un, .un, .un, .un, .un, .un, .un, .un, .un, .un, .un, .un, .un, .un, .un, .un, .un, .un, .un, .un, .un, .un, .un, .un, .un, .un, .un, .un, .un, .un, .un], fun s1 => [some ⟨3, 1, s0.2.map cInt⟩]⟩
def m_spec_SortSides_b0 (l : List Int) (s0 : Int × (List Int)) : Option ((Int × (List Int)) ⊕ (List Int)) :=
 cond (decide (s0.1 < (l.length : Int)))
 ((iterF (m_spec_SortSides_b1 l s0) NN 0).bind (fun o1 =>
 (chk (slOk 0 o1 s0.2.length)).bind fun _ =>
 (m_spec_l1Ints (subL s0.2 0 o1)).bind fun y3 =>
 (getI l s0.1).bind fun y4 =>
 (chk (appOk ((y3 : List Int).length + ([y4] : List Int).length) 8)).bind fun _ =>
 (chk (slOk o1 (s0.2.length : Int) s0.2.length)).bind fun _ =>
 (chk (appOk ((((y3 : List Int) ++ [y4]) : List Int).length + ((subL s0.2 o1 (s0.2.length : Int)) : List Int).length) 8)).bind fun _ =>
 some (.inl ((w64 (s0.1 + 1)), ((((y3 : List Int) ++ [y4]) : List Int) ++ (subL s0.2 o1 (s0.2.length : Int)))))))
 (some (.inr s0.2))
instance (l : List Int) : LoopE (m_spec_SortSides_b0 l) := ⟨fun s0 => [.sl (l.map cInt), .un, .un, .ms 0, vi s0.1, .un, .un, .un, .un, .un, .un, .un, .un, .un, .un, .un, .un, .un, .un, .un, .un, .un, .un, .un, .un, .un, .un, .un, .un, .un, .un, .un, .un, .un, .un, .un, .un, .un, .un, .un, .un, .un, .un, .un, .un], fun s0 => [some ⟨3, 1, s0.2.map cInt⟩]⟩
def m_spec_SortSides (l : List Int) : Option (List Int) :=
 (iterF (m_spec_SortSides_b0 l) NN (0, ([] : List Int))).bind (fun o0 =>
 some o0)
theorem ok_spec_SortSides (l : List Int) {r : (List Int)} (H : m_spec_SortSides l = some r) : CallM Try.prog 110 [.sl (l.map cInt)] [] (.ms 0) [some ⟨3, 1, r.map cInt⟩] := by
  replace H := H0 H
  unfold m_spec_SortSides at H
  refine callM_of Try.func110 rfl Try.ntmps110 Try.results110 fun Q hQ hQn => ?_
  exact wk2
instance (l : List Int) : CT Try.prog (m_spec_SortSides l) := ⟨110, [.sl (l.map cInt)], [], fun r => .ms 0, fun r => [some ⟨3, 1, r.map cInt⟩], ok_spec_SortSides l⟩
end Go.Proofs.Ytooikkfldddjfaa

/- The mirror of spec_GirthOf, and that the code does just that (printed by a program of my own). -/
namespace Go.Proofs.Ytooikkfldddjfaa
set_option maxRecDepth 10000
open Go.RowKit
set_option linter.unusedVariables false
set_option maxHeartbeats 16000000
def m_spec_GirthOf (sides : List Int) : Option Int :=
 (m_spec_l2Three sides).bind fun y1 =>
 cond (!y1)
 (some 0)
 ((m_spec_SortSides sides).bind fun y2 =>
 (getI y2 0).bind fun y3 =>
 (getI y2 1).bind fun y4 =>
 (getI y2 2).bind fun y5 =>
 some (w64 ((w64 (y3 + (w64 (2 * y4)))) + (w64 (2 * y5)))))
theorem ok_spec_GirthOf (sides : List Int) {r : Int} (H : m_spec_GirthOf sides = some r) : CallM Try.prog 93 [.sl (sides.map cInt)] [] (vi r) [] := by
  replace H := H0 H
  unfold m_spec_GirthOf at H
  refine callM_of Try.func93 rfl Try.ntmps93 Try.results93 fun Q hQ hQn => ?_
  exact wk2
instance (sides : List Int) : CT Try.prog (m_spec_GirthOf sides) := ⟨93, [.sl (sides.map cInt)], [], fun r => vi r, fun r => [], ok_spec_GirthOf sides⟩
end Go.Proofs.Ytooikkfldddjfaa

/- The mirror of spec_IsParcel, and that the code does just that (printed by a program of my own). -/
namespace Go.Proofs.Ytooikkfldddjfaa
set_option maxRecDepth 10000
open Go.RowKit
set_option linter.unusedVariables false
set_option maxHeartbeats 16000000
def m_spec_IsParcel (p : YParcel) : Option Bool :=
 (m_spec_IsLabel p.label).bind fun y1 =>
 cond y1
 ((m_spec_IsPlace p.from_).bind fun y2 =>
 cond y2
 (cond (!decide (p.from_ = p.label.to_))
 ((m_spec_l1In p.weight 1 30000).bind fun y3 =>
 cond y3
 ((m_spec_l2Three p.sides).bind fun y4 =>
 cond y4
 ((m_spec_GirthOf p.sides).bind fun y5 =>
 cond (decide (y5 ≤ 3600))
 ((m_spec_l1In p.value 0 500000).bind fun y6 =>
 some y6)
 (some false))
 (some false))
 (some false))
 (some false))
 (some false))
 (some false)
theorem ok_spec_IsParcel (p : YParcel) {r : Bool} (H : m_spec_IsParcel p = some r) : CallM Try.prog 49 [.ag (cParcel p)] [] (vb r) [] := by
  replace H := H0 H
  unfold m_spec_IsParcel at H
  refine callM_of Try.func49 rfl Try.ntmps49 Try.results49 fun Q hQ hQn => ?_
  exact wk2
instance (p : YParcel) : CT Try.prog (m_spec_IsParcel p) := ⟨49, [.ag (cParcel p)], [], fun r => vb r, fun r => [], ok_spec_IsParcel p⟩
end Go.Proofs.Ytooikkfldddjfaa

/- The mirror of spec_IsAct, and that the code does just that (printed by a program of my own). -/
namespace Go.Proofs.Ytooikkfldddjfaa
set_option maxRecDepth 10000
open Go.RowKit
set_option linter.unusedVariables false
set_option maxHeartbeats 16000000
def m_spec_IsAct (a : YAct) : Option Bool :=
 (jn 2 7 (
 cond (decide (a.kind = 1))
 ((m_spec_IsParcel a.parcel).bind fun y1 =>
 cond (!y1)
 (some (.inr false))
 (some (.inl ())))
 (cond (!decide (a.parcel.label = (⟨0, 0, ⟨#[]⟩⟩ : YLabel)))
 (some (.inr false))
 (cond (!decide (a.parcel.from_ = ⟨#[]⟩))
 (some (.inr false))
 (cond (!decide (a.parcel.weight = 0))
 (some (.inr false))
 (cond (decide (0 < (a.parcel.sides.length : Int)))
 (some (.inr false))
 (cond (!decide (a.parcel.value = 0))
 (some (.inr false))
 (some (.inl ()))))))) : Option (Unit ⊕ Bool)) (fun z2 => (.un :: .be 0 0 0 :: .un :: .un :: .un :: .un :: .un :: .un :: .un :: .un :: .un :: .un :: .un :: .un :: .un :: .un :: .un :: .un :: .un :: .un :: .un :: .un :: .un :: .un :: .un :: .un :: .un :: .un :: .un :: .un :: .un :: .un :: .un :: .un :: .un :: .un :: .un :: .un :: .un :: .un :: .un :: .un :: .un :: .un :: .un :: .un :: .un :: .un :: .un :: .un :: .un :: .un :: .un :: .un :: .un :: .un :: .un :: .un :: .un :: .un :: .un :: .un :: .un :: .un :: .un :: .un :: .un :: .un :: .un :: .un :: .un :: .un :: .un :: .un :: .un :: .un :: .un :: .un :: .un :: .un :: .un :: .un :: .un :: .un :: .un :: .un :: .un :: .un :: .un :: .un :: .un :: .un :: .un :: .un :: .un :: .un :: .un :: .un :: .un :: .un :: .un :: .un :: .un :: .un :: .un :: .un :: .un :: .un :: .un :: .un :: .un :: .un :: .un :: .un :: .un :: .un :: .un :: .un :: .un :: .un :: .un :: .un :: .un :: .un :: .un :: .un :: .un :: .un :: .un :: .un :: .un :: [])) (fun z2 => [some ⟨60, 13, [[vi a.kind, vi a.parcel.label.service, vi a.parcel.label.serial, vs a.parcel.label.to_, vs a.parcel.from_, vi a.parcel.weight, .sl (a.parcel.sides.map cInt), vi a.parcel.value, vi a.order, vi a.amount, vi a.until_, vi a.trip.leg, vi a.trip.day]]⟩])).bind (selim (fun z2 =>
 (jn 7 8 (
 cond (decide (a.kind = 2))
 (some (.inl true))
 (some (.inl (decide (a.kind = 6)))) : Option (Bool ⊕ Empty)) (fun z3 => (.un :: .be 0 0 0 :: .un :: .un :: vb z3 :: .un :: .un :: .un :: .un :: .un :: .un :: .un :: .un :: .un :: .un :: .un :: .un :: .un :: .un :: .un :: .un :: .un :: .un :: .un :: .un :: .un :: .un :: .un :: .un :: .un :: .un :: .un :: .un :: .un :: .un :: .un :: .un :: .un :: .un :: .un :: .un :: .un :: .un :: .un :: .un :: .un :: .un :: .un :: .un :: .un :: .un :: .un :: .un :: .un :: .un :: .un :: .un :: .un :: .un :: .un :: .un :: .un :: .un :: .un :: .un :: .un :: .un :: .un :: .un :: .un :: .un :: .un :: .un :: .un :: .un :: .un :: .un :: .un :: .un :: .un :: .un :: .un :: .un :: .un :: .un :: .un :: .un :: .un :: .un :: .un :: .un :: .un :: .un :: .un :: .un :: .un :: .un :: .un :: .un :: .un :: .un :: .un :: .un :: .un :: .un :: .un :: .un :: .un :: .un :: .un :: .un :: .un :: .un :: .un :: .un :: .un :: .un :: .un :: .un :: .un :: .un :: .un :: .un :: .un :: .un :: .un :: .un :: .un :: .un :: .un :: .un :: [])) (fun z3 => [some ⟨60, 13, [[vi a.kind, vi a.parcel.label.service, vi a.parcel.label.serial, vs a.parcel.label.to_, vs a.parcel.from_, vi a.parcel.weight, .sl (a.parcel.sides.map cInt), vi a.parcel.value, vi a.order, vi a.amount, vi a.until_, vi a.trip.leg, vi a.trip.day]]⟩])).bind (selim (fun z3 =>
 (jn 8 10 (
 cond z3
 ((m_spec_l1In a.order 1 9999).bind fun y4 =>
 cond (!y4)
 (some (.inr false))
 (cond (!z3)
 (cond (!decide (a.order = 0))
 (some (.inr false))
 (some (.inl ())))
 (some (.inl ()))))
 (cond (!z3)
 (cond (!decide (a.order = 0))
 (some (.inr false))
 (some (.inl ())))
 (some (.inl ()))) : Option (Unit ⊕ Bool)) (fun z5 => (.un :: .be 0 0 0 :: .un :: .un :: .un :: .un :: .un :: .un :: .un :: .un :: .un :: .un :: .un :: .un :: .un :: .un :: .un :: .un :: .un :: .un :: .un :: .un :: .un :: .un :: .un :: .un :: .un :: .un :: .un :: .un :: .un :: .un :: .un :: .un :: .un :: .un :: .un :: .un :: .un :: .un :: .un :: .un :: .un :: .un :: .un :: .un :: .un :: .un :: .un :: .un :: .un :: .un :: .un :: .un :: .un :: .un :: .un :: .un :: .un :: .un :: .un :: .un :: .un :: .un :: .un :: .un :: .un :: .un :: .un :: .un :: .un :: .un :: .un :: .un :: .un :: .un :: .un :: .un :: .un :: .un :: .un :: .un :: .un :: .un :: .un :: .un :: .un :: .un :: .un :: .un :: .un :: .un :: .un :: .un :: .un :: .un :: .un :: .un :: .un :: .un :: .un :: .un :: .un :: .un :: .un :: .un :: .un :: .un :: .un :: .un :: .un :: .un :: .un :: .un :: .un :: .un :: .un :: .un :: .un :: .un :: .un :: .un :: .un :: .un :: .un :: .un :: .un :: .un :: .un :: .un :: .un :: [])) (fun z5 => [some ⟨60, 13, [[vi a.kind, vi a.parcel.label.service, vi a.parcel.label.serial, vs a.parcel.label.to_, vs a.parcel.from_, vi a.parcel.weight, .sl (a.parcel.sides.map cInt), vi a.parcel.value, vi a.order, vi a.amount, vi a.until_, vi a.trip.leg, vi a.trip.day]]⟩])).bind (selim (fun z5 =>
 (jn 10 12 (
 cond (decide (a.kind = 2))
 ((m_spec_l1In a.amount 1 100000).bind fun y6 =>
 cond (!y6)
 (some (.inr false))
 (cond (!decide (a.kind = 2))
 (cond (!decide (a.amount = 0))
 (some (.inr false))
 (some (.inl ())))
 (some (.inl ()))))
 (cond (!decide (a.kind = 2))
 (cond (!decide (a.amount = 0))
 (some (.inr false))
 (some (.inl ())))
 (some (.inl ()))) : Option (Unit ⊕ Bool)) (fun z7 => (.un :: .be 0 0 0 :: .un :: .un :: .un :: .un :: .un :: .un :: .un :: .un :: .un :: .un :: .un :: .un :: .un :: .un :: .un :: .un :: .un :: .un :: .un :: .un :: .un :: .un :: .un :: .un :: .un :: .un :: .un :: .un :: .un :: .un :: .un :: .un :: .un :: .un :: .un :: .un :: .un :: .un :: .un :: .un :: .un :: .un :: .un :: .un :: .un :: .un :: .un :: .un :: .un :: .un :: .un :: .un :: .un :: .un :: .un :: .un :: .un :: .un :: .un :: .un :: .un :: .un :: .un :: .un :: .un :: .un :: .un :: .un :: .un :: .un :: .un :: .un :: .un :: .un :: .un :: .un :: .un :: .un :: .un :: .un :: .un :: .un :: .un :: .un :: .un :: .un :: .un :: .un :: .un :: .un :: .un :: .un :: .un :: .un :: .un :: .un :: .un :: .un :: .un :: .un :: .un :: .un :: .un :: .un :: .un :: .un :: .un :: .un :: .un :: .un :: .un :: .un :: .un :: .un :: .un :: .un :: .un :: .un :: .un :: .un :: .un :: .un :: .un :: .un :: .un :: .un :: .un :: .un :: .un :: [])) (fun z7 => [some ⟨60, 13, [[vi a.kind, vi a.parcel.label.service, vi a.parcel.label.serial, vs a.parcel.label.to_, vs a.parcel.from_, vi a.parcel.weight, .sl (a.parcel.sides.map cInt), vi a.parcel.value, vi a.order, vi a.amount, vi a.until_, vi a.trip.leg, vi a.trip.day]]⟩])).bind (selim (fun z7 =>
 (jn 12 14 (
 cond (decide (a.kind = 3))
 ((m_spec_l1In a.until_ 0 100000).bind fun y8 =>
 cond (!y8)
 (some (.inr false))
 (cond (!decide (a.kind = 3))
 (cond (!decide (a.until_ = 0))
 (some (.inr false))
 (some (.inl ())))
 (some (.inl ()))))
 (cond (!decide (a.kind = 3))
 (cond (!decide (a.until_ = 0))
 (some (.inr false))
 (some (.inl ())))
 (some (.inl ()))) : Option (Unit ⊕ Bool)) (fun z9 => (.un :: .be 0 0 0 :: .un :: .un :: .un :: .un :: .un :: .un :: .un :: .un :: .un :: .un :: .un :: .un :: .un :: .un :: .un :: .un :: .un :: .un :: .un :: .un :: .un :: .un :: .un :: .un :: .un :: .un :: .un :: .un :: .un :: .un :: .un :: .un :: .un :: .un :: .un :: .un :: .un :: .un :: .un :: .un :: .un :: .un :: .un :: .un :: .un :: .un :: .un :: .un :: .un :: .un :: .un :: .un :: .un :: .un :: .un :: .un :: .un :: .un :: .un :: .un :: .un :: .un :: .un :: .un :: .un :: .un :: .un :: .un :: .un :: .un :: .un :: .un :: .un :: .un :: .un :: .un :: .un :: .un :: .un :: .un :: .un :: .un :: .un :: .un :: .un :: .un :: .un :: .un :: .un :: .un :: .un :: .un :: .un :: .un :: .un :: .un :: .un :: .un :: .un :: .un :: .un :: .un :: .un :: .un :: .un :: .un :: .un :: .un :: .un :: .un :: .un :: .un :: .un :: .un :: .un :: .un :: .un :: .un :: .un :: .un :: .un :: .un :: .un :: .un :: .un :: .un :: .un :: .un :: .un :: [])) (fun z9 => [some ⟨60, 13, [[vi a.kind, vi a.parcel.label.service, vi a.parcel.label.serial, vs a.parcel.label.to_, vs a.parcel.from_, vi a.parcel.weight, .sl (a.parcel.sides.map cInt), vi a.parcel.value, vi a.order, vi a.amount, vi a.until_, vi a.trip.leg, vi a.trip.day]]⟩])).bind (selim (fun z9 =>
 (jn 14 16 (
 cond (decide (a.kind = 4))
 ((m_spec_l1In a.trip.leg 0 19).bind fun y10 =>
 cond (!y10)
 (some (.inr false))
 ((m_spec_l1In a.trip.day 0 60).bind fun y11 =>
 cond (!y11)
 (some (.inr false))
 (cond (!decide (a.kind = 4))
 (cond (!decide (a.trip = (⟨0, 0⟩ : YTrip)))
 (some (.inr false))
 (some (.inl ())))
 (some (.inl ())))))
 (cond (!decide (a.kind = 4))
 (cond (!decide (a.trip = (⟨0, 0⟩ : YTrip)))
 (some (.inr false))
 (some (.inl ())))
 (some (.inl ()))) : Option (Unit ⊕ Bool)) (fun z12 => (.un :: .be 0 0 0 :: .un :: .un :: .un :: .un :: .un :: .un :: .un :: .un :: .un :: .un :: .un :: .un :: .un :: .un :: .un :: .un :: .un :: .un :: .un :: .un :: .un :: .un :: .un :: .un :: .un :: .un :: .un :: .un :: .un :: .un :: .un :: .un :: .un :: .un :: .un :: .un :: .un :: .un :: .un :: .un :: .un :: .un :: .un :: .un :: .un :: .un :: .un :: .un :: .un :: .un :: .un :: .un :: .un :: .un :: .un :: .un :: .un :: .un :: .un :: .un :: .un :: .un :: .un :: .un :: .un :: .un :: .un :: .un :: .un :: .un :: .un :: .un :: .un :: .un :: .un :: .un :: .un :: .un :: .un :: .un :: .un :: .un :: .un :: .un :: .un :: .un :: .un :: .un :: .un :: .un :: .un :: .un :: .un :: .un :: .un :: .un :: .un :: .un :: .un :: .un :: .un :: .un :: .un :: .un :: .un :: .un :: .un :: .un :: .un :: .un :: .un :: .un :: .un :: .un :: .un :: .un :: .un :: .un :: .un :: .un :: .un :: .un :: .un :: .un :: .un :: .un :: .un :: .un :: .un :: [])) (fun z12 => [some ⟨60, 13, [[vi a.kind, vi a.parcel.label.service, vi a.parcel.label.serial, vs a.parcel.label.to_, vs a.parcel.from_, vi a.parcel.weight, .sl (a.parcel.sides.map cInt), vi a.parcel.value, vi a.order, vi a.amount, vi a.until_, vi a.trip.leg, vi a.trip.day]]⟩])).bind (selim (fun z12 =>
 (m_spec_l1In a.kind 1 6).bind fun y13 =>
 some y13) (fun r => some r))) (fun r => some r))) (fun r => some r))) (fun r => some r))) (fun r => nomatch r))) (fun r => some r))
theorem ok_spec_IsAct (a : YAct) {r : Bool} (H : m_spec_IsAct a = some r) : CallM Try.prog 12 [.ag (cAct a)] [] (vb r) [] := by
  replace H := H0 H
  unfold m_spec_IsAct at H
  refine callM_of Try.func12 rfl Try.ntmps12 Try.results12 fun Q hQ hQn => ?_
  exact wk2
instance (a : YAct) : CT Try.prog (m_spec_IsAct a) := ⟨12, [.ag (cAct a)], [], fun r => vb r, fun r => [], ok_spec_IsAct a⟩
end Go.Proofs.Ytooikkfldddjfaa

/- Sides, labels, parcels and acts: the two sides answer alike. -/
namespace Go.Proofs.Ytooikkfldddjfaa
set_option maxRecDepth 10000
open Go.RowKit Go.Sort
set_option linter.unusedVariables false
set_option linter.unusedSimpArgs false
set_option maxHeartbeats 1000000
theorem threeB_eq : @m_impl_threeSides_b0 = @m_spec_l2Three_b0 := by
  funext l i; unfold m_impl_threeSides_b0 m_spec_l2Three_b0; rw [within_eq]
theorem three_eq (l : List Int) : m_impl_threeSides l = m_spec_l2Three l := by
  unfold m_impl_threeSides m_spec_l2Three; rw [threeB_eq]
def threeV (l : List Int) : Bool := l.all (fun n => decide (1 ≤ n) && decide (n ≤ 2000)) && decide ((l.length : Int) = 3)
theorem three_v {l : List Int} (h : l.length < NN) : m_spec_l2Three l = some (threeV l) := by
  have e : iterF (m_spec_l2Three_b0 l) NN 0 = some (if l.any (fun n => !(decide (1 ≤ n) && decide (n ≤ 2000))) = true then .inr false else .inl ()) := by
    refine iter_find (fun i hi => ?_) ?_ h
    · have hx : l[i]? = some l[i] := List.getElem?_eq_getElem hi
      have hw := w64_nat hi (by unfold NN at h; omega)
      unfold m_spec_l2Three_b0
      rw [decide_eq_true (by omega : (i : Int) < l.length), cond_true, getI_nat, hx, Option.bind_some, l1In_v, Option.bind_some, hw]
      cases (decide (1 ≤ l[i]) && decide (l[i] ≤ 2000)) <;> rfl
    · unfold m_spec_l2Three_b0
      rw [decide_eq_false (by omega : ¬ ((l.length : Int) < l.length))]; rfl
  unfold m_spec_l2Three threeV
  rw [e, List.all_eq_not_any_not]
  cases l.any (fun n => !(decide (1 ≤ n) && decide (n ≤ 2000))) <;> rfl
theorem iter_more {σ ο : Type} {body : σ → Option (σ ⊕ ο)} {o : ο} : ∀ {n : Nat} {s : σ}, iterF body n s = some o → ∀ k, iterF body (n + k) s = some o
  | 0, s, h, k => by cases h
  | n + 1, s, h, k => by
    rw [Nat.add_right_comm]
    unfold iterF at *
    cases hb : body s with
    | none => rw [hb] at h; cases h
    | some x =>
      rw [hb] at h
      cases x with
      | inl s' => exact iter_more (n := n) h k
      | inr o' => exact h
theorem iter_NN {σ ο : Type} {body : σ → Option (σ ⊕ ο)} {o : ο} {n : Nat} {s : σ} (h : iterF body n s = some o) (hn : n ≤ NN) : iterF body NN s = some o := by
  have := iter_more h (NN - n)
  rwa [Nat.add_sub_cancel' hn] at this
theorem itl {σ ο : Type} {body : σ → Option (σ ⊕ ο)} {n : Nat} {s s' : σ} (h : body s = some (.inl s')) : iterF body (n + 1) s = iterF body n s' := by
  show (body s).bind _ = _
  rw [h]; rfl
theorem itr {σ ο : Type} {body : σ → Option (σ ⊕ ο)} {n : Nat} {s : σ} {o : ο} (h : body s = some (.inr o)) : iterF body (n + 1) s = some o := by
  show (body s).bind _ = _
  rw [h]; rfl
theorem w1 : w64 1 = 1 := by decide
theorem w2 : w64 2 = 2 := by decide
theorem w3 : w64 3 = 3 := by decide
/-- Where y goes. -/
def pos2 (a b y : Int) : Int := if y ≤ a then (if y ≤ b then 2 else 1) else 0
theorem inn0 (l : List Int) (i : Int) : iterF (m_spec_SortSides_b1 l (i, [])) NN 0 = some ((0 : Nat) : Int) := iter_NN (n := 1) (itr (by simp [m_spec_SortSides_b1])) (by unfold NN; omega)
theorem inn1 {l : List Int} {i y a : Int} (h : getI l i = some y) : iterF (m_spec_SortSides_b1 l (i, [a])) NN 0 = some (((if y ≤ a then 1 else 0 : Nat)) : Int) := by
  refine iter_NN (n := 2) ?_ (by unfold NN; omega)
  have q0 : getI [a] 0 = some a := rfl
  by_cases h1 : y ≤ a
  · rw [if_pos h1, itl (s' := 1) (by simp [m_spec_SortSides_b1, h, q0, h1, w1]), itr (o := 1) (by simp [m_spec_SortSides_b1])]; rfl
  · rw [if_neg h1, itr (o := 0) (by simp [m_spec_SortSides_b1, h, q0, h1])]; rfl
theorem inn2 {l : List Int} {i y a b : Int} (h : getI l i = some y) : iterF (m_spec_SortSides_b1 l (i, [a, b])) NN 0 = some (((if y ≤ a then (if y ≤ b then 2 else 1) else 0 : Nat)) : Int) := by
  refine iter_NN (n := 3) ?_ (by unfold NN; omega)
  have q0 : getI [a, b] 0 = some a := rfl
  have q1 : getI [a, b] 1 = some b := rfl
  by_cases h1 : y ≤ a
  · rw [if_pos h1, itl (s' := 1) (by simp [m_spec_SortSides_b1, h, q0, h1, w1])]
    by_cases h2 : y ≤ b
    · rw [if_pos h2, itl (s' := 2) (by simp [m_spec_SortSides_b1, h, q1, h2, w2]), itr (o := 2) (by simp [m_spec_SortSides_b1])]; rfl
    · rw [if_neg h2, itr (o := 1) (by simp [m_spec_SortSides_b1, h, q1, h2])]; rfl
  · rw [if_neg h1, itr (o := 0) (by simp [m_spec_SortSides_b1, h, q0, h1])]; rfl
theorem l1Ints_v {l : List Int} (h : l.length ≤ 1048576) : m_spec_l1Ints l = some l := by
  have c : chk (appOk (([] : List Int).length + l.length) 8) = some () := chk_t (decide_eq_true ⟨by simp; omega, by simp; omega⟩)
  unfold m_spec_l1Ints
  rw [c]
  rfl
theorem outb {l out : List Int} {i y : Int} {k : Nat} (hi : i < (l.length : Int)) (hy : getI l i = some y) (hk : iterF (m_spec_SortSides_b1 l (i, out)) NN 0 = some (k : Int)) (hkl : k ≤ out.length) (hl : out.length ≤ 1000) :
    m_spec_SortSides_b0 l (i, out) = some (.inl (w64 (i + 1), out.take k ++ [y] ++ out.drop k)) := by
  unfold m_spec_SortSides_b0
  have t1 : subL out 0 (k : Int) = out.take k := by simp [subL]
  have t2 : subL out (k : Int) (out.length : Int) = out.drop k := by simp only [subL, Int.toNat_natCast]; exact List.take_of_length_le (by simp)
  have c1 : chk (slOk 0 (k : Int) (out.length : Int)) = some () := chk_t (decide_eq_true ⟨by omega, by omega, by omega⟩)
  have c2 : chk (slOk (k : Int) (out.length : Int) (out.length : Int)) = some () := chk_t (decide_eq_true ⟨by omega, by omega, by omega⟩)
  have c3 : chk (appOk ((out.take k).length + ([y] : List Int).length) 8) = some () := chk_t (decide_eq_true ⟨by simp; omega, by simp; omega⟩)
  have c4 : chk (appOk ((out.take k ++ [y]).length + (out.drop k).length) 8) = some () := chk_t (decide_eq_true ⟨by simp; omega, by simp; omega⟩)
  simp only [decide_eq_true hi, cond_true, hk, Option.bind_some, c1, t1, l1Ints_v (l := out.take k) (by simp; omega), hy, c3, c2, t2, c4]
theorem srt_spec (x y z : Int) : m_spec_SortSides [x, y, z] = some (srt3 [x, y, z]) := by
  have g0 : getI [x, y, z] 0 = some x := rfl
  have g1 : getI [x, y, z] 1 = some y := rfl
  have g2 : getI [x, y, z] 2 = some z := rfl
  have e : iterF (m_spec_SortSides_b0 [x, y, z]) NN (0, []) = some (srt3 [x, y, z]) := by
    refine iter_NN (n := 4) ?_ (by unfold NN; omega)
    have e0 := outb (l := [x, y, z]) (by simp) g0 (inn0 _ _) (Nat.le_refl _) (by simp)
    have hE : ∀ o : List Int, m_spec_SortSides_b0 [x, y, z] (3, o) = some (.inr o) := fun o => by simp [m_spec_SortSides_b0]
    simp only [List.take_nil, List.drop_nil, List.nil_append, List.append_nil, show w64 ((0 : Int) + 1) = 1 by decide] at e0
    have e1 := outb (l := [x, y, z]) (out := [x]) (by simp) g1 (inn1 g1) (by split <;> simp) (by simp)
    simp only [show w64 ((1 : Int) + 1) = 2 by decide] at e1
    have e2 := fun a b => outb (l := [x, y, z]) (out := [a, b]) (by simp) g2 (inn2 g2) (by split <;> (try split) <;> simp) (by simp)
    simp only [show w64 ((2 : Int) + 1) = 3 by decide] at e2
    have hs : srt3 [x, y, z] = (Sort.insertionSort gtI #[x, y, z] 0 3).toList := rfl
    rw [hs]
    unfold Sort.insertionSort
    rw [insOuter, if_pos (by omega), insOuter, if_pos (by omega), insOuter, if_neg (by omega)]
    by_cases h1 : y ≤ x
    · have h1' : ¬ x < y := by omega
      rw [if_pos h1] at e1
      have e2' := e2 x y
      by_cases h2 : z ≤ x
      · by_cases h3 : z ≤ y
        · rw [if_pos h2, if_pos h3] at e2'
          simp at e1 e2'
          rw [itl e0, itl e1, itl e2', itr (hE _)]; simp [insInner, swp, gtI, h1', show ¬ y < z by omega]
        · rw [if_pos h2, if_neg h3] at e2'
          simp at e1 e2'
          rw [itl e0, itl e1, itl e2', itr (hE _)]; simp [insInner, swp, gtI, h1', show y < z by omega, show ¬ x < z by omega]
      · rw [if_neg h2] at e2'
        simp at e1 e2'
        rw [itl e0, itl e1, itl e2', itr (hE _)]; simp [insInner, swp, gtI, h1', show y < z by omega, show x < z by omega]
    · have h1' : x < y := by omega
      rw [if_neg h1] at e1
      have e2' := e2 y x
      by_cases h2 : z ≤ y
      · by_cases h3 : z ≤ x
        · rw [if_pos h2, if_pos h3] at e2'
          simp at e1 e2'
          rw [itl e0, itl e1, itl e2', itr (hE _)]; simp [insInner, swp, gtI, h1', show ¬ x < z by omega]
        · rw [if_pos h2, if_neg h3] at e2'
          simp at e1 e2'
          rw [itl e0, itl e1, itl e2', itr (hE _)]; simp [insInner, swp, gtI, h1', show x < z by omega, show ¬ y < z by omega]
      · rw [if_neg h2] at e2'
        simp at e1 e2'
        rw [itl e0, itl e1, itl e2', itr (hE _)]; simp [insInner, swp, gtI, h1', show y < z by omega, show x < z by omega]
  unfold m_spec_SortSides
  rw [e]; rfl
theorem three_len {l : List Int} (h : threeV l = true) : l.length = 3 := by
  unfold threeV at h
  have := (Bool.and_eq_true _ _ ▸ h : _ ∧ _).2
  have := of_decide_eq_true this
  omega
theorem girth_eq {l : List Int} (h : l.length < NN) : m_impl_GirthOf l = m_spec_GirthOf l ∧ ∃ b, m_spec_GirthOf l = some b := by
  unfold m_impl_GirthOf m_spec_GirthOf
  rw [three_eq, three_v h]
  cases ht : threeV l with
  | false => exact ⟨rfl, _, rfl⟩
  | true =>
    have h3 := three_len ht
    match l, h3 with
    | [x, y, z], _ =>
      have hm : m_impl_SortSides [x, y, z] = some (srt3 [x, y, z]) := if_pos rfl
      have hl := srt3_len [x, y, z]
      match hs : srt3 [x, y, z], hl with
      | [a, b, c], _ =>
        simp only [srt_spec, hm, hs, Option.bind_some, Bool.not_true, cond_false]
        exact ⟨trivial, _, rfl⟩
theorem label_eq {l : YLabel} (h : l.to_.size ≤ B60) : m_impl_IsLabel l = m_spec_IsLabel l ∧ ∃ b, m_spec_IsLabel l = some b := by
  obtain ⟨e, b, hb⟩ := isPlace_eq h
  unfold m_impl_IsLabel m_spec_IsLabel
  rw [within_eq, e, hb, l1In_v, l1In_v]
  refine ⟨rfl, ?_⟩
  cases (decide (1 ≤ l.service) && decide (l.service ≤ 3)) <;> cases (decide (0 ≤ l.serial) && decide (l.serial ≤ 999999999)) <;> exact ⟨_, rfl⟩
theorem parcel_eq {p : YParcel} (h1 : p.label.to_.size ≤ B60) (h2 : p.from_.size ≤ B60) (h3 : p.sides.length < NN) : m_impl_IsParcel p = m_spec_IsParcel p ∧ ∃ b, m_spec_IsParcel p = some b := by
  obtain ⟨e1, b1, hb1⟩ := label_eq h1
  obtain ⟨e2, b2, hb2⟩ := isPlace_eq h2
  obtain ⟨e3, b3, hb3⟩ := girth_eq h3
  unfold m_impl_IsParcel m_spec_IsParcel
  rw [within_eq, e1, e2, e3, three_eq, hb1, hb2, hb3, three_v h3, l1In_v, l1In_v]
  refine ⟨rfl, ?_⟩
  simp only [Option.bind_some]
  generalize (decide (1 ≤ p.weight) && decide (p.weight ≤ 30000)) = c1
  generalize threeV p.sides = c2
  generalize decide (b3 ≤ 3600) = c3
  generalize (!decide (p.from_ = p.label.to_)) = c4
  cases b1
  · exact ⟨_, rfl⟩
  cases b2
  · exact ⟨_, rfl⟩
  cases c4
  · exact ⟨_, rfl⟩
  cases c1
  · exact ⟨_, rfl⟩
  cases c2
  · exact ⟨_, rfl⟩
  cases c3 <;> exact ⟨_, rfl⟩
theorem same_v {a b : List Int} (h : a.length < NN) : m_impl_same_int_ a b = some (decide (a = b)) := by
  unfold m_impl_same_int_
  by_cases hl : a.length = b.length
  · have e : iterF (m_impl_same_int__b0 a b) NN 0 = some (if (List.range a.length).all (fun i => decide (a[i]? = b[i]?)) = true then .inl () else .inr false) := by
      refine iter_check (fun i hi _ => ?_) (fun _ => ?_) h
      · have hx : a[i]? = some a[i] := List.getElem?_eq_getElem hi
        have hy : b[i]? = some b[i] := List.getElem?_eq_getElem (by omega)
        have hw := w64_nat hi (by unfold NN at h; omega)
        unfold m_impl_same_int__b0
        rw [decide_eq_true (by omega : (i : Int) < a.length), cond_true, getI_nat, getI_nat, hx, hy, Option.bind_some, Option.bind_some, hw]
        by_cases he : a[i] = b[i] <;> simp [he]
      · unfold m_impl_same_int__b0
        rw [decide_eq_false (by omega : ¬ ((a.length : Int) < a.length))]; rfl
    rw [decide_eq_true (by omega : (a.length : Int) = b.length), e]
    by_cases hab : a = b
    · subst hab
      simp
    · rw [if_neg, decide_eq_false hab]
      · rfl
      · intro hall
        refine hab (List.ext_getElem? fun i => ?_)
        by_cases hi : i < a.length
        · exact of_decide_eq_true (List.all_eq_true.1 hall i (List.mem_range.2 hi))
        · rw [List.getElem?_eq_none (by omega), List.getElem?_eq_none (by omega)]
  · rw [decide_eq_false (by omega : ¬ ((a.length : Int) = b.length)), decide_eq_false (fun e => hl (by rw [e]))]
    rfl
theorem jn_eq {ο α : Type} (i j : Nat) (J : Option (ο ⊕ α)) (T : ο → List PV) (M : ο → Mem) : jn i j J T M = J := by unfold jn; rfl
theorem cnd1 (b c : Bool) : (bif b then some c else some false) = some (b && c) := by cases b <;> rfl
theorem cnd2 (b c : Bool) : (bif !b then some false else some c) = some (b && c) := by cases b <;> rfl
theorem cnd3 (b c : Bool) : (bif b then some false else some c) = some (!b && c) := by cases b <;> rfl
theorem bndc {α β : Type} (b : Bool) (X Y : Option α) (S : α → Option β) : (bif b then X else Y).bind S = bif b then X.bind S else Y.bind S := by cases b <;> rfl
theorem bexI {α β γ : Type} {o : α} {F : α → Option γ} {G : β → Option γ} : (some (Sum.inl o)).bind (selim F G) = F o := rfl
theorem bexO {α β γ : Type} {o : β} {F : α → Option γ} {G : β → Option γ} : (some (Sum.inr o)).bind (selim F G) = G o := rfl
theorem sameParcels_v {a b : YParcel} (h : a.sides.length < NN) : m_impl_sameParcels a b = some (decide (a.label = b.label) && (decide (a.from_ = b.from_) && (decide (a.weight = b.weight) && (decide (a.sides = b.sides) && decide (a.value = b.value))))) := by
  unfold m_impl_sameParcels
  simp only [same_v h, Option.bind_some, cnd1]
theorem sameActs_v {a b : YAct} (h : a.parcel.sides.length < NN) : m_impl_sameActs a b = some (decide (a.kind = b.kind) && ((decide (a.parcel.label = b.parcel.label) && (decide (a.parcel.from_ = b.parcel.from_) && (decide (a.parcel.weight = b.parcel.weight) && (decide (a.parcel.sides = b.parcel.sides) && decide (a.parcel.value = b.parcel.value))))) && (decide (a.order = b.order) && (decide (a.amount = b.amount) && (decide (a.until_ = b.until_) && decide (a.trip = b.trip)))))) := by
  unfold m_impl_sameActs
  simp only [sameParcels_v h, Option.bind_some, cnd1]
theorem act_eq {a : YAct} (h1 : a.parcel.label.to_.size ≤ B60) (h2 : a.parcel.from_.size ≤ B60) (h3 : a.parcel.sides.length < NN) : ∃ b, m_impl_IsAct a = some b ∧ m_spec_IsAct a = some b := by
  obtain ⟨e1, b1, hb1⟩ := parcel_eq h1 h2 h3
  have hz : decide (0 < (a.parcel.sides.length : Int)) = !decide (a.parcel.sides = []) := by
    cases a.parcel.sides <;> simp
  unfold m_impl_IsAct m_spec_IsAct
  simp only [jn_eq, within_eq, e1, hb1, l1In_v, sameActs_v h3, hz, Option.bind_some]
  generalize hq1 : decide (a.parcel.label = ⟨0, 0, ⟨#[]⟩⟩) = q1
  generalize hq2 : decide (a.parcel.from_ = ⟨#[]⟩) = q2
  generalize hq3 : decide (a.parcel.weight = 0) = q3
  generalize hq4 : decide (a.parcel.sides = []) = q4
  generalize hq5 : decide (a.parcel.value = 0) = q5
  generalize hq6 : decide (a.order = 0) = q6
  generalize hq7 : decide (a.amount = 0) = q7
  generalize hq8 : decide (a.until_ = 0) = q8
  generalize hq9 : decide (a.trip = ⟨0, 0⟩) = q9
  have kk : a.kind = 1 ∨ a.kind = 2 ∨ a.kind = 3 ∨ a.kind = 4 ∨ a.kind = 5 ∨ a.kind = 6 ∨ (a.kind ≠ 1 ∧ a.kind ≠ 2 ∧ a.kind ≠ 3 ∧ a.kind ≠ 4 ∧ a.kind ≠ 5 ∧ a.kind ≠ 6) := by omega
  rcases kk with k | k | k | k | k | k | ⟨n1, n2, n3, n4, n5, n6⟩
  all_goals try (simp only [n1, n2, n3, n4, n5, n6, Int.reduceEq, decide_true, decide_false, Bool.not_true, Bool.not_false, cond_true, cond_false, Option.bind_some, selim, bndc])
  all_goals try simp only [k, Int.reduceEq, decide_true, decide_false, Bool.not_true, Bool.not_false, cond_true, cond_false, Option.bind_some, selim, bndc]
  case inr.inr.inr.inr.inr.inr =>
    have hf : (decide (1 ≤ a.kind) && decide (a.kind ≤ 6)) = false := by
      rw [Bool.and_eq_false_iff, decide_eq_false_iff_not, decide_eq_false_iff_not]; omega
    simp only [hf, cnd1, cnd2, Bool.and_false]
    exact ⟨_, rfl, rfl⟩
  all_goals
    simp only [hq1, hq2, hq3, hq4, hq5, hq6, hq7, hq8, hq9, cnd1, cnd2, Bool.true_and, Bool.and_true, Int.reduceLE, decide_true]
    exact ⟨_, rfl, by congr 1; try ac_rfl⟩
end Go.Proofs.Ytooikkfldddjfaa

/- The mirror of laws_eqLabel, and that the code does just that (printed by a program of my own). -/
namespace Go.Proofs.Ytooikkfldddjfaa
set_option maxRecDepth 10000
open Go.RowKit
set_option linter.unusedVariables false
set_option maxHeartbeats 16000000
def m_laws_eqLabel (a : YLabel) (b : YLabel) : Option Bool :=
 cond (!decide (a.service = b.service))
 (some false)
 (cond (!decide (a.serial = b.serial))
 (some false)
 (cond (!decide (a.to_ = b.to_))
 (some false)
 (some true)))
theorem ok_laws_eqLabel (a : YLabel) (b : YLabel) {r : Bool} (H : m_laws_eqLabel a b = some r) : CallM Try.prog 99 [.ag (cLabel a), .ag (cLabel b)] [] (vb r) [] := by
  replace H := H0 H
  unfold m_laws_eqLabel at H
  refine callM_of Try.func99 rfl Try.ntmps99 Try.results99 fun Q hQ hQn => ?_
  exact wk2
instance (a : YLabel) (b : YLabel) : CT Try.prog (m_laws_eqLabel a b) := ⟨99, [.ag (cLabel a), .ag (cLabel b)], [], fun r => vb r, fun r => [], ok_laws_eqLabel a b⟩
end Go.Proofs.Ytooikkfldddjfaa

/- The mirror of laws_toLabel, and that the code does just that (printed by a program of my own). -/
namespace Go.Proofs.Ytooikkfldddjfaa
set_option maxRecDepth 10000
open Go.RowKit
set_option linter.unusedVariables false
set_option maxHeartbeats 16000000
def m_laws_toLabel (a : YLabel) : Option YLabel :=
 some a
theorem ok_laws_toLabel (a : YLabel) {r : YLabel} (H : m_laws_toLabel a = some r) : CallM Try.prog 94 [.ag (cLabel a)] [] (.ag [vi r.service, vi r.serial, vs r.to_]) [] := by
  replace H := H0 H
  unfold m_laws_toLabel at H
  refine callM_of Try.func94 rfl Try.ntmps94 Try.results94 fun Q hQ hQn => ?_
  exact wk2
instance (a : YLabel) : CT Try.prog (m_laws_toLabel a) := ⟨94, [.ag (cLabel a)], [], fun r => .ag [vi r.service, vi r.serial, vs r.to_], fun r => [], ok_laws_toLabel a⟩
end Go.Proofs.Ytooikkfldddjfaa

/- The mirror of laws_szLabel, and that the code does just that (printed by a program of my own). -/
namespace Go.Proofs.Ytooikkfldddjfaa
set_option maxRecDepth 10000
open Go.RowKit
set_option linter.unusedVariables false
set_option maxHeartbeats 16000000
def m_laws_szLabel (a : YLabel) (left : Int) : Option Int :=
 cond (decide ((w64 (left - (a.to_.size : Int))) < 0))
 (some (-1))
 (some (w64 (left - (a.to_.size : Int))))
theorem ok_laws_szLabel (a : YLabel) (left : Int) {r : Int} (H : m_laws_szLabel a left = some r) : CallM Try.prog 89 [.ag (cLabel a), vi left] [] (vi r) [] := by
  replace H := H0 H
  unfold m_laws_szLabel at H
  refine callM_of Try.func89 rfl Try.ntmps89 Try.results89 fun Q hQ hQn => ?_
  exact wk2
instance (a : YLabel) (left : Int) : CT Try.prog (m_laws_szLabel a left) := ⟨89, [.ag (cLabel a), vi left], [], fun r => vi r, fun r => [], ok_laws_szLabel a left⟩
end Go.Proofs.Ytooikkfldddjfaa

/- The mirror of laws_eqIntS, and that the code does just that (printed by a program of my own). -/
namespace Go.Proofs.Ytooikkfldddjfaa
set_option maxRecDepth 10000
open Go.RowKit
set_option linter.unusedVariables false
set_option maxHeartbeats 16000000
def m_laws_eqIntS_b0 (a : List Int) (b : List Int) (s0 : Int) : Option (Int ⊕ (Unit ⊕ Bool)) :=
 cond (decide (s0 < (a.length : Int)))
 ((getI a s0).bind fun y1 =>
 (getI b s0).bind fun y2 =>
 cond (!decide (y1 = y2))
 (some (.inr (.inr false)))
 (some (.inl (w64 (s0 + 1)))))
 (some (.inr (.inl ())))
instance (a : List Int) (b : List Int) : LoopE (m_laws_eqIntS_b0 a b) := ⟨fun s0 => [.sl (a.map cInt), .sl (b.map cInt), .un, .un, .un, vi s0, .un, .un, .un, .un, .un, .un, .un, .un, .un, .un, .un, .un, .un, .un, .un, .un, .un, .un, .un, .un], fun s0 => []⟩
def m_laws_eqIntS (a : List Int) (b : List Int) : Option Bool :=
 cond (!decide ((a.length : Int) = (b.length : Int)))
 (some false)
 ((iterF (m_laws_eqIntS_b0 a b) NN 0).bind (selim (fun o0 =>
 some true) (fun r => some r)))
theorem ok_laws_eqIntS (a : List Int) (b : List Int) {r : Bool} (H : m_laws_eqIntS a b = some r) : CallM Try.prog 47 [.sl (a.map cInt), .sl (b.map cInt)] [] (vb r) [] := by
  replace H := H0 H
  unfold m_laws_eqIntS at H
  refine callM_of Try.func47 rfl Try.ntmps47 Try.results47 fun Q hQ hQn => ?_
  exact wk2
instance (a : List Int) (b : List Int) : CT Try.prog (m_laws_eqIntS a b) := ⟨47, [.sl (a.map cInt), .sl (b.map cInt)], [], fun r => vb r, fun r => [], ok_laws_eqIntS a b⟩
end Go.Proofs.Ytooikkfldddjfaa

/- The mirror of laws_toIntS, and that the code does just that (printed by a program of my own). -/
namespace Go.Proofs.Ytooikkfldddjfaa
set_option maxRecDepth 10000
open Go.RowKit
set_option linter.unusedVariables false
set_option maxHeartbeats 16000000
def m_laws_toIntS_b0 (a : List Int) (s0 : Int × (List Int)) : Option ((Int × (List Int)) ⊕ (List Int)) :=
 cond (decide (s0.1 < (a.length : Int)))
 ((getI a s0.1).bind fun y1 =>
 (getI s0.2 s0.1).bind fun y2 =>
 some (.inl ((w64 (s0.1 + 1)), (s0.2.set (Int.toNat s0.1) y1))))
 (some (.inr s0.2))
instance (a : List Int) : LoopE (m_laws_toIntS_b0 a) := ⟨fun s0 => [.sl (a.map cInt), .un, .un, .ms 0, vi s0.1, .un, .un, .un, .un, .un, .un, .un, .un, .un, .un, .un, .un, .un, .un, .un, .un, .un], fun s0 => [some ⟨3, 1, s0.2.map cInt⟩]⟩
def m_laws_toIntS (a : List Int) : Option (List Int) :=
 (chk (mkOk (a.length : Int) 8)).bind fun _ =>
 (iterF (m_laws_toIntS_b0 a) NN (0, (List.replicate (Int.toNat (a.length : Int)) 0))).bind (fun o0 =>
 some o0)
theorem ok_laws_toIntS (a : List Int) {r : (List Int)} (H : m_laws_toIntS a = some r) : CallM Try.prog 35 [.sl (a.map cInt)] [] (.ms 0) [some ⟨3, 1, r.map cInt⟩] := by
  replace H := H0 H
  unfold m_laws_toIntS at H
  refine callM_of Try.func35 rfl Try.ntmps35 Try.results35 fun Q hQ hQn => ?_
  exact wk2
instance (a : List Int) : CT Try.prog (m_laws_toIntS a) := ⟨35, [.sl (a.map cInt)], [], fun r => .ms 0, fun r => [some ⟨3, 1, r.map cInt⟩], ok_laws_toIntS a⟩
end Go.Proofs.Ytooikkfldddjfaa

/- The mirror of laws_szIntS, and that the code does just that (printed by a program of my own). -/
namespace Go.Proofs.Ytooikkfldddjfaa
set_option maxRecDepth 10000
open Go.RowKit
set_option linter.unusedVariables false
set_option maxHeartbeats 16000000
def m_laws_szIntS (a : List Int) (left : Int) : Option Int :=
 cond (decide ((w64 (left - (a.length : Int))) < 0))
 (some (-1))
 (some (w64 (left - (a.length : Int))))
theorem ok_laws_szIntS (a : List Int) (left : Int) {r : Int} (H : m_laws_szIntS a left = some r) : CallM Try.prog 26 [.sl (a.map cInt), vi left] [] (vi r) [] := by
  replace H := H0 H
  unfold m_laws_szIntS at H
  refine callM_of Try.func26 rfl Try.ntmps26 Try.results26 fun Q hQ hQn => ?_
  exact wk2
instance (a : List Int) (left : Int) : CT Try.prog (m_laws_szIntS a left) := ⟨26, [.sl (a.map cInt), vi left], [], fun r => vi r, fun r => [], ok_laws_szIntS a left⟩
end Go.Proofs.Ytooikkfldddjfaa

/- The mirror of laws_eqParcel, and that the code does just that (printed by a program of my own). -/
namespace Go.Proofs.Ytooikkfldddjfaa
set_option maxRecDepth 10000
open Go.RowKit
set_option linter.unusedVariables false
set_option maxHeartbeats 16000000
def m_laws_eqParcel (a : YParcel) (b : YParcel) : Option Bool :=
 (m_laws_eqLabel a.label b.label).bind fun y1 =>
 cond (!y1)
 (some false)
 (cond (!decide (a.from_ = b.from_))
 (some false)
 (cond (!decide (a.weight = b.weight))
 (some false)
 ((m_laws_eqIntS a.sides b.sides).bind fun y2 =>
 cond (!y2)
 (some false)
 (cond (!decide (a.value = b.value))
 (some false)
 (some true)))))
theorem ok_laws_eqParcel (a : YParcel) (b : YParcel) {r : Bool} (H : m_laws_eqParcel a b = some r) : CallM Try.prog 56 [.ag (cParcel a), .ag (cParcel b)] [] (vb r) [] := by
  replace H := H0 H
  unfold m_laws_eqParcel at H
  refine callM_of Try.func56 rfl Try.ntmps56 Try.results56 fun Q hQ hQn => ?_
  exact wk2
instance (a : YParcel) (b : YParcel) : CT Try.prog (m_laws_eqParcel a b) := ⟨56, [.ag (cParcel a), .ag (cParcel b)], [], fun r => vb r, fun r => [], ok_laws_eqParcel a b⟩
end Go.Proofs.Ytooikkfldddjfaa

/- The mirror of laws_toParcel, and that the code does just that (printed by a program of my own). -/
namespace Go.Proofs.Ytooikkfldddjfaa
set_option maxRecDepth 10000
open Go.RowKit
set_option linter.unusedVariables false
set_option maxHeartbeats 16000000
def m_laws_toParcel (a : YParcel) : Option YParcel :=
 (m_laws_toLabel a.label).bind fun y1 =>
 (m_laws_toIntS a.sides).bind fun y2 =>
 some (⟨y1, a.from_, a.weight, y2, a.value⟩ : YParcel)
theorem ok_laws_toParcel (a : YParcel) {r : YParcel} (H : m_laws_toParcel a = some r) : CallM Try.prog 51 [.ag (cParcel a)] [] (.ag [vi r.label.service, vi r.label.serial, vs r.label.to_, vs r.from_, vi r.weight, .sl (r.sides.map cInt), vi r.value]) [] := by
  replace H := H0 H
  unfold m_laws_toParcel at H
  refine callM_of Try.func51 rfl Try.ntmps51 Try.results51 fun Q hQ hQn => ?_
  exact wk2
instance (a : YParcel) : CT Try.prog (m_laws_toParcel a) := ⟨51, [.ag (cParcel a)], [], fun r => .ag [vi r.label.service, vi r.label.serial, vs r.label.to_, vs r.from_, vi r.weight, .sl (r.sides.map cInt), vi r.value], fun r => [], ok_laws_toParcel a⟩
end Go.Proofs.Ytooikkfldddjfaa

/- The mirror of laws_szParcel, and that the code does just that (printed by a program of my own). -/
namespace Go.Proofs.Ytooikkfldddjfaa
set_option maxRecDepth 10000
open Go.RowKit
set_option linter.unusedVariables false
set_option maxHeartbeats 16000000
def m_laws_szParcel (a : YParcel) (left : Int) : Option Int :=
 (m_laws_szLabel a.label left).bind fun y1 =>
 cond (decide (y1 < 0))
 (some (-1))
 (cond (decide ((w64 (y1 - (a.from_.size : Int))) < 0))
 (some (-1))
 ((m_laws_szIntS a.sides (w64 (y1 - (a.from_.size : Int)))).bind fun y2 =>
 cond (decide (y2 < 0))
 (some (-1))
 (some y2)))
theorem ok_laws_szParcel (a : YParcel) (left : Int) {r : Int} (H : m_laws_szParcel a left = some r) : CallM Try.prog 48 [.ag (cParcel a), vi left] [] (vi r) [] := by
  replace H := H0 H
  unfold m_laws_szParcel at H
  refine callM_of Try.func48 rfl Try.ntmps48 Try.results48 fun Q hQ hQn => ?_
  exact wk2
instance (a : YParcel) (left : Int) : CT Try.prog (m_laws_szParcel a left) := ⟨48, [.ag (cParcel a), vi left], [], fun r => vi r, fun r => [], ok_laws_szParcel a left⟩
end Go.Proofs.Ytooikkfldddjfaa

/- The mirror of laws_eqTrip, and that the code does just that (printed by a program of my own). -/
namespace Go.Proofs.Ytooikkfldddjfaa
set_option maxRecDepth 10000
open Go.RowKit
set_option linter.unusedVariables false
set_option maxHeartbeats 16000000
def m_laws_eqTrip (a : YTrip) (b : YTrip) : Option Bool :=
 cond (!decide (a.leg = b.leg))
 (some false)
 (cond (!decide (a.day = b.day))
 (some false)
 (some true))
theorem ok_laws_eqTrip (a : YTrip) (b : YTrip) {r : Bool} (H : m_laws_eqTrip a b = some r) : CallM Try.prog 57 [.ag (cTrip a), .ag (cTrip b)] [] (vb r) [] := by
  replace H := H0 H
  unfold m_laws_eqTrip at H
  refine callM_of Try.func57 rfl Try.ntmps57 Try.results57 fun Q hQ hQn => ?_
  exact wk2
instance (a : YTrip) (b : YTrip) : CT Try.prog (m_laws_eqTrip a b) := ⟨57, [.ag (cTrip a), .ag (cTrip b)], [], fun r => vb r, fun r => [], ok_laws_eqTrip a b⟩
end Go.Proofs.Ytooikkfldddjfaa

/- The mirror of laws_toTrip, and that the code does just that (printed by a program of my own). -/
namespace Go.Proofs.Ytooikkfldddjfaa
set_option maxRecDepth 10000
open Go.RowKit
set_option linter.unusedVariables false
set_option maxHeartbeats 16000000
def m_laws_toTrip (a : YTrip) : Option YTrip :=
 some a
theorem ok_laws_toTrip (a : YTrip) {r : YTrip} (H : m_laws_toTrip a = some r) : CallM Try.prog 52 [.ag (cTrip a)] [] (.ag [vi r.leg, vi r.day]) [] := by
  replace H := H0 H
  unfold m_laws_toTrip at H
  refine callM_of Try.func52 rfl Try.ntmps52 Try.results52 fun Q hQ hQn => ?_
  exact wk2
instance (a : YTrip) : CT Try.prog (m_laws_toTrip a) := ⟨52, [.ag (cTrip a)], [], fun r => .ag [vi r.leg, vi r.day], fun r => [], ok_laws_toTrip a⟩
end Go.Proofs.Ytooikkfldddjfaa

/- The mirror of laws_eqAct, and that the code does just that (printed by a program of my own). -/
namespace Go.Proofs.Ytooikkfldddjfaa
set_option maxRecDepth 10000
open Go.RowKit
set_option linter.unusedVariables false
set_option maxHeartbeats 16000000
def m_laws_eqAct (a : YAct) (b : YAct) : Option Bool :=
 cond (!decide (a.kind = b.kind))
 (some false)
 ((m_laws_eqParcel a.parcel b.parcel).bind fun y1 =>
 cond (!y1)
 (some false)
 (cond (!decide (a.order = b.order))
 (some false)
 (cond (!decide (a.amount = b.amount))
 (some false)
 (cond (!decide (a.until_ = b.until_))
 (some false)
 ((m_laws_eqTrip a.trip b.trip).bind fun y2 =>
 cond (!y2)
 (some false)
 (some true))))))
theorem ok_laws_eqAct (a : YAct) (b : YAct) {r : Bool} (H : m_laws_eqAct a b = some r) : CallM Try.prog 15 [.ag (cAct a), .ag (cAct b)] [] (vb r) [] := by
  replace H := H0 H
  unfold m_laws_eqAct at H
  refine callM_of Try.func15 rfl Try.ntmps15 Try.results15 fun Q hQ hQn => ?_
  exact wk2
instance (a : YAct) (b : YAct) : CT Try.prog (m_laws_eqAct a b) := ⟨15, [.ag (cAct a), .ag (cAct b)], [], fun r => vb r, fun r => [], ok_laws_eqAct a b⟩
end Go.Proofs.Ytooikkfldddjfaa

/- The mirror of laws_toAct, and that the code does just that (printed by a program of my own). -/
namespace Go.Proofs.Ytooikkfldddjfaa
set_option maxRecDepth 10000
open Go.RowKit
set_option linter.unusedVariables false
set_option maxHeartbeats 16000000
def m_laws_toAct (a : YAct) : Option YAct :=
 (m_laws_toParcel a.parcel).bind fun y1 =>
 (m_laws_toTrip a.trip).bind fun y2 =>
 some (⟨a.kind, y1, a.order, a.amount, a.until_, y2⟩ : YAct)
theorem ok_laws_toAct (a : YAct) {r : YAct} (H : m_laws_toAct a = some r) : CallM Try.prog 13 [.ag (cAct a)] [] (.ag [vi r.kind, vi r.parcel.label.service, vi r.parcel.label.serial, vs r.parcel.label.to_, vs r.parcel.from_, vi r.parcel.weight, .sl (r.parcel.sides.map cInt), vi r.parcel.value, vi r.order, vi r.amount, vi r.until_, vi r.trip.leg, vi r.trip.day]) [] := by
  replace H := H0 H
  unfold m_laws_toAct at H
  refine callM_of Try.func13 rfl Try.ntmps13 Try.results13 fun Q hQ hQn => ?_
  exact wk2
instance (a : YAct) : CT Try.prog (m_laws_toAct a) := ⟨13, [.ag (cAct a)], [], fun r => .ag [vi r.kind, vi r.parcel.label.service, vi r.parcel.label.serial, vs r.parcel.label.to_, vs r.parcel.from_, vi r.parcel.weight, .sl (r.parcel.sides.map cInt), vi r.parcel.value, vi r.order, vi r.amount, vi r.until_, vi r.trip.leg, vi r.trip.day], fun r => [], ok_laws_toAct a⟩
end Go.Proofs.Ytooikkfldddjfaa

/- The mirror of laws_szAct, and that the code does just that (printed by a program of my own). -/
namespace Go.Proofs.Ytooikkfldddjfaa
set_option maxRecDepth 10000
open Go.RowKit
set_option linter.unusedVariables false
set_option maxHeartbeats 16000000
def m_laws_szAct (a : YAct) (left : Int) : Option Int :=
 (m_laws_szParcel a.parcel left).bind fun y1 =>
 cond (decide (y1 < 0))
 (some (-1))
 (some y1)
theorem ok_laws_szAct (a : YAct) (left : Int) {r : Int} (H : m_laws_szAct a left = some r) : CallM Try.prog 11 [.ag (cAct a), vi left] [] (vi r) [] := by
  replace H := H0 H
  unfold m_laws_szAct at H
  refine callM_of Try.func11 rfl Try.ntmps11 Try.results11 fun Q hQ hQn => ?_
  exact wk2
instance (a : YAct) (left : Int) : CT Try.prog (m_laws_szAct a left) := ⟨11, [.ag (cAct a), vi left], [], fun r => vi r, fun r => [], ok_laws_szAct a left⟩
end Go.Proofs.Ytooikkfldddjfaa

/- What the mirrors of the laws' own functions answer (printed by wip/genplain.py). -/
namespace Go.Proofs.Ytooikkfldddjfaa
set_option maxRecDepth 10000
open Go.RowKit
set_option linter.unusedVariables false
set_option linter.unusedSimpArgs false
theorem mkOk_of {n : Nat} {b : Int} (h : n ≤ 1048576) (hb : 0 ≤ b) (hb2 : b ≤ 134217728) : mkOk (n : Int) b = true := by
  refine decide_eq_true ⟨by omega, by omega, ?_⟩
  have : b * (n : Int) ≤ 134217728 * 1048576 := Int.mul_le_mul hb2 (by omega) (by omega) (by omega)
  omega
theorem totS_len {α : Type} (f : α → Nat) (xs : List α) : xs.length ≤ totS f xs := by unfold totS; omega
theorem totS_mem {α : Type} (f : α → Nat) {xs : List α} {y : α} (h : y ∈ xs) : f y ≤ totS f xs := by
  have : f y ≤ (xs.map f).sum := by
    induction xs with
    | nil => cases h
    | cons x xs ih =>
      simp only [List.map_cons, List.sum_cons]
      rcases List.mem_cons.1 h with rfl | h
      · omega
      · have := ih h; omega
  unfold totS; omega
theorem iter_sz {α : Type} {xs : List α} {f : α → Nat} {body : Int × Int → Option ((Int × Int) ⊕ (Int ⊕ Int))}
    (h1 : ∀ (i : Nat) (l : Int) x, xs[i]? = some x → 0 ≤ l → l ≤ 1048576 → body (l, (i : Int)) = some (if l < f x then .inr (.inr (-1)) else .inl (l - f x, ((i + 1 : Nat) : Int))))
    (h2 : ∀ l, body (l, (xs.length : Int)) = some (.inr (.inl l))) (hN : xs.length < NN) {l : Int} (hl : 0 ≤ l) (hl2 : l ≤ 1048576) :
    iterF body NN (l, 0) = some (if l < ((xs.map f).sum : Nat) then .inr (-1) else .inl (l - ((xs.map f).sum : Nat))) := by
  have key : ∀ (ys : List α) (i N : Nat) (l : Int), xs.drop i = ys → i ≤ xs.length → ys.length < N → 0 ≤ l → l ≤ 1048576 → iterF body N (l, (i : Int)) = some (if l < ((ys.map f).sum : Nat) then .inr (-1) else .inl (l - ((ys.map f).sum : Nat))) := by
    intro ys
    induction ys with
    | nil =>
      intro i N l hd hi hN h0 h1'
      cases N with
      | zero => omega
      | succ N =>
        have : i = xs.length := by have := congrArg List.length hd; simp at this; omega
        subst this
        simp only [iterF, h2]
        show some (Sum.inl l) = _
        rw [if_neg (by simp; omega)]; simp
    | cons y ys ih =>
      intro i N l hd hi hN h0 h1'
      cases N with
      | zero => simp at hN
      | succ N =>
        have hy : xs[i]? = some y := by
          have := congrArg (fun l => l[0]?) hd
          simpa using this
        have hlt : i < xs.length := (List.getElem?_eq_some_iff.1 hy).1
        have hd' : xs.drop (i + 1) = ys := by
          have := congrArg (List.drop 1) hd
          simpa [List.drop_drop] using this
        simp only [iterF, h1 i l y hy h0 h1', List.map_cons, List.sum_cons]
        by_cases hc : l < f y
        · rw [if_pos hc, if_pos (by omega)]; rfl
        · rw [if_neg hc]
          show iterF body N (l - f y, ((i + 1 : Nat) : Int)) = _
          rw [ih (i + 1) N _ hd' hlt (by simp at hN; omega) (by omega) (by omega)]
          by_cases hc2 : l - f y < ((ys.map f).sum : Nat)
          · rw [if_pos hc2, if_pos (by omega)]
          · rw [if_neg hc2, if_neg (by omega)]; congr 2; omega
  exact key xs 0 NN l rfl (Nat.zero_le _) hN hl hl2
theorem szTo_nn {l : Int} {n : Nat} (h : ¬ szTo l n < 0) (h0 : 0 ≤ l) : (n : Int) ≤ l ∧ szTo l n = l - n := by
  rcases szTo_spec l n with ⟨_, e⟩ | ⟨h1, e⟩
  · rw [e] at h; omega
  · exact ⟨h1, e⟩
theorem eqr_Label (x : YLabel) (h : totLabel x ≤ 1048576) : m_laws_eqLabel x x = some true := by
  simp [m_laws_eqLabel]
theorem cpy_Label (x : YLabel) (h : totLabel x ≤ 1048576) : m_laws_toLabel x = some x := by
  simp [m_laws_toLabel]
theorem sz_Label (x : YLabel) {left : Int} (h0 : 0 ≤ left) (h1 : left ≤ 1048576) (ok : okLabel x) : m_laws_szLabel x left = some (szTo left (totLabel x)) := by
  obtain ⟨k0, k1, k2⟩ := ok
  have ht : totLabel x = x.to_.size := rfl
  unfold m_laws_szLabel
  unfold okStr maxLen at k2
  rw [w64_in (by omega)]
  by_cases c0 : left - ((x.to_.size : Nat) : Int) < 0
  · rw [decide_eq_true c0]; show some (-1) = _; rw [ht]; rcases szTo_spec left (x.to_.size) with ⟨h, e⟩ | ⟨h, e⟩; · rw [e]
    omega
  rw [decide_eq_false c0]; simp only [cond_false]
  obtain ⟨l1, hl1⟩ : ∃ l : Int, l = left - ((x.to_.size : Nat) : Int) := ⟨_, rfl⟩
  rw [← hl1]
  rw [ht]; rcases szTo_spec left (x.to_.size) with ⟨h, e⟩ | ⟨h, e⟩
  · omega
  · rw [e]; (first | (congr 1; omega) | congr 1)
theorem eqr_IntS (a : List Int) (hl : a.length ≤ 1048576) : m_laws_eqIntS a a = some true := by
  have e : iterF (m_laws_eqIntS_b0 a a) NN 0 = some (.inl ()) := by
    refine iter_pass (xs := a) (fun i x hx => ?_) ?_ (by unfold NN; omega)
    · obtain ⟨hi, rfl⟩ := List.getElem?_eq_some_iff.1 hx
      have hw := w64_nat hi (by omega)
      simp [m_laws_eqIntS_b0, getI_nat, hx, hi, hw]
    · simp [m_laws_eqIntS_b0]
  unfold m_laws_eqIntS; simp [e]
theorem cpy_IntS (a : List Int) (hl : a.length ≤ 1048576) : m_laws_toIntS a = some a := by
  have e : ∀ z, iterF (m_laws_toIntS_b0 a) NN (0, List.replicate a.length z) = some a := by
    intro z
    refine iter_copy (fun i out x hx ho => ?_) (fun out => ?_) (by unfold NN; omega)
    · obtain ⟨hi, rfl⟩ := List.getElem?_eq_some_iff.1 hx
      have hw := w64_nat hi (by omega)
      have hx3 : out[i]? = some out[i] := List.getElem?_eq_getElem (by omega)
      simp [m_laws_toIntS_b0, getI_nat, hx, hx3, hi, hw]
    · simp [m_laws_toIntS_b0]
  unfold m_laws_toIntS; rw [chk_t (mkOk_of hl (by decide) (by decide))]; simp [e]
theorem sz_IntS (a : List Int) {left : Int} (h0 : 0 ≤ left) (h1 : left ≤ 1048576) (hl : a.length ≤ maxLen) : m_laws_szIntS a left = some (szTo left a.length) := by
  unfold maxLen at hl
  unfold m_laws_szIntS
  rw [w64_in (by omega)]
  rcases szTo_spec left a.length with ⟨h, e⟩ | ⟨h, e⟩
  · rw [e, decide_eq_true (by omega)]; rfl
  · rw [e, decide_eq_false (by omega)]; rfl
theorem eqr_Parcel (x : YParcel) (h : totParcel x ≤ 1048576) : m_laws_eqParcel x x = some true := by
  have e0 := eqr_Label x.label (by unfold totParcel at h; omega)
  have e1 := eqr_IntS x.sides (by unfold totParcel at h; omega)
  simp [m_laws_eqParcel, e0, e1]
theorem cpy_Parcel (x : YParcel) (h : totParcel x ≤ 1048576) : m_laws_toParcel x = some x := by
  have e0 := cpy_Label x.label (by unfold totParcel at h; omega)
  have e1 := cpy_IntS x.sides (by unfold totParcel at h; omega)
  simp [m_laws_toParcel, e0, e1]
theorem sz_Parcel (x : YParcel) {left : Int} (h0 : 0 ≤ left) (h1 : left ≤ 1048576) (ok : okParcel x) : m_laws_szParcel x left = some (szTo left (totParcel x)) := by
  obtain ⟨k0, k1, k2, k3, k4⟩ := ok
  have ht : totParcel x = totLabel x.label + x.from_.size + x.sides.length := rfl
  unfold m_laws_szParcel
  rw [sz_Label x.label (by omega) (by omega) k0]; simp only [Option.bind_some]
  by_cases c0 : szTo left (totLabel x.label) < 0
  · rw [decide_eq_true c0]; show some (-1) = _; rw [ht]; rcases szTo_spec left (totLabel x.label) with ⟨h2, e2⟩ | ⟨h2, e2⟩; rcases szTo_spec left (totLabel x.label + x.from_.size + x.sides.length) with ⟨h, e⟩ | ⟨h, e⟩; · rw [e]
    all_goals omega
  rw [decide_eq_false c0]; simp only [cond_false]
  obtain ⟨d0, e0⟩ := szTo_nn c0 (by omega)
  rw [e0]
  obtain ⟨l1, hl1⟩ : ∃ l : Int, l = left - ((totLabel x.label : Nat) : Int) := ⟨_, rfl⟩
  rw [← hl1]
  unfold okStr maxLen at k1
  rw [w64_in (by omega)]
  by_cases c1 : l1 - ((x.from_.size : Nat) : Int) < 0
  · rw [decide_eq_true c1]; show some (-1) = _; rw [ht]; rcases szTo_spec left (totLabel x.label + x.from_.size + x.sides.length) with ⟨h, e⟩ | ⟨h, e⟩; · rw [e]
    omega
  rw [decide_eq_false c1]; simp only [cond_false]
  obtain ⟨l2, hl2⟩ : ∃ l : Int, l = l1 - ((x.from_.size : Nat) : Int) := ⟨_, rfl⟩
  rw [← hl2]
  rw [sz_IntS x.sides (by omega) (by omega) k3.1]; simp only [Option.bind_some]
  by_cases c2 : szTo l2 (x.sides.length) < 0
  · rw [decide_eq_true c2]; show some (-1) = _; rw [ht]; rcases szTo_spec l2 (x.sides.length) with ⟨h2, e2⟩ | ⟨h2, e2⟩; rcases szTo_spec left (totLabel x.label + x.from_.size + x.sides.length) with ⟨h, e⟩ | ⟨h, e⟩; · rw [e]
    all_goals omega
  rw [decide_eq_false c2]; simp only [cond_false]
  obtain ⟨d2, e2⟩ := szTo_nn c2 (by omega)
  rw [e2]
  obtain ⟨l3, hl3⟩ : ∃ l : Int, l = l2 - ((x.sides.length : Nat) : Int) := ⟨_, rfl⟩
  rw [← hl3]
  rw [ht]; rcases szTo_spec left (totLabel x.label + x.from_.size + x.sides.length) with ⟨h, e⟩ | ⟨h, e⟩
  · omega
  · rw [e]; (first | (congr 1; omega) | congr 1)
theorem eqr_Trip (x : YTrip) : m_laws_eqTrip x x = some true := by
  simp [m_laws_eqTrip]
theorem cpy_Trip (x : YTrip) : m_laws_toTrip x = some x := by
  simp [m_laws_toTrip]
theorem eqr_Act (x : YAct) (h : totAct x ≤ 1048576) : m_laws_eqAct x x = some true := by
  have e0 := eqr_Parcel x.parcel (by unfold totAct at h; omega)
  have e1 := eqr_Trip x.trip
  simp [m_laws_eqAct, e0, e1]
theorem cpy_Act (x : YAct) (h : totAct x ≤ 1048576) : m_laws_toAct x = some x := by
  have e0 := cpy_Parcel x.parcel (by unfold totAct at h; omega)
  have e1 := cpy_Trip x.trip
  simp [m_laws_toAct, e0, e1]
theorem sz_Act (x : YAct) {left : Int} (h0 : 0 ≤ left) (h1 : left ≤ 1048576) (ok : okAct x) : m_laws_szAct x left = some (szTo left (totAct x)) := by
  obtain ⟨k0, k1, k2, k3, k4, k5⟩ := ok
  have ht : totAct x = totParcel x.parcel := rfl
  unfold m_laws_szAct
  rw [sz_Parcel x.parcel (by omega) (by omega) k1]; simp only [Option.bind_some]
  by_cases c0 : szTo left (totParcel x.parcel) < 0
  · rw [decide_eq_true c0]; show some (-1) = _; rw [ht]; rcases szTo_spec left (totParcel x.parcel) with ⟨h2, e2⟩ | ⟨h2, e2⟩; rcases szTo_spec left (totParcel x.parcel) with ⟨h, e⟩ | ⟨h, e⟩; · rw [e]
    all_goals omega
  rw [decide_eq_false c0]; simp only [cond_false]
  obtain ⟨d0, e0⟩ := szTo_nn c0 (by omega)
  rw [e0]
  obtain ⟨l1, hl1⟩ : ∃ l : Int, l = left - ((totParcel x.parcel : Nat) : Int) := ⟨_, rfl⟩
  rw [← hl1]
  rw [ht]; rcases szTo_spec left (totParcel x.parcel) with ⟨h, e⟩ | ⟨h, e⟩
  · omega
  · rw [e]; (first | (congr 1; omega) | congr 1)
end Go.Proofs.Ytooikkfldddjfaa

/- The mirror of laws_FnExactIsAct, and that the code does just that (printed by a program of my own). -/
namespace Go.Proofs.Ytooikkfldddjfaa
set_option maxRecDepth 10000
open Go.RowKit
set_option linter.unusedVariables false
set_option maxHeartbeats 16000000
def m_laws_FnExactIsAct (aA : YAct) : Option Bool :=
 (m_laws_szAct aA 1048576).bind fun y1 =>
 cond (decide (y1 < 0))
 (some true)
 ((m_laws_toAct aA).bind fun y2 =>
 (m_spec_IsAct y2).bind fun y3 =>
 (m_laws_toAct aA).bind fun y4 =>
 (m_impl_IsAct y4).bind fun y5 =>
 cond (!(y5 == y3))
 (some false)
 ((m_laws_toAct aA).bind fun y6 =>
 (m_laws_eqAct y4 y6).bind fun y7 =>
 cond (!y7)
 (some false)
 (some true)))
theorem ok_laws_FnExactIsAct (aA : YAct) {r : Bool} (H : m_laws_FnExactIsAct aA = some r) : CallM Try.prog 4 [.ag (cAct aA)] [] (vb r) [] := by
  replace H := H0 H
  unfold m_laws_FnExactIsAct at H
  refine callM_of Try.func4 rfl Try.ntmps4 Try.results4 fun Q hQ hQn => ?_
  exact wk2
instance (aA : YAct) : CT Try.prog (m_laws_FnExactIsAct aA) := ⟨4, [.ag (cAct aA)], [], fun r => vb r, fun r => [], ok_laws_FnExactIsAct aA⟩
end Go.Proofs.Ytooikkfldddjfaa

/- The law of IsAct, in plain values. -/
namespace Go.Proofs.Ytooikkfldddjfaa
set_option maxRecDepth 10000
open Go.RowKit
set_option linter.unusedVariables false
set_option linter.unusedSimpArgs false
theorem fit_or_Act {a : YAct} (ok : okAct a) : m_laws_szAct a 1048576 = some (-1) ∨ ∃ y, m_laws_szAct a 1048576 = some y ∧ ¬ y < 0 ∧ totAct a ≤ 1048576 := by
  rw [sz_Act a (by omega) (by omega) ok]
  by_cases h : szTo 1048576 (totAct a) < 0
  · left
    unfold szTo at *
    split at h
    · rw [if_pos (by assumption)]
    · omega
  · right
    obtain ⟨h1, _⟩ := szTo_nn h (by omega)
    exact ⟨_, rfl, h, by omega⟩
theorem lawFnExactIsAct (a : YAct) (ok : okAct a) : CallOk Try.prog 4 [.ag (cAct a)] (vb true) [] := by
  refine ok_laws_FnExactIsAct a ?_
  unfold m_laws_FnExactIsAct
  rcases fit_or_Act ok with h | ⟨y, h, h1, ht⟩
  · rw [h]; rfl
  · have e1 : totAct a = totParcel a.parcel := rfl
    have e2 : totParcel a.parcel = totLabel a.parcel.label + a.parcel.from_.size + a.parcel.sides.length := rfl
    have e3 : totLabel a.parcel.label = a.parcel.label.to_.size := rfl
    obtain ⟨b, b1, b2⟩ := act_eq (a := a) (by unfold B60; omega) (by unfold B60; omega) (by unfold NN; omega)
    simp only [h, cpy_Act a ht, b1, b2, eqr_Act a ht, Option.bind_some, decide_eq_false h1, cond_false, Bool.not_true, beq_self_eq_true]
end Go.Proofs.Ytooikkfldddjfaa

/- The statement FnExactIsActSaid: for every input that can be read the law FnExactIsAct returns true and leaves its arguments as_ they were. No further condition. -/
namespace Go.Proofs.Ytooikkfldddjfaa
open Go.ChangeShapes Go.WideShapes Go.ChangeAt Go.RowKit Go.Deep
set_option linter.unusedVariables false
namespace fnExactIsAct
theorem own : ownKnob Try.prog.godebug = none := by kernel_rfl
theorem laidOut : laidOutB Try.prog = true := by kernel_rfl
set_option maxRecDepth 100000 in
theorem lifted (os : Os) (started : os.Started) (H : Type) (enc : TypeId × Value → H) :
    ReturnsInHanded {} Try.checked os 4 .any (Rows.fnExactIsActSpec.pre6 enc Try.prog Try.f4 Rows.fnExactIsActRow.domain false) (Rows.fnExactIsActSpec.post enc Try.prog Try.f4 false true false false) := by
  refine returnsInHanded_of_change (C := Try.checked) own started (by kernel_rfl) Try.func4
    (ChangeSpec.witness6 (enc := enc) (C := Try.checked) false ⟨#[], #[.agg #[.int .i64 0, .int .i64 0, .int .i64 0, .string ⟨#[]⟩, .string ⟨#[]⟩, .int .i64 0, .slice none 0 0, .int .i64 0, .int .i64 0, .int .i64 0, .int .i64 0, .int .i64 0, .int .i64 0]], []⟩ 8 (by kernel_rfl) (by kernel_rfl) (by kernel_rfl) (by kernel_rfl)) ?_
  intro W base args ds gs before hval0 hW hcnd _
  have hval : ∀ (j : Nat) t v, Try.f4.params[j]? = some t → args[j]? = some v → Value.okWide Try.prog W .any base t v := hval0
  have hW' := hW
  obtain ⟨p, q, hA0, hV, rfl, hfz, hnd⟩ := hW
  have hA : DataW.TrodAll enc Try.prog W 0 (fun _ => true) true Try.f4.params.toList args.toList ds p := hA0
  rw [Try.params4] at hA hval
  obtain ⟨v0, vs0, d0, ds0, p0, q0, hargs, rfl, rfl, h0, r0⟩ := trodAll_cons hA
  obtain ⟨rfl, rfl, rfl⟩ := trodAll_nil r0
  obtain rfl : args = #[v0] := by cases args; simp_all
  obtain ⟨rfl, rfl⟩ := trodVars_none hV
  have k0 := h0
  have lt0 : ∀ x ∈ p0, x.block < W.heap.size := by obtain ⟨m, hm⟩ := k0; exact DataW.trod_lt m _ _ _ hm
  obtain ⟨cs0, rfl, hsz0⟩ := okWide_struct Try.underlying52 (hval 0 52 v0 rfl rfl)
  obtain ⟨x0, hx0, ok0⟩ : ∃ a : YAct, Reads W (cAct a) cs0.toList ∧ okAct a := by obtain ⟨fuel, hf⟩ := h0; exact dec_Act hf
  clear hA0 hval0
  refine (CallOk.run (lawFnExactIsAct x0 ok0) rfl (vs := #[.agg cs0]) (w := W) (fun i p hp => ?_)).mono fun e W' ⟨he, bel⟩ => ?_
  · match i, hp with
    | 0, hp => obtain rfl := Option.some.inj hp; exact ⟨_, rfl, reads_rep hx0⟩
    | n + 1, hp => simp at hp
  subst he
  exact ⟨_, rfl, _, _, _, [], _, [], hW', trodAll_mk1 (shut_bool Try.underlying4 _), (trodAll_cons_mk (Below.trod laidOut (by kernel_rfl) (of_decide_eq_true (by kernel_rfl)) k0 bel lt0) trodAll_mk0), rfl, bel.frame _, fun h => by cases h⟩
theorem over : Rows.fnExactIsActRow.holds Try.pinned (OpenSpec.ofChange Rows.fnExactIsActSpec) :=
  OpenClaim.holds_of_wide 4 Try.f4 rfl rfl rfl rfl rfl rfl rfl ⟨rfl, rfl, rfl, rfl, rfl⟩ rfl rfl rfl rfl rfl (by kernel_rfl) Try.func4 (by kernel_rfl)
    (of_decide_eq_true (by kernel_rfl)) (by unfold Func.isWrapper; first | (rw [if_pos (by decide +kernel)]; kernel_rfl) | (rw [if_neg (by decide +kernel)]; exact ⟨rfl, rfl⟩))
    (fun os started H enc _ => lifted os started H enc)
theorem proved : Rows.FnExactIsActSaid := over
#print axioms proved
end fnExactIsAct
end Go.Proofs.Ytooikkfldddjfaa
