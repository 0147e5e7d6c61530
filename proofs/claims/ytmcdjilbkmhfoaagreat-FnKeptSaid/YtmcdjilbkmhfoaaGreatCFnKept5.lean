/- A part of the proof of the statement in the last file of this claim: texts on the language of the program and on its functions. No condition. -/
import Derived.Test.YtmcdjilbkmhfoaaGreatCFnKept4
import Derived.Test.YtmcdjilbkmhfoaaGreatCFnKept1
import Derived.Laws.AppendOwnNone
import Derived.Maps.OwnSet
import Derived.StringKeys
import Derived.Deep.AppendLies
import Derived.Shelf.Small.Bits
import Derived.Shelf.Small.Strs
import Derived.Shelf.Strconv.Itoa0
import Derived.Shelf.Sort.Plain
import Derived.Ground.GgsProg
import Derived.Shelf.GgSortFunc.Insertion
import Derived.Shelf.GgSortFunc.InsertionK
import Derived.Shelf.GgSortFunc.Tiny
import Derived.Shelf.GgSortFunc.Compose
import Derived.Ground.GgtProg
import Derived.Shelf.GgSortMore.Stable
import Derived.Shelf.Slices.In.SortNone
import Derived.Shelf.Slices.In.SortNone2
import Derived.Test.YtmcdjilbkmhfoaaGreatProg
import Derived.Sort.OwnSorted
namespace Go.Proofs.YtmcdjilbkmhfoaaGreat
set_option maxRecDepth 10000
open Go.RowKit
set_option linter.unusedVariables false
set_option linter.unusedSimpArgs false
def frz (t : List PV) (m : Mem) : Option Unit := some ()
theorem Cuts.trans {n0 : Nat} {t t1 t2 : List PV} {m m1 m2 : Mem} (h : Cuts n0 t m t1 m1) (k : Cuts n0 t1 m1 t2 m2) : Cuts n0 t m t2 m2 := by
  induction h with
  | one h => exact .two h k
  | two h h' ih => exact .two h (ih k)
theorem pwp_frz {P : Program} {n0 : Nat} {Q : Exit → List PV → Mem → Prop} {t T : List PV} {m M : Mem} {α β : Type} {F : Unit → Option α} {K : α → Option β} {r : β} {i : Nat} {ops : Array Oper} {draw : Bool}
    (H : ((frz T M).bind F).bind K = some r) (hc : Cuts n0 t m T M) (hk : (F ()).bind K = some r → pwp P n0 (.region i ops draw) Q T M) : pwp P n0 (.region i ops draw) Q t m := by
  rcases hk H with h | ⟨t1, m1, h1, h2⟩
  · exact .inr ⟨T, M, hc, h⟩
  · exact .inr ⟨t1, m1, hc.trans h1, h2⟩
def drwL (wd : Nat) (fl : List Nat) : Option Unit := some ()
theorem pwp_drwL {P : Program} {n0 : Nat} {Q : Exit → List PV → Mem → Prop} {t : List PV} {m : Mem} {α β : Type} {wd : Nat} {fl : List Nat} {F : Unit → Option α} {K : α → Option β} {r : β} {id : Nat} {ops : List Oper}
    (H : ((drwL wd fl).bind F).bind K = some r) (hwd : decide (0 < wd) = true) (h1 : P.follows .mixedOrders = true) (hk : (F ()).bind K = some r → popsD P wd m.length fl ops.toArray (endD ops (Q .normal)) 0 ops [] t m) : pwp P n0 (.region id ops.toArray true) Q t m := pwp_drawE hwd h1 (hk H)
theorem cutC_fmso {m m' : Mem} {rs : List (Option Nat)} {α : Type} {f : α → List PV} [PlainC f] {xs : List α} {x : α} {cs : List PV} {k k' n : Nat} {T : TypeId} (hm : look m k = some ⟨T, k', (xs.map f).set n cs⟩) (hc : f x = cs) (hd : dropped (rho rs) m' k) : CutC (rho rs) m m' (.ms k) (.sl ((xs.set n x).map f)) := by
  subst hc
  refine cutC_fms (f := f) (xs := xs.set n x) (T := T) (k' := k') ?_ hd
  rw [hm, List.map_set]
theorem cutC_fss {m m' : Mem} {rs : List (Option Nat)} {α : Type} {f : α → List PV} [PlainC f] {xs : List α} {a b : Int} {k k' A B : Nat} {T : TypeId} (hm : look m k = some ⟨T, k', xs.map f⟩) (hA : A = a.toNat) (hB : B = b.toNat) (hd : dropped (rho rs) m' k) : CutC (rho rs) m m' (.ss k A B) (.sl ((subL xs a b).map f)) := by
  subst hA hB
  have := CutC.fss (ρ := rho rs) (m := m) (m' := m') k a.toNat b.toNat ⟨T, k', xs.map f⟩ (look_iff.1 hm) rowC_map hd
  simpa only [drop_mp, take_mp, subL] using this
def rgI {α : Type} (xs : List α) (i : Int) : Option α := getI xs i
theorem rgH {α β γ : Type} {xs : List α} {i : Int} {F : α → Option β} {K : β → Option γ} {r : γ} (H : ((rgI xs i).bind F).bind K = some r) : ∃ x, getI xs i = some x ∧ (F x).bind K = some r := Hcall H
theorem idxset {α : Type} {f : α → List PV} {xs : List α} {x : α} {i : Int} {cs : List PV} (h : getI xs i = some x) : ((xs.map f).set i.toNat cs)[i.toNat]? = some cs := by
  rw [List.getElem?_set_self]
  have := (List.getElem?_eq_some_iff.1 (getI_some h).2).1
  simpa using this
theorem idx_msov {P : Program} {m : Mem} {KR : PV → Prop} {α : Type} [EncOf α] {xs : List α} {x : α} {T T' : TypeId} {l k' n : Nat} {cs : List PV} {i : Int} {k : IntKind} (h : getI xs i = some x) (hm : look m l = some ⟨T', k', (xs.map EncOf.c).set n cs⟩) (hp : 0 < elemK P T) (hk : k' = elemK P T) (hK : KR (.be l i.toNat 0)) : pIndexAddr P m T (.ms l) (.v (.int k i)) KR := by
  obtain ⟨h1, h2, h3⟩ := getI_lt h
  obtain ⟨e, hu, he⟩ := elemK_of hp
  rw [he] at hk
  simp only [pIndexAddr, hu, look_live, hm, List.length_map, List.length_set]
  exact ⟨h1, h2, hk, hK⟩
attribute [go_sem] List.length_set List.set_set
def frzL {α : Type} (x : α) (t : α → List PV) (m : α → Mem) : Option α := some x
theorem pwp_frzL {P : Program} {n0 : Nat} {Q : Exit → List PV → Mem → Prop} {t : List PV} {m : Mem} {ξ α β : Type} {x : ξ} {T : ξ → List PV} {M : ξ → Mem} {F : ξ → Option α} {K : α → Option β} {r : β} {i : Nat} {ops : Array Oper} {draw : Bool}
    (H : ((frzL x T M).bind F).bind K = some r) (hc : Cuts n0 t m (T x) (M x)) (hk : ∀ z, (F z).bind K = some r → pwp P n0 (.region i ops draw) Q (T z) (M z)) : pwp P n0 (.region i ops draw) Q t m := by
  rcases hk x H with h | ⟨t1, m1, h1, h2⟩
  · exact .inr ⟨T x, M x, hc, h⟩
  · exact .inr ⟨t1, m1, hc.trans h1, h2⟩
def rhoM (ρ : List Nat) : Option Unit := some ()
theorem call_io {R α β : Type} {P : Program} {ρ : List Nat} {A : Option R} [C : CT P A] {F : Unit → Option α} {G : R → Option α} {K : α → Option β} {r : β} {f : FuncId} {ps : List PV} {io : Bool} {wd ν : Nat} {m : Mem} {KA : PV → Mem → Prop}
    (H : ((rhoM ρ).bind F).bind K = some r) (hF : F () = A.bind G) (hf : C.f = f) (hio : io = true) (hps : ps = C.args.map (renA (sig ρ ν))) (hq : ∀ q ∈ C.args, goodA false q ∧ lowA C.m0.length q = true) (hn : ρ.Nodup) (hin : inRows (sig ρ ν) m C.m0.length ρ C.m0)
    (hlen : ∀ y, C.m0.length ≤ (C.mem y).length ∧ (C.mem y).length - C.m0.length ≤ wd) (hm : ∀ y, ∀ mb, some mb ∈ C.mem y → ∀ cs ∈ mb.es, ∀ p ∈ cs, goodC false p) (hg : ∀ y, goodV false (C.res y))
    (hk : ∀ y, A = some y → (G y).bind K = some r → KA (renV (sig ρ ν) (C.res y)) (putNew (sig ρ ν) ν ((C.mem y).drop ρ.length) (putIn (sig ρ ν) ρ (C.mem y) m))) : pCall P io wd ν f ps m KA := by
  have H' : (F ()).bind K = some r := H
  rw [hF] at H'
  obtain ⟨y, hy, H2⟩ := Hcall H'
  subst hf
  exact .inr ⟨ρ, C.m0, C.args, C.res y, C.mem y, .inl hio, C.ok hy, (hlen y).1, (hlen y).2, hps, hq, hn, hin, hm y, hg y, hk y hy H2⟩
theorem call_ioD {R α β : Type} {P : Program} {ρ : List Nat} {A : Option R} [C : CT P A] {F : Unit → Option α} {G : R → Option α} {K : α → Option β} {r : β} {f : FuncId} {ps : List PV} {wd ν : Nat} {m : Mem} {KA : List Nat → PV → Mem → Prop}
    (H : ((rhoM ρ).bind F).bind K = some r) (hF : F () = A.bind G) (hf : C.f = f) (hps : ps = C.args.map (renA (sig ρ ν))) (hq : ∀ q ∈ C.args, goodA false q ∧ lowA C.m0.length q = true) (hn : ρ.Nodup) (hin : inRows (sig ρ ν) m C.m0.length ρ C.m0)
    (hlen : ∀ y, C.m0.length ≤ (C.mem y).length ∧ (C.mem y).length - C.m0.length ≤ wd) (hm : ∀ y, ∀ mb, some mb ∈ C.mem y → ∀ cs ∈ mb.es, ∀ p ∈ cs, goodC false p) (hg : ∀ y, goodV false (C.res y))
    (hk : ∀ y, A = some y → (G y).bind K = some r → KA ρ (renV (sig ρ ν) (C.res y)) (putNew (sig ρ ν) ν ((C.mem y).drop ρ.length) (putIn (sig ρ ν) ρ (C.mem y) m))) : pIO P wd ν f ps m KA := by
  have H' : (F ()).bind K = some r := H
  rw [hF] at H'
  obtain ⟨y, hy, H2⟩ := Hcall H'
  subst hf
  exact ⟨ρ, C.m0, C.args, C.res y, C.mem y, C.ok hy, (hlen y).1, (hlen y).2, hps, hq, hn, hin, hm y, hg y, hk y hy H2⟩
def IsRho : Prop := True
theorem rhoH {α β : Type} {ρ : List Nat} {F : Unit → Option α} {K : α → Option β} {r : β} (H : ((rhoM ρ).bind F).bind K = some r) : IsRho := trivial
theorem rhoS {P : Program} {f : FuncId} {ps : List PV} {io : Bool} {wd ν : Nat} {m : Mem} {KA : PV → Mem → Prop} (h : IsRho) (hk : pCall P io wd ν f ps m KA) : pCall P io wd ν f ps m KA := hk
theorem rhoSD {P : Program} {f : FuncId} {ps : List PV} {wd ν : Nat} {m : Mem} {KA : List Nat → PV → Mem → Prop} (h : IsRho) (hk : pIO P wd ν f ps m KA) : pIO P wd ν f ps m KA := hk
theorem inRows_nil {σ : Nat → Nat} {m : Mem} {n : Nat} : inRows σ m n [] [] := trivial
theorem lowC_isC {n : Nat} {p : PV} (h : isC p = true) : lowC n p = true := by
  cases p with
  | fn f cs =>
    simp only [isC, List.all_eq_true] at h
    simp only [lowC, List.all_eq_true]
    intro c hc
    have := h c hc
    cases c <;> simp_all [isC1, low1]
  | _ => simp_all [isC, isC1, lowC, low1]
theorem inRows_map {α : Type} {f : α → List PV} [hf : PlainC f] {σ : Nat → Nat} {m : Mem} {n l T k : Nat} {xs : List α} {ρ : List Nat} {m0 : Mem} (hl : look m l = some ⟨T, k, xs.map f⟩) (h : inRows σ m n ρ m0) : inRows σ m n (l :: ρ) (some ⟨T, k, xs.map f⟩ :: m0) := by
  refine ⟨?_, fun cs hcs p hp => ?_, h⟩
  · rw [look_iff.1 hl]
    simp only [renMB, renEs_map]
  · obtain ⟨x, _, rfl⟩ := List.mem_map.1 hcs
    exact ⟨goodC_of (hf.h x p hp), lowC_isC (hf.h x p hp)⟩
theorem inRows_one {σ : Nat → Nat} {m : Mem} {n l T k : Nat} {cs cs' : List PV} {ρ : List Nat} {m0 : Mem} (hl : look m l = some ⟨T, k, [cs']⟩) (hc : cs' = cs.map (renC σ)) (hg : ∀ p ∈ cs, goodC false p ∧ lowC n p = true) (h : inRows σ m n ρ m0) : inRows σ m n (l :: ρ) (some ⟨T, k, [cs]⟩ :: m0) := by
  subst hc
  refine ⟨look_iff.1 hl, fun ds hds p hp => ?_, h⟩
  obtain rfl : ds = cs := by simpa using hds
  exact hg p hp
@[irreducible] def jn {ο α : Type} (i j : Nat) (J : Option (ο ⊕ α)) (T : ο → List PV) (M : ο → Mem) : Option (ο ⊕ α) := J
def hdC : Code → Bool
  | .region _ _ _ => true
  | .loop _ => true
  | .seq a _ => hdC a
  | .block _ c => hdC c
  | _ => false
def idC : Code → Nat
  | .region i _ _ => i
  | .loop c => idC c
  | .seq a _ => idC a
  | .block _ c => idC c
  | _ => 0
theorem pwp_cutC {P : Program} {n0 : Nat} : ∀ (c : Code), hdC c = true → ∀ {Q : Exit → List PV → Mem → Prop} {t T : List PV} {m M : Mem}, Cuts n0 t m T M → pwp P n0 c Q T M → pwp P n0 c Q t m
  | .region i ops draw, _, Q, t, T, m, M, hc, h => by
    rcases h with h | ⟨t1, m1, h1, h2⟩
    · exact .inr ⟨T, M, hc, h⟩
    · exact .inr ⟨t1, m1, hc.trans h1, h2⟩
  | .loop c, _, Q, t, T, m, M, hc, h => by
    obtain ⟨I, n, t0, m0, h1, h2⟩ := h
    exact ⟨I, n, t0, m0, hc.trans h1, h2⟩
  | .seq a b, hd, Q, t, T, m, M, hc, h => pwp_cutC a hd hc h
  | .block i c, hd, Q, t, T, m, M, hc, h => pwp_cutC c hd hc h
theorem pwp_jn {P : Program} {n0 : Nat} {Q : Exit → List PV → Mem → Prop} {t : List PV} {m : Mem} {a b : Code} {ο α β γ : Type} {J : Option (ο ⊕ α)} {T : ο → List PV} {M : ο → Mem} {G : ο → Option β} {F : α → Option β} {K : β → Option γ} {r : γ}
    {i j : Nat} (H : ((jn i j J T M).bind (selim G F)).bind K = some r) (hd : hdC b = true) (hi : (idC a == i && idC b == j) = true)
    (h1 : ∀ K' : List PV → Mem → Prop, (∀ o t' m', (G o).bind K = some r → Cuts n0 t' m' (T o) (M o) → K' t' m') → J.bind (selim (fun o => (G o).bind K) (fun v => (F v).bind K)) = some r → pwp P n0 a (thenP K' Q) t m)
    (h2 : ∀ o, (G o).bind K = some r → pwp P n0 b Q (T o) (M o)) : pwp P n0 (.seq a b) Q t m := by
  unfold jn at H
  refine h1 (fun t m => pwp P n0 b Q t m) (fun o t' m' h hc => pwp_cutC b hd hc (h2 o h)) ?_
  cases J with
  | none => cases H
  | some x => cases x <;> exact H
theorem jnX {ο α β : Type} {n0 : Nat} {s : ο} {F : ο → Option β} {K : α → Option β} {r : β} {Kp : List PV → Mem → Prop} {T : ο → List PV} {M : ο → Mem} {t : List PV} {m : Mem} (H : (some (Sum.inl s)).bind (selim F K) = some r) (hL : ∀ o t' m', F o = some r → Cuts n0 t' m' (T o) (M o) → Kp t' m') (hc : Cuts n0 t m (T s) (M s)) : Kp t m := hL s t m H hc
def IsJn : Prop := True
theorem jnH {ο α β γ : Type} {i j : Nat} {J : Option (ο ⊕ α)} {T : ο → List PV} {M : ο → Mem} {G : (ο ⊕ α) → Option β} {K : β → Option γ} {r : γ} (H : ((jn i j J T M).bind G).bind K = some r) : IsJn := trivial
theorem jnS {P : Program} {n0 : Nat} {Q : Exit → List PV → Mem → Prop} {t : List PV} {m : Mem} {a b : Code} (h : IsJn) (hk : pwp P n0 (.seq a b) Q t m) : pwp P n0 (.seq a b) Q t m := hk
theorem thenP_thenP {K K2 : List PV → Mem → Prop} {Q : Exit → List PV → Mem → Prop} : thenP K (thenP K2 Q) = thenP K Q := by
  funext e t m
  cases e <;> rfl
theorem pwp_assoc {P : Program} {n0 : Nat} {Q : Exit → List PV → Mem → Prop} {t : List PV} {m : Mem} {a b c : Code} (h : pwp P n0 (.seq (.seq a b) c) Q t m) : pwp P n0 (.seq a (.seq b c)) Q t m := by
  have e : pwp P n0 (.seq (.seq a b) c) Q t m = pwp P n0 a (thenP (fun t m => pwp P n0 b (thenP (fun t m => pwp P n0 c Q t m) Q) t m) (thenP (fun t m => pwp P n0 c Q t m) Q)) t m := by simp only [pwp]
  rw [e, thenP_thenP] at h
  simp only [pwp]
  exact h
theorem pwp_jn2 {P : Program} {n0 : Nat} {Q : Exit → List PV → Mem → Prop} {t : List PV} {m : Mem} {a b c : Code} {ο α β γ : Type} {J : Option (ο ⊕ α)} {T : ο → List PV} {M : ο → Mem} {G : ο → Option β} {F : α → Option β} {K : β → Option γ} {r : γ}
    {i j : Nat} (H : ((jn i j J T M).bind (selim G F)).bind K = some r) (hd : hdC c = true) (hi : (idC a == i && idC c == j) = true)
    (h1 : ∀ K' : List PV → Mem → Prop, (∀ o t' m', (G o).bind K = some r → Cuts n0 t' m' (T o) (M o) → K' t' m') → J.bind (selim (fun o => (G o).bind K) (fun v => (F v).bind K)) = some r → pwp P n0 (.seq a b) (thenP K' Q) t m)
    (h2 : ∀ o, (G o).bind K = some r → pwp P n0 c Q (T o) (M o)) : pwp P n0 (.seq a (.seq b c)) Q t m := pwp_assoc (pwp_jn H hd hi h1 h2)
inductive SubC : PV → PV → Prop
  | r (p : PV) : SubC p p
  | nil (c : Nat) : SubC (.v (.slice none 0 c)) (.sl [])
inductive SubL : List PV → List PV → Prop
  | n : SubL [] []
  | c {p q : PV} {ps qs : List PV} (h : SubC p q) (k : SubL ps qs) : SubL (p :: ps) (q :: qs)
inductive SubV : PV → PV → Prop
  | c {p q : PV} (h : SubC p q) : SubV p q
  | ag {cs ds : List PV} (h : SubL cs ds) : SubV (.ag cs) (.ag ds)
inductive SubA : List PV → List PV → Prop
  | n : SubA [] []
  | c {p q : PV} {ps qs : List PV} (h : SubV p q) (k : SubA ps qs) : SubA (p :: ps) (q :: qs)
theorem SubC.rep {w : World} {E : Env} {p q : PV} {x : Value} (h : SubC p q) (hr : Rep w E p x) : Rep w E q x := by
  cases h with
  | r => exact hr
  | nil c =>
    cases hr with
    | c h => cases h with
      | v _ _ => exact .c (.nil none c)
theorem SubL.len {cs ds : List PV} (h : SubL cs ds) : cs.length = ds.length := by
  induction h with
  | n => rfl
  | c _ _ ih => simp [ih]
theorem SubL.get {cs ds : List PV} (h : SubL cs ds) : ∀ (j : Nat) (q : PV), ds[j]? = some q → ∃ p, cs[j]? = some p ∧ SubC p q := by
  induction h with
  | n => intro j q hq; simp at hq
  | c h k ih =>
    intro j q hq
    cases j with
    | zero => simp at hq; subst hq; exact ⟨_, by simp, h⟩
    | succ j => simpa using ih j q (by simpa using hq)
theorem SubV.rep {w : World} {E : Env} {p q : PV} {x : Value} (h : SubV p q) (hr : Rep w E p x) : Rep w E q x := by
  cases h with
  | c h => exact h.rep hr
  | ag h =>
    obtain ⟨vs, rfl, hl, h1, hc⟩ := Rep.ag_inv hr
    exact .ag _ vs (by rw [hl, h.len]) h1 fun j p y hp hy => by
      obtain ⟨p', hp', hs⟩ := h.get j p hp
      exact hs.rep (hc j p' y hp' hy)
theorem SubA.len {cs ds : List PV} (h : SubA cs ds) : cs.length = ds.length := by
  induction h with
  | n => rfl
  | c _ _ ih => simp [ih]
theorem SubA.get {cs ds : List PV} (h : SubA cs ds) : ∀ (j : Nat) (q : PV), ds[j]? = some q → ∃ p, cs[j]? = some p ∧ SubV p q := by
  induction h with
  | n => intro j q hq; simp at hq
  | c h k ih =>
    intro j q hq
    cases j with
    | zero => simp at hq; subst hq; exact ⟨_, by simp, h⟩
    | succ j => simpa using ih j q (by simpa using hq)
theorem CallM.weak {P : Program} {f : FuncId} {ps qs : List PV} {m0 : Mem} {r : PV} {m1 : Mem} (h : CallM P f qs m0 r m1) (hs : SubA ps qs) : CallM P f ps m0 r m1 := by
  intro S β w vs hok hl ha
  refine h S β w vs hok (by rw [hl, hs.len]) fun i q hq => ?_
  obtain ⟨p, hp, hv⟩ := hs.get i q hq
  obtain ⟨x, hx, hr⟩ := ha i p hp
  exact ⟨x, hx, hv.rep hr⟩
def isCM : PV → Bool
  | .ms _ => true
  | p => isC p
def isCAM : PV → Bool
  | .ag cs => cs.all isCM
  | .tu _ => false
  | p => isCM p
theorem goodM_of {p : PV} (h : isCM p = true) : goodC false p := by
  cases p with
  | ms l => simp [goodC]
  | _ => exact goodC_of h
theorem gV_agM {cs : List PV} (h : cs.all isCM = true) : goodV false (.ag cs) := fun c hc => goodM_of (List.all_eq_true.1 h c hc)
theorem gV_tuM {ps : List PV} (h : ps.all isCAM = true) : goodV false (.tu ps) := by
  intro c hc
  have := List.all_eq_true.1 h c hc
  cases c with
  | ag cs => exact fun d hd => goodM_of (List.all_eq_true.1 this d hd)
  | tu vs => simp [isCAM] at this
  | fn f cs => exact goodC_of (c := .fn f cs) this
  | _ => simp [goodA, goodC]
theorem cutC_nilsl0 {m m' : Mem} {ρ : Nat → Option Nat} {c : Nat} : CutC ρ m m' (.v (.slice none 0 c)) (.sl []) := .nilsl c
theorem rowsOk_new0 {m m' : Mem} {rs rr : List (Option Nat)} {T k : Nat} {mm : Mem} (hk : decide (0 < k) = true) (h : rowsOk rs m m' rr mm) : rowsOk rs m m' (none :: rr) (some ⟨T, k, []⟩ :: mm) := ⟨⟨rfl, of_decide_eq_true hk⟩, h⟩
theorem lowB_0 {i : Nat} {rs : List (Option Nat)} {m : Mem} : lowB 0 i rs m = true := rfl
theorem lowB_c {n i : Nat} {rs : List (Option Nat)} {mb : MB} {m : Mem} (h : lowB n (i + 1) rs m = true) : lowB (n + 1) i (some i :: rs) (some mb :: m) = true := by simp [lowB, h]
theorem lowB_d {n i : Nat} {rs : List (Option Nat)} {m : Mem} (h : lowB n (i + 1) rs m = true) : lowB (n + 1) i (none :: rs) (none :: m) = true := by simpa [lowB] using h
theorem cutL_0 {n0 : Nat} {t t' : List PV} {m : Mem} (hl : lowB n0 0 [] [] = true) (hT : cutT (rho []) m [] t t') (hM : rowsOk [] m [] [] []) (hi : injB [] = true) : Cuts n0 t m t' [] := cut_mk hT hM hi hl
theorem cutL_1 {n0 : Nat} {t t' : List PV} {m : Mem} {a : Option MB} (r0 : Option Nat) (hl : lowB n0 0 [r0] [a] = true) (hT : cutT (rho [r0]) m [a] t t') (hM : rowsOk [r0] m [a] [r0] [a]) (hi : injB [r0] = true) : Cuts n0 t m t' [a] := cut_mk hT hM hi hl
theorem cutL_2 {n0 : Nat} {t t' : List PV} {m : Mem} {a b : Option MB} (r0 r1 : Option Nat) (hl : lowB n0 0 [r0, r1] [a, b] = true) (hT : cutT (rho [r0, r1]) m [a, b] t t') (hM : rowsOk [r0, r1] m [a, b] [r0, r1] [a, b]) (hi : injB [r0, r1] = true) : Cuts n0 t m t' [a, b] := cut_mk hT hM hi hl
theorem cutL_3 {n0 : Nat} {t t' : List PV} {m : Mem} {a b c : Option MB} (r0 r1 r2 : Option Nat) (hl : lowB n0 0 [r0, r1, r2] [a, b, c] = true) (hT : cutT (rho [r0, r1, r2]) m [a, b, c] t t') (hM : rowsOk [r0, r1, r2] m [a, b, c] [r0, r1, r2] [a, b, c]) (hi : injB [r0, r1, r2] = true) : Cuts n0 t m t' [a, b, c] := cut_mk hT hM hi hl
theorem cutL_4 {n0 : Nat} {t t' : List PV} {m : Mem} {a b c d : Option MB} (r0 r1 r2 r3 : Option Nat) (hl : lowB n0 0 [r0, r1, r2, r3] [a, b, c, d] = true) (hT : cutT (rho [r0, r1, r2, r3]) m [a, b, c, d] t t') (hM : rowsOk [r0, r1, r2, r3] m [a, b, c, d] [r0, r1, r2, r3] [a, b, c, d]) (hi : injB [r0, r1, r2, r3] = true) : Cuts n0 t m t' [a, b, c, d] := cut_mk hT hM hi hl
theorem cutL_5 {n0 : Nat} {t t' : List PV} {m : Mem} {a b c d e : Option MB} (r0 r1 r2 r3 r4 : Option Nat) (hl : lowB n0 0 [r0, r1, r2, r3, r4] [a, b, c, d, e] = true) (hT : cutT (rho [r0, r1, r2, r3, r4]) m [a, b, c, d, e] t t') (hM : rowsOk [r0, r1, r2, r3, r4] m [a, b, c, d, e] [r0, r1, r2, r3, r4] [a, b, c, d, e]) (hi : injB [r0, r1, r2, r3, r4] = true) : Cuts n0 t m t' [a, b, c, d, e] := cut_mk hT hM hi hl
theorem cutL_6 {n0 : Nat} {t t' : List PV} {m : Mem} {a b c d e f : Option MB} (r0 r1 r2 r3 r4 r5 : Option Nat) (hl : lowB n0 0 [r0, r1, r2, r3, r4, r5] [a, b, c, d, e, f] = true) (hT : cutT (rho [r0, r1, r2, r3, r4, r5]) m [a, b, c, d, e, f] t t') (hM : rowsOk [r0, r1, r2, r3, r4, r5] m [a, b, c, d, e, f] [r0, r1, r2, r3, r4, r5] [a, b, c, d, e, f]) (hi : injB [r0, r1, r2, r3, r4, r5] = true) : Cuts n0 t m t' [a, b, c, d, e, f] := cut_mk hT hM hi hl
theorem cutL_7 {n0 : Nat} {t t' : List PV} {m : Mem} {a b c d e f g : Option MB} (r0 r1 r2 r3 r4 r5 r6 : Option Nat) (hl : lowB n0 0 [r0, r1, r2, r3, r4, r5, r6] [a, b, c, d, e, f, g] = true) (hT : cutT (rho [r0, r1, r2, r3, r4, r5, r6]) m [a, b, c, d, e, f, g] t t') (hM : rowsOk [r0, r1, r2, r3, r4, r5, r6] m [a, b, c, d, e, f, g] [r0, r1, r2, r3, r4, r5, r6] [a, b, c, d, e, f, g]) (hi : injB [r0, r1, r2, r3, r4, r5, r6] = true) : Cuts n0 t m t' [a, b, c, d, e, f, g] := cut_mk hT hM hi hl
theorem cutL_8 {n0 : Nat} {t t' : List PV} {m : Mem} {a b c d e f g h : Option MB} (r0 r1 r2 r3 r4 r5 r6 r7 : Option Nat) (hl : lowB n0 0 [r0, r1, r2, r3, r4, r5, r6, r7] [a, b, c, d, e, f, g, h] = true) (hT : cutT (rho [r0, r1, r2, r3, r4, r5, r6, r7]) m [a, b, c, d, e, f, g, h] t t') (hM : rowsOk [r0, r1, r2, r3, r4, r5, r6, r7] m [a, b, c, d, e, f, g, h] [r0, r1, r2, r3, r4, r5, r6, r7] [a, b, c, d, e, f, g, h]) (hi : injB [r0, r1, r2, r3, r4, r5, r6, r7] = true) : Cuts n0 t m t' [a, b, c, d, e, f, g, h] := cut_mk hT hM hi hl
theorem cutL_9 {n0 : Nat} {t t' : List PV} {m : Mem} {a b c d e f g h i : Option MB} (r0 r1 r2 r3 r4 r5 r6 r7 r8 : Option Nat) (hl : lowB n0 0 [r0, r1, r2, r3, r4, r5, r6, r7, r8] [a, b, c, d, e, f, g, h, i] = true) (hT : cutT (rho [r0, r1, r2, r3, r4, r5, r6, r7, r8]) m [a, b, c, d, e, f, g, h, i] t t') (hM : rowsOk [r0, r1, r2, r3, r4, r5, r6, r7, r8] m [a, b, c, d, e, f, g, h, i] [r0, r1, r2, r3, r4, r5, r6, r7, r8] [a, b, c, d, e, f, g, h, i]) (hi : injB [r0, r1, r2, r3, r4, r5, r6, r7, r8] = true) : Cuts n0 t m t' [a, b, c, d, e, f, g, h, i] := cut_mk hT hM hi hl
theorem cutL_10 {n0 : Nat} {t t' : List PV} {m : Mem} {a b c d e f g h i j : Option MB} (r0 r1 r2 r3 r4 r5 r6 r7 r8 r9 : Option Nat) (hl : lowB n0 0 [r0, r1, r2, r3, r4, r5, r6, r7, r8, r9] [a, b, c, d, e, f, g, h, i, j] = true) (hT : cutT (rho [r0, r1, r2, r3, r4, r5, r6, r7, r8, r9]) m [a, b, c, d, e, f, g, h, i, j] t t') (hM : rowsOk [r0, r1, r2, r3, r4, r5, r6, r7, r8, r9] m [a, b, c, d, e, f, g, h, i, j] [r0, r1, r2, r3, r4, r5, r6, r7, r8, r9] [a, b, c, d, e, f, g, h, i, j]) (hi : injB [r0, r1, r2, r3, r4, r5, r6, r7, r8, r9] = true) : Cuts n0 t m t' [a, b, c, d, e, f, g, h, i, j] := cut_mk hT hM hi hl
theorem cutL_11 {n0 : Nat} {t t' : List PV} {m : Mem} {a b c d e f g h i j k : Option MB} (r0 r1 r2 r3 r4 r5 r6 r7 r8 r9 r10 : Option Nat) (hl : lowB n0 0 [r0, r1, r2, r3, r4, r5, r6, r7, r8, r9, r10] [a, b, c, d, e, f, g, h, i, j, k] = true) (hT : cutT (rho [r0, r1, r2, r3, r4, r5, r6, r7, r8, r9, r10]) m [a, b, c, d, e, f, g, h, i, j, k] t t') (hM : rowsOk [r0, r1, r2, r3, r4, r5, r6, r7, r8, r9, r10] m [a, b, c, d, e, f, g, h, i, j, k] [r0, r1, r2, r3, r4, r5, r6, r7, r8, r9, r10] [a, b, c, d, e, f, g, h, i, j, k]) (hi : injB [r0, r1, r2, r3, r4, r5, r6, r7, r8, r9, r10] = true) : Cuts n0 t m t' [a, b, c, d, e, f, g, h, i, j, k] := cut_mk hT hM hi hl
theorem cutL_12 {n0 : Nat} {t t' : List PV} {m : Mem} {a b c d e f g h i j k l : Option MB} (r0 r1 r2 r3 r4 r5 r6 r7 r8 r9 r10 r11 : Option Nat) (hl : lowB n0 0 [r0, r1, r2, r3, r4, r5, r6, r7, r8, r9, r10, r11] [a, b, c, d, e, f, g, h, i, j, k, l] = true) (hT : cutT (rho [r0, r1, r2, r3, r4, r5, r6, r7, r8, r9, r10, r11]) m [a, b, c, d, e, f, g, h, i, j, k, l] t t') (hM : rowsOk [r0, r1, r2, r3, r4, r5, r6, r7, r8, r9, r10, r11] m [a, b, c, d, e, f, g, h, i, j, k, l] [r0, r1, r2, r3, r4, r5, r6, r7, r8, r9, r10, r11] [a, b, c, d, e, f, g, h, i, j, k, l]) (hi : injB [r0, r1, r2, r3, r4, r5, r6, r7, r8, r9, r10, r11] = true) : Cuts n0 t m t' [a, b, c, d, e, f, g, h, i, j, k, l] := cut_mk hT hM hi hl
theorem goodD_cells {b : Bool} {T k : Nat} {es : List (List PV)} (h : ∀ cs ∈ es, ∀ p ∈ cs, goodC b p) : ∀ mb, some mb ∈ ([some ⟨T, k, es⟩] : Mem) → ∀ cs ∈ mb.es, ∀ p ∈ cs, goodC b p := by
  intro mb hm
  simp only [List.mem_singleton, Option.some.injEq] at hm
  subst hm
  exact h
theorem hm_none {m : Mem} {b : Bool} (h2 : ∀ mb, some mb ∈ m → ∀ cs ∈ mb.es, ∀ p ∈ cs, goodC b p) : ∀ mb, some mb ∈ ((none : Option MB) :: m) → ∀ cs ∈ mb.es, ∀ p ∈ cs, goodC b p := by
  intro mb h
  rcases List.mem_cons.1 h with h | h
  · cases h
  · exact h2 mb h
theorem hm_e {T k : Nat} {b : Bool} : ∀ mb, some mb ∈ ([some ⟨T, k, []⟩] : Mem) → ∀ cs ∈ mb.es, ∀ p ∈ cs, goodC b p := goodD_cells (by simp)
theorem Hnone {α β : Type} {K : α → Option β} {r : β} (h : (none : Option α).bind K = some r) : False := by cases h
theorem wk2 {p : Prop} (h : p := by
  (simp only [List.length_cons, List.length_nil, Nat.reduceAdd, Nat.reduceSub, List.replicate_succ, List.replicate_zero, List.cons_append, List.nil_append, go_sem]);
  repeat' (first
    | ((with_reducible refine pwp_drwL H rfl (by kernel_rfl) ?_); (clear H; intro H; simp only [go_sem, Nat.reduceAdd, Nat.reduceSub, Nat.reduceMul, Nat.reduceLT, Nat.reduceLeDiff, Nat.reduceEqDiff, if_true, eq_self]))
    | ((with_reducible refine rhoSD (rhoH H) ?_); (refine call_ioD H rfl rfl ?_ ?_ ?_ ?_ ?_ ?_ ?_ ?_); (focus (first | rfl | (simp only [CT.args, List.map_cons, List.map_nil, renA, renC, ren1, sig_z, sig_s, sig_n]; done))); (focus (simp [CT.args, CT.m0, goodA, goodC, lowA, lowC, low1, isR])); (focus (first | exact List.nodup_nil | decide)); (focus ((simp only [CT.m0]); (repeat' (first | exact inRows_nil | (refine inRows_map (by rfl) ?_) | (refine inRows_one (by rfl) (by rfl) (by simp [goodC, lowC, low1, isR]) ?_))))); (focus (intro y_; simp [CT.mem, CT.m0])); (focus (intro y_; (simp only [CT.mem]); (repeat (first | exact hm_nil | exact hm_one | exact hm_oneT | (refine hm_c hm_one ?_) | (refine hm_c (goodD_cells (by simp [goodC, isR])) ?_) | exact goodD_cells (by simp [goodC, isR]) | (refine hm_none ?_))))); (focus (intro y_; (simp [CT.res, goodV, goodA, goodC, isR]))); (clear H; intro y_ hy H; simp only [CT.res, CT.mem, putIn, List.drop_succ_cons, List.drop_zero, Option.map_none, go_sem, Nat.reduceAdd, Nat.reduceSub, Nat.reduceMul, Nat.reduceLT, Nat.reduceLeDiff, Nat.reduceEqDiff, if_true, eq_self]))
    | ((with_reducible refine jnS (jnH H) ?_); (first | ((refine pwp_jn2 H ?_ ?_ (fun K_ hL H => ?_) (fun o_ H => ?_)); (focus (decide +kernel)); (focus (decide +kernel))) | ((refine pwp_jn H ?_ ?_ (fun K_ hL H => ?_) (fun o_ H => ?_)); (focus (decide +kernel)); (focus (decide +kernel)))))
    | ((with_reducible refine rhoS (rhoH H) ?_); (refine call_io H rfl rfl rfl ?_ ?_ ?_ ?_ ?_ ?_ ?_ ?_); (focus (first | rfl | (simp only [CT.args, List.map_cons, List.map_nil, renA, renC, ren1, sig_z, sig_s, sig_n]; done))); (focus (simp [CT.args, CT.m0, goodA, goodC, lowA, lowC, low1, isR])); (focus (first | exact List.nodup_nil | decide)); (focus ((simp only [CT.m0]); (repeat' (first | exact inRows_nil | (refine inRows_map (by rfl) ?_) | (refine inRows_one (by rfl) (by rfl) (by simp [goodC, lowC, low1, isR]) ?_))))); (focus (intro y_; simp [CT.mem, CT.m0])); (focus (intro y_; (simp only [CT.mem]); (repeat (first | exact hm_nil | exact hm_one | exact hm_oneT | (refine hm_c hm_one ?_) | (refine hm_c (goodD_cells (by simp [goodC, isR])) ?_) | exact goodD_cells (by simp [goodC, isR]) | (refine hm_none ?_))))); (focus (intro y_; (simp [CT.res, goodV, goodA, goodC, isR]))); (clear H; intro y_ hy H; simp only [CT.res, CT.mem, putIn, List.drop_succ_cons, List.drop_zero, Option.map_none, go_sem, Nat.reduceAdd, Nat.reduceSub, Nat.reduceMul, Nat.reduceLT, Nat.reduceLeDiff, Nat.reduceEqDiff, if_true, eq_self]))
    | ((with_reducible refine pwp_frzL H ?_ ?_); (focus ((with_reducible refine cutS ?_); (first | (with_reducible apply cutL_0) | (with_reducible apply cutL_1) | (with_reducible apply cutL_2) | (with_reducible apply cutL_3) | (with_reducible apply cutL_4) | (with_reducible apply cutL_5) | (with_reducible apply cutL_6) | (with_reducible apply cutL_7) | (with_reducible apply cutL_8) | (with_reducible apply cutL_9) | (with_reducible apply cutL_10) | (with_reducible apply cutL_11) | (with_reducible apply cutL_12)); (repeat' (first       | (exact lowB_0) | (refine lowB_c ?_) | (refine lowB_d ?_) | (with_reducible refine cutT_un ?_)       | (with_reducible refine cutT_c ?_ ?_)       | (with_reducible exact cutT_nil)       | (with_reducible exact cutV_c rfl)       | exact cutV_c rfl       | (with_reducible exact cutL_nil)       | (with_reducible refine cutL_c ?_ ?_)       | exact .c _ rfl       | exact .un _       | exact cutC_ms rfl rfl       | exact cutC_be rfl rfl       | exact cutC_nilsl0 | exact cutC_nilsl       | exact cutC_nilms rfl rfl       | (refine cutC_fms rfl ?_) | (refine cutC_fmso rfl rfl ?_) | (refine cutC_fss rfl rfl rfl ?_)       | (refine cutC_fbe rfl rfl ?_)       | (with_reducible refine cutV_ag ?_)       | (with_reducible refine cutV_tu ?_)       | (with_reducible exact cutAs_nil)       | (with_reducible refine cutAs_c ?_ ?_)       | (with_reducible refine cutA_ag ?_)       | (with_reducible refine cutA_k ?_)       | (with_reducible refine cutV_k ?_)       | (with_reducible exact rowsOk_nil)       | (refine rowsOk_live rfl ?_ ?_)       | (refine rowsOk_new0 rfl ?_) | (refine rowsOk_new rfl ?_)       | (with_reducible refine rowsOk_dead ?_)       | (with_reducible refine cutB_one ?_)       | (with_reducible exact cutB_nil)       | (with_reducible refine cutB_two ?_)       | (with_reducible exact cutE_n)       | (with_reducible refine cutE_c ?_ ?_)       | (with_reducible exact cutB_same)       | (with_reducible refine cutB_set ?_)       | exact cutB_same       | (refine cutB_set ?_)       | (refine cutB_rep ?_)       | (refine cutB_snoc ?_)       | (simp only [cInt, cStr, cBool, cB8, cl1Cur, cLabel, cParcel, cZone, cRate, cLeg, cNetwork, cTrip, cBooking, cScan, cOrder, cWorld, cLine, cAct, cOffice, cItem, cChute, cInlet, cCentre, cThing, cBelief])       | (with_unfolding_all rfl))); (all_goals first | (exact dropped_of rfl) | exact none))); (clear H; intro z_ H))
    | ((with_reducible refine pwp_frz H ?_ ?_); (focus ((with_reducible refine cutS ?_); (first | (with_reducible apply cutL_0) | (with_reducible apply cutL_1) | (with_reducible apply cutL_2) | (with_reducible apply cutL_3) | (with_reducible apply cutL_4) | (with_reducible apply cutL_5) | (with_reducible apply cutL_6) | (with_reducible apply cutL_7) | (with_reducible apply cutL_8) | (with_reducible apply cutL_9) | (with_reducible apply cutL_10) | (with_reducible apply cutL_11) | (with_reducible apply cutL_12)); (repeat' (first       | (exact lowB_0) | (refine lowB_c ?_) | (refine lowB_d ?_) | (with_reducible refine cutT_un ?_)       | (with_reducible refine cutT_c ?_ ?_)       | (with_reducible exact cutT_nil)       | (with_reducible exact cutV_c rfl)       | exact cutV_c rfl       | (with_reducible exact cutL_nil)       | (with_reducible refine cutL_c ?_ ?_)       | exact .c _ rfl       | exact .un _       | exact cutC_ms rfl rfl       | exact cutC_be rfl rfl       | exact cutC_nilsl0 | exact cutC_nilsl       | exact cutC_nilms rfl rfl       | (refine cutC_fms rfl ?_) | (refine cutC_fmso rfl rfl ?_) | (refine cutC_fss rfl rfl rfl ?_)       | (refine cutC_fbe rfl rfl ?_)       | (with_reducible refine cutV_ag ?_)       | (with_reducible refine cutV_tu ?_)       | (with_reducible exact cutAs_nil)       | (with_reducible refine cutAs_c ?_ ?_)       | (with_reducible refine cutA_ag ?_)       | (with_reducible refine cutA_k ?_)       | (with_reducible refine cutV_k ?_)       | (with_reducible exact rowsOk_nil)       | (refine rowsOk_live rfl ?_ ?_)       | (refine rowsOk_new0 rfl ?_) | (refine rowsOk_new rfl ?_)       | (with_reducible refine rowsOk_dead ?_)       | (with_reducible refine cutB_one ?_)       | (with_reducible exact cutB_nil)       | (with_reducible refine cutB_two ?_)       | (with_reducible exact cutE_n)       | (with_reducible refine cutE_c ?_ ?_)       | (with_reducible exact cutB_same)       | (with_reducible refine cutB_set ?_)       | exact cutB_same       | (refine cutB_set ?_)       | (refine cutB_rep ?_)       | (refine cutB_snoc ?_)       | (simp only [cInt, cStr, cBool, cB8, cl1Cur, cLabel, cParcel, cZone, cRate, cLeg, cNetwork, cTrip, cBooking, cScan, cOrder, cWorld, cLine, cAct, cOffice, cItem, cChute, cInlet, cCentre, cThing, cBelief])       | (with_unfolding_all rfl))); (all_goals first | (exact dropped_of rfl) | exact none))); (clear H; intro H))
    | ((with_reducible refine pwp_seq ?_); intro K_ hK)
    | ((with_reducible refine pwp_block ?_))
    | ((with_reducible refine pwp_region ?_); simp only [go_sem, Nat.reduceAdd, Nat.reduceSub, Nat.reduceMul, Nat.reduceLT, Nat.reduceLeDiff, Nat.reduceEqDiff, if_true, eq_self])
    | ((with_reducible refine pwp_skip ?_); (try simp only [thenP_normal, blockP_normal]))
    | ((with_reducible refine pwp_exit ?_); (simp only [thenP_exit, blockP_exit, thenP_normal, blockP_normal, if_true, if_false, eq_self, Nat.reduceEqDiff, Nat.one_ne_zero, Nat.zero_ne_one]); (try simp only [bexR, bsr, bsl] at H))
    | ((with_reducible refine pwp_ret ?_); (try simp only [thenP_ret, blockP_ret]))
    | ((with_reducible refine hQ _ _ ?_); (try simp only [bexR, bsr, bsl] at H); replace H := Hret H; subst H; simp only [Fin, resP, oneP, go_sem, Nat.reduceAdd, Nat.reduceSub, Nat.reduceMul, Nat.reduceLT, Nat.reduceLeDiff, Nat.reduceEqDiff, if_true, eq_self]; (with_reducible refine cutS ?_); (first | (with_reducible apply cutL_0) | (with_reducible apply cutL_1) | (with_reducible apply cutL_2) | (with_reducible apply cutL_3) | (with_reducible apply cutL_4) | (with_reducible apply cutL_5) | (with_reducible apply cutL_6) | (with_reducible apply cutL_7) | (with_reducible apply cutL_8) | (with_reducible apply cutL_9) | (with_reducible apply cutL_10) | (with_reducible apply cutL_11) | (with_reducible apply cutL_12)); (repeat' (first       | (exact lowB_0) | (refine lowB_c ?_) | (refine lowB_d ?_) | (with_reducible refine cutT_un ?_)       | (with_reducible refine cutT_c ?_ ?_)       | (with_reducible exact cutT_nil)       | (with_reducible exact cutV_c rfl)       | exact cutV_c rfl       | (with_reducible exact cutL_nil)       | (with_reducible refine cutL_c ?_ ?_)       | exact .c _ rfl       | exact .un _       | exact cutC_ms rfl rfl       | exact cutC_be rfl rfl       | exact cutC_nilsl0 | exact cutC_nilsl       | exact cutC_nilms rfl rfl       | (refine cutC_fms rfl ?_) | (refine cutC_fmso rfl rfl ?_) | (refine cutC_fss rfl rfl rfl ?_)       | (refine cutC_fbe rfl rfl ?_)       | (with_reducible refine cutV_ag ?_)       | (with_reducible refine cutV_tu ?_)       | (with_reducible exact cutAs_nil)       | (with_reducible refine cutAs_c ?_ ?_)       | (with_reducible refine cutA_ag ?_)       | (with_reducible refine cutA_k ?_)       | (with_reducible refine cutV_k ?_)       | (with_reducible exact rowsOk_nil)       | (refine rowsOk_live rfl ?_ ?_)       | (refine rowsOk_new0 rfl ?_) | (refine rowsOk_new rfl ?_)       | (with_reducible refine rowsOk_dead ?_)       | (with_reducible refine cutB_one ?_)       | (with_reducible exact cutB_nil)       | (with_reducible refine cutB_two ?_)       | (with_reducible exact cutE_n)       | (with_reducible refine cutE_c ?_ ?_)       | (with_reducible exact cutB_same)       | (with_reducible refine cutB_set ?_)       | exact cutB_same       | (refine cutB_set ?_)       | (refine cutB_rep ?_)       | (refine cutB_snoc ?_)       | (simp only [cInt, cStr, cBool, cB8, cl1Cur, cLabel, cParcel, cZone, cRate, cLeg, cNetwork, cTrip, cBooking, cScan, cOrder, cWorld, cLine, cAct, cOffice, cItem, cChute, cInlet, cCentre, cThing, cBelief])       | (with_unfolding_all rfl))); (all_goals first | (exact dropped_of rfl) | exact none))
    | ((with_reducible refine hQn _ _ ?_); (try simp only [bexR, bsr, bsl] at H); replace H := Hret H; subst H; simp only [Fin, resP, oneP, go_sem, Nat.reduceAdd, Nat.reduceSub, Nat.reduceMul, Nat.reduceLT, Nat.reduceLeDiff, Nat.reduceEqDiff, if_true, eq_self]; (with_reducible refine cutS ?_); (first | (with_reducible apply cutL_0) | (with_reducible apply cutL_1) | (with_reducible apply cutL_2) | (with_reducible apply cutL_3) | (with_reducible apply cutL_4) | (with_reducible apply cutL_5) | (with_reducible apply cutL_6) | (with_reducible apply cutL_7) | (with_reducible apply cutL_8) | (with_reducible apply cutL_9) | (with_reducible apply cutL_10) | (with_reducible apply cutL_11) | (with_reducible apply cutL_12)); (repeat' (first       | (exact lowB_0) | (refine lowB_c ?_) | (refine lowB_d ?_) | (with_reducible refine cutT_un ?_)       | (with_reducible refine cutT_c ?_ ?_)       | (with_reducible exact cutT_nil)       | (with_reducible exact cutV_c rfl)       | exact cutV_c rfl       | (with_reducible exact cutL_nil)       | (with_reducible refine cutL_c ?_ ?_)       | exact .c _ rfl       | exact .un _       | exact cutC_ms rfl rfl       | exact cutC_be rfl rfl       | exact cutC_nilsl0 | exact cutC_nilsl       | exact cutC_nilms rfl rfl       | (refine cutC_fms rfl ?_) | (refine cutC_fmso rfl rfl ?_) | (refine cutC_fss rfl rfl rfl ?_)       | (refine cutC_fbe rfl rfl ?_)       | (with_reducible refine cutV_ag ?_)       | (with_reducible refine cutV_tu ?_)       | (with_reducible exact cutAs_nil)       | (with_reducible refine cutAs_c ?_ ?_)       | (with_reducible refine cutA_ag ?_)       | (with_reducible refine cutA_k ?_)       | (with_reducible refine cutV_k ?_)       | (with_reducible exact rowsOk_nil)       | (refine rowsOk_live rfl ?_ ?_)       | (refine rowsOk_new0 rfl ?_) | (refine rowsOk_new rfl ?_)       | (with_reducible refine rowsOk_dead ?_)       | (with_reducible refine cutB_one ?_)       | (with_reducible exact cutB_nil)       | (with_reducible refine cutB_two ?_)       | (with_reducible exact cutE_n)       | (with_reducible refine cutE_c ?_ ?_)       | (with_reducible exact cutB_same)       | (with_reducible refine cutB_set ?_)       | exact cutB_same       | (refine cutB_set ?_)       | (refine cutB_rep ?_)       | (refine cutB_snoc ?_)       | (simp only [cInt, cStr, cBool, cB8, cl1Cur, cLabel, cParcel, cZone, cRate, cLeg, cNetwork, cTrip, cBooking, cScan, cOrder, cWorld, cLine, cAct, cOffice, cItem, cChute, cInlet, cCentre, cThing, cBelief])       | (with_unfolding_all rfl))); (all_goals first | (exact dropped_of rfl) | exact none))
    | ((with_reducible refine gateS ?_); (refine gate2_intro (fun hg => Hc1k H hg ?_) (fun hg => Hc2k H hg ?_)) <;> (clear H; intro H; simp only [go_sem, Nat.reduceAdd, Nat.reduceSub, Nat.reduceMul, Nat.reduceLT, Nat.reduceLeDiff, Nat.reduceEqDiff, if_true, eq_self]))
    | ((with_reducible refine pwp_condE ?_); simp only [evP_tmp, getD_z, getD_s, evP_bool]; (first | (with_reducible refine condP_tt ?_) | (with_reducible refine condP_ff ?_) | ((refine condP_intro (fun hg => Hc1k H hg ?_) (fun hg => Hc2k H hg ?_)) <;> (clear H; intro H))))
    | ((with_reducible refine idxS ?_); replace H := Hcall H; obtain ⟨y_, hy, H⟩ := H; (with_reducible apply idx_sl hy); (focus (first | (simp only [go_sem]; done) | (simp only [go_sem]; decide))); (focus (first | rfl | (simp only [go_sem]; rfl))); simp only [go_sem, Nat.reduceAdd, Nat.reduceSub, Nat.reduceMul, Nat.reduceLT, Nat.reduceLeDiff, Nat.reduceEqDiff, if_true, eq_self])
    | ((with_reducible refine idxM ?_); replace H := Hcall H; obtain ⟨y_, hy, H⟩ := H; (first | (refine idx_msb hy (by rfl) (by first | (simp only [go_sem]; done) | (simp only [go_sem]; decide)) (by first | rfl | (simp only [go_sem]; rfl)) ?_) | (refine idx_msov hy (by rfl) (by first | (simp only [go_sem]; done) | (simp only [go_sem]; decide)) (by first | rfl | (simp only [go_sem]; rfl)) ?_)); simp only [go_sem, Nat.reduceAdd, Nat.reduceSub, Nat.reduceMul, Nat.reduceLT, Nat.reduceLeDiff, Nat.reduceEqDiff, if_true, eq_self])
    | ((with_reducible refine idxB ?_); replace H := Hcall H; obtain ⟨y_, hy, H⟩ := H; (with_reducible apply idx_str hy); (focus (simp only [go_sem])); simp only [go_sem, Nat.reduceAdd, Nat.reduceSub, Nat.reduceMul, Nat.reduceLT, Nat.reduceLeDiff, Nat.reduceEqDiff, if_true, eq_self])
    | ((with_reducible refine callS ?_); replace H := Hcall H; obtain ⟨y_, hy, H⟩ := H; (first | ((with_reducible apply call_deep); (focus (exact CT.ok hy)); (focus (simp [isCA, isC, isC1])); (focus (exact Nat.le_of_ble_eq_true rfl)); (focus (first | exact hm_nil | (repeat (first | exact hm_one | exact hm_oneT | exact hm_e | (refine hm_c hm_one ?_) | (refine hm_c hm_oneT ?_) | (refine hm_c hm_e ?_) | exact goodD_cells (by simp [goodC, isR]) | (refine hm_none ?_) | (refine hm_c (goodD_cells (by simp [goodC, isR])) ?_))))); (focus (first | exact gV_ag rfl | exact gV_tu rfl | exact gV_agM rfl | exact gV_tuM rfl | exact (fun h => (by cases h)) | (simp [CT.res, goodV, goodA, goodC]))); (simp only [CT.res, CT.mem, go_sem, Nat.reduceAdd, Nat.reduceSub, Nat.reduceMul, Nat.reduceLT, Nat.reduceLeDiff, Nat.reduceEqDiff, if_true, eq_self])) | ((with_reducible apply call_deep); (focus ((refine CallM.weak (CT.ok hy) ?_); (repeat' (first | exact SubA.n | (refine SubA.c ?_ ?_) | exact SubV.c (SubC.r _) | (refine SubV.ag ?_) | exact SubL.n | (refine SubL.c ?_ ?_) | exact SubC.r _ | exact SubC.nil _)))); (focus (simp [isCA, isC, isC1])); (focus (exact Nat.le_of_ble_eq_true rfl)); (focus (first | exact hm_nil | (repeat (first | exact hm_one | exact hm_oneT | exact hm_e | (refine hm_c hm_one ?_) | (refine hm_c hm_oneT ?_) | (refine hm_c hm_e ?_) | exact goodD_cells (by simp [goodC, isR]) | (refine hm_none ?_) | (refine hm_c (goodD_cells (by simp [goodC, isR])) ?_))))); (focus (first | exact gV_ag rfl | exact gV_tu rfl | exact gV_agM rfl | exact gV_tuM rfl | exact (fun h => (by cases h)) | (simp [CT.res, goodV, goodA, goodC]))); (simp only [CT.res, CT.mem, go_sem, Nat.reduceAdd, Nat.reduceSub, Nat.reduceMul, Nat.reduceLT, Nat.reduceLeDiff, Nat.reduceEqDiff, if_true, eq_self])) | ((with_reducible apply call_flat); (focus (first | (simp only [snapA, snapV, snapC, snapL, live_look, look_z, look_s, rowQ_map, drop_mp, take_mp, List.forall_mem_nil, true_and, and_true]; (first | exact CT.ok hy | (simp only [all_nil, all_cons, isC, isC1, true_and, and_true]; exact CT.ok hy))) | (simp only [snapA, snapV, snapC, snapL, live_look, look_z, look_s, rowQ_map, drop_mp, take_mp, List.forall_mem_nil, true_and, and_true]; (first | ((refine CallM.weak (CT.ok hy) ?_); (repeat' (first | exact SubA.n | (refine SubA.c ?_ ?_) | exact SubV.c (SubC.r _) | (refine SubV.ag ?_) | exact SubL.n | (refine SubL.c ?_ ?_) | exact SubC.r _ | exact SubC.nil _))) | (simp only [all_nil, all_cons, isC, isC1, true_and, and_true]; ((refine CallM.weak (CT.ok hy) ?_); (repeat' (first | exact SubA.n | (refine SubA.c ?_ ?_) | exact SubV.c (SubC.r _) | (refine SubV.ag ?_) | exact SubL.n | (refine SubL.c ?_ ?_) | exact SubC.r _ | exact SubC.nil _)))))))); (focus (exact Nat.le_of_ble_eq_true rfl)); (focus (first | exact hm_nil | (repeat (first | exact hm_one | exact hm_oneT | exact hm_e | (refine hm_c hm_one ?_) | (refine hm_c hm_oneT ?_) | (refine hm_c hm_e ?_) | exact goodD_cells (by simp [goodC, isR]) | (refine hm_none ?_) | (refine hm_c (goodD_cells (by simp [goodC, isR])) ?_))))); (focus (first | exact gV_agF rfl | exact (fun _ => rfl) | (simp [CT.res, goodV, goodA, goodC, isF]))); (simp only [CT.res, CT.mem, go_sem, Nat.reduceAdd, Nat.reduceSub, Nat.reduceMul, Nat.reduceLT, Nat.reduceLeDiff, Nat.reduceEqDiff, if_true, eq_self]))))
    | ((with_reducible refine slcS ?_); replace H := Hchk H; obtain ⟨hc, H⟩ := H; (first | ((with_reducible apply slice_sl hc); (focus rfl); (focus rfl); (focus (first | (simp only [go_sem]; done) | (simp only [go_sem]; decide))); (focus (first | rfl | (intro x_; rfl))); simp only [go_sem, Nat.reduceAdd, Nat.reduceSub, Nat.reduceMul, Nat.reduceLT, Nat.reduceLeDiff, Nat.reduceEqDiff, if_true, eq_self]) | ((refine slice_msb hc (by rfl) (by rfl) (by rfl) (by first | (simp only [go_sem]; done) | (simp only [go_sem]; decide)) (by first | rfl | (simp only [go_sem]; rfl)) ?_); simp only [go_sem, Nat.reduceAdd, Nat.reduceSub, Nat.reduceMul, Nat.reduceLT, Nat.reduceLeDiff, Nat.reduceEqDiff, if_true, eq_self]) | ((with_reducible apply slice_str hc); (focus rfl); (focus rfl); (focus (simp only [go_sem])); simp only [go_sem, Nat.reduceAdd, Nat.reduceSub, Nat.reduceMul, Nat.reduceLT, Nat.reduceLeDiff, Nat.reduceEqDiff, if_true, eq_self])))
    | ((with_reducible refine appS ?_); replace H := Hchk H; obtain ⟨hc, H⟩ := H; (first | (refine app_msb hc (by first | (simp only [go_sem]; done) | (simp only [go_sem]; rfl)) (by first | (simp only [go_sem]; done) | (simp only [go_sem]; rfl)) (by first | (simp only [go_sem]; done) | (simp only [go_sem]; rfl)) (by first | (simp only [go_sem]; done) | (simp only [go_sem]; rfl)) (by rfl) (by first | rfl | exact src_ss' (by rfl) (by rfl) (by rfl)) rfl rfl (by intro x_; rfl) rfl ?_) | (refine app_nlb hc (by first | (simp only [go_sem]; done) | (simp only [go_sem]; rfl)) (by first | (simp only [go_sem]; done) | (simp only [go_sem]; rfl)) (by first | (simp only [go_sem]; done) | (simp only [go_sem]; rfl)) (by first | (simp only [go_sem]; done) | (simp only [go_sem]; rfl)) (by first | rfl | exact src_ss' (by rfl) (by rfl) (by rfl)) rfl rfl (by intro x_; rfl) ?_)); simp only [go_sem, Nat.reduceAdd, Nat.reduceSub, Nat.reduceMul, Nat.reduceLT, Nat.reduceLeDiff, Nat.reduceEqDiff, if_true, eq_self])
    | ((with_reducible refine mkS ?_); replace H := Hchk H; obtain ⟨hc, H⟩ := H; (refine make_b hc (by first | (simp only [go_sem]; done) | (simp only [go_sem]; rfl)) (by first | (simp only [go_sem]; done) | (simp only [go_sem]; rfl)) (by first | (simp only [go_sem]; done) | (simp only [go_sem]; rfl)) (by first | (simp only [go_sem]; done) | (simp only [go_sem]; rfl)) rfl rfl ?_); simp only [go_sem, Nat.reduceAdd, Nat.reduceSub, Nat.reduceMul, Nat.reduceLT, Nat.reduceLeDiff, Nat.reduceEqDiff, if_true, eq_self])
    | ((with_reducible refine optS ?_); (first | (with_reducible refine opt_if (by decide) ?_) | (replace H := Hchk H; obtain ⟨hc, H⟩ := H; (first | (refine opt_if hc ?_) | (refine opt_if (of_decide_eq_true hc) ?_) | (refine opt_if ⟨rfl, of_decide_eq_true hc⟩ ?_)))); simp only [go_sem, Nat.reduceAdd, Nat.reduceSub, Nat.reduceMul, Nat.reduceLT, Nat.reduceLeDiff, Nat.reduceEqDiff, if_true, eq_self])
    | ((with_reducible refine loopS ?_); (refine pwp_loopH (Hlp H) ?_ ?_); (focus (simp only [LoopE.T, LoopE.M]; (with_reducible refine cutS ?_); (first | (with_reducible apply cutL_0) | (with_reducible apply cutL_1) | (with_reducible apply cutL_2) | (with_reducible apply cutL_3) | (with_reducible apply cutL_4) | (with_reducible apply cutL_5) | (with_reducible apply cutL_6) | (with_reducible apply cutL_7) | (with_reducible apply cutL_8) | (with_reducible apply cutL_9) | (with_reducible apply cutL_10) | (with_reducible apply cutL_11) | (with_reducible apply cutL_12)); (repeat' (first       | (exact lowB_0) | (refine lowB_c ?_) | (refine lowB_d ?_) | (with_reducible refine cutT_un ?_)       | (with_reducible refine cutT_c ?_ ?_)       | (with_reducible exact cutT_nil)       | (with_reducible exact cutV_c rfl)       | exact cutV_c rfl       | (with_reducible exact cutL_nil)       | (with_reducible refine cutL_c ?_ ?_)       | exact .c _ rfl       | exact .un _       | exact cutC_ms rfl rfl       | exact cutC_be rfl rfl       | exact cutC_nilsl0 | exact cutC_nilsl       | exact cutC_nilms rfl rfl       | (refine cutC_fms rfl ?_) | (refine cutC_fmso rfl rfl ?_) | (refine cutC_fss rfl rfl rfl ?_)       | (refine cutC_fbe rfl rfl ?_)       | (with_reducible refine cutV_ag ?_)       | (with_reducible refine cutV_tu ?_)       | (with_reducible exact cutAs_nil)       | (with_reducible refine cutAs_c ?_ ?_)       | (with_reducible refine cutA_ag ?_)       | (with_reducible refine cutA_k ?_)       | (with_reducible refine cutV_k ?_)       | (with_reducible exact rowsOk_nil)       | (refine rowsOk_live rfl ?_ ?_)       | (refine rowsOk_new0 rfl ?_) | (refine rowsOk_new rfl ?_)       | (with_reducible refine rowsOk_dead ?_)       | (with_reducible refine cutB_one ?_)       | (with_reducible exact cutB_nil)       | (with_reducible refine cutB_two ?_)       | (with_reducible exact cutE_n)       | (with_reducible refine cutE_c ?_ ?_)       | (with_reducible exact cutB_same)       | (with_reducible refine cutB_set ?_)       | exact cutB_same       | (refine cutB_set ?_)       | (refine cutB_rep ?_)       | (refine cutB_snoc ?_)       | (simp only [cInt, cStr, cBool, cB8, cl1Cur, cLabel, cParcel, cZone, cRate, cLeg, cNetwork, cTrip, cBooking, cScan, cOrder, cWorld, cLine, cAct, cOffice, cItem, cChute, cInlet, cCentre, cThing, cBelief])       | (with_unfolding_all rfl))); (all_goals first | (exact dropped_of rfl) | exact none))); (clear H; intro n_ s_ H K_ hL; replace H := Hrd H; simp only [LoopE.T, LoopE.M]))
    | ((with_reducible refine pwp_draw (by kernel_rfl) ?_); simp only [go_sem, Nat.reduceAdd, Nat.reduceSub, Nat.reduceMul, Nat.reduceLT, Nat.reduceLeDiff, Nat.reduceEqDiff, if_true, eq_self])
    | ((with_reducible refine endD_intro (by kernel_rfl) ?_); (try simp only [thenP_normal, blockP_normal]))
    | ((with_reducible refine hK _ _ ?_); clear hK)
    | (clear hK; (with_reducible refine hK _ _ ?_); clear hK)
    | (clear hK; clear hK; (with_reducible refine hK _ _ ?_); clear hK)
    | (clear hK; clear hK; clear hK; (with_reducible refine hK _ _ ?_); clear hK)
    | (clear hK; clear hK; clear hK; clear hK; (with_reducible refine hK _ _ ?_); clear hK)
    | (clear hK; clear hK; clear hK; clear hK; clear hK; (with_reducible refine hK _ _ ?_); clear hK)
    | ((with_reducible refine And.intro ?_ ?_); omega)
    | (simp only [nxt_app, nxd_app, nxe_app, atM_app]; simp only [go_sem, Nat.reduceAdd, Nat.reduceSub, Nat.reduceMul, Nat.reduceLT, Nat.reduceLeDiff, Nat.reduceEqDiff, if_true, eq_self])
    | (simp only [idxmap hy, idxset hy, go_sem, Nat.reduceAdd, Nat.reduceSub, Nat.reduceMul, Nat.reduceLT, Nat.reduceLeDiff, Nat.reduceEqDiff, if_true, eq_self])
    | ((with_reducible replace H := HexL H); (with_reducible refine hL _ _ _ H ?_); (try simp only [LoopE.T, LoopE.M]); (with_reducible refine cutS ?_); (first | (with_reducible apply cutL_0) | (with_reducible apply cutL_1) | (with_reducible apply cutL_2) | (with_reducible apply cutL_3) | (with_reducible apply cutL_4) | (with_reducible apply cutL_5) | (with_reducible apply cutL_6) | (with_reducible apply cutL_7) | (with_reducible apply cutL_8) | (with_reducible apply cutL_9) | (with_reducible apply cutL_10) | (with_reducible apply cutL_11) | (with_reducible apply cutL_12)); (repeat' (first       | (exact lowB_0) | (refine lowB_c ?_) | (refine lowB_d ?_) | (with_reducible refine cutT_un ?_)       | (with_reducible refine cutT_c ?_ ?_)       | (with_reducible exact cutT_nil)       | (with_reducible exact cutV_c rfl)       | exact cutV_c rfl       | (with_reducible exact cutL_nil)       | (with_reducible refine cutL_c ?_ ?_)       | exact .c _ rfl       | exact .un _       | exact cutC_ms rfl rfl       | exact cutC_be rfl rfl       | exact cutC_nilsl0 | exact cutC_nilsl       | exact cutC_nilms rfl rfl       | (refine cutC_fms rfl ?_) | (refine cutC_fmso rfl rfl ?_) | (refine cutC_fss rfl rfl rfl ?_)       | (refine cutC_fbe rfl rfl ?_)       | (with_reducible refine cutV_ag ?_)       | (with_reducible refine cutV_tu ?_)       | (with_reducible exact cutAs_nil)       | (with_reducible refine cutAs_c ?_ ?_)       | (with_reducible refine cutA_ag ?_)       | (with_reducible refine cutA_k ?_)       | (with_reducible refine cutV_k ?_)       | (with_reducible exact rowsOk_nil)       | (refine rowsOk_live rfl ?_ ?_)       | (refine rowsOk_new0 rfl ?_) | (refine rowsOk_new rfl ?_)       | (with_reducible refine rowsOk_dead ?_)       | (with_reducible refine cutB_one ?_)       | (with_reducible exact cutB_nil)       | (with_reducible refine cutB_two ?_)       | (with_reducible exact cutE_n)       | (with_reducible refine cutE_c ?_ ?_)       | (with_reducible exact cutB_same)       | (with_reducible refine cutB_set ?_)       | exact cutB_same       | (refine cutB_set ?_)       | (refine cutB_rep ?_)       | (refine cutB_snoc ?_)       | (simp only [cInt, cStr, cBool, cB8, cl1Cur, cLabel, cParcel, cZone, cRate, cLeg, cNetwork, cTrip, cBooking, cScan, cOrder, cWorld, cLine, cAct, cOffice, cItem, cChute, cInlet, cCentre, cThing, cBelief])       | (with_unfolding_all rfl))); (all_goals first | (exact dropped_of rfl) | exact none))
    | ((with_reducible replace H := HexL H); clear hL; (with_reducible refine hL _ _ _ H ?_); (try simp only [LoopE.T, LoopE.M]); (with_reducible refine cutS ?_); (first | (with_reducible apply cutL_0) | (with_reducible apply cutL_1) | (with_reducible apply cutL_2) | (with_reducible apply cutL_3) | (with_reducible apply cutL_4) | (with_reducible apply cutL_5) | (with_reducible apply cutL_6) | (with_reducible apply cutL_7) | (with_reducible apply cutL_8) | (with_reducible apply cutL_9) | (with_reducible apply cutL_10) | (with_reducible apply cutL_11) | (with_reducible apply cutL_12)); (repeat' (first       | (exact lowB_0) | (refine lowB_c ?_) | (refine lowB_d ?_) | (with_reducible refine cutT_un ?_)       | (with_reducible refine cutT_c ?_ ?_)       | (with_reducible exact cutT_nil)       | (with_reducible exact cutV_c rfl)       | exact cutV_c rfl       | (with_reducible exact cutL_nil)       | (with_reducible refine cutL_c ?_ ?_)       | exact .c _ rfl       | exact .un _       | exact cutC_ms rfl rfl       | exact cutC_be rfl rfl       | exact cutC_nilsl0 | exact cutC_nilsl       | exact cutC_nilms rfl rfl       | (refine cutC_fms rfl ?_) | (refine cutC_fmso rfl rfl ?_) | (refine cutC_fss rfl rfl rfl ?_)       | (refine cutC_fbe rfl rfl ?_)       | (with_reducible refine cutV_ag ?_)       | (with_reducible refine cutV_tu ?_)       | (with_reducible exact cutAs_nil)       | (with_reducible refine cutAs_c ?_ ?_)       | (with_reducible refine cutA_ag ?_)       | (with_reducible refine cutA_k ?_)       | (with_reducible refine cutV_k ?_)       | (with_reducible exact rowsOk_nil)       | (refine rowsOk_live rfl ?_ ?_)       | (refine rowsOk_new0 rfl ?_) | (refine rowsOk_new rfl ?_)       | (with_reducible refine rowsOk_dead ?_)       | (with_reducible refine cutB_one ?_)       | (with_reducible exact cutB_nil)       | (with_reducible refine cutB_two ?_)       | (with_reducible exact cutE_n)       | (with_reducible refine cutE_c ?_ ?_)       | (with_reducible exact cutB_same)       | (with_reducible refine cutB_set ?_)       | exact cutB_same       | (refine cutB_set ?_)       | (refine cutB_rep ?_)       | (refine cutB_snoc ?_)       | (simp only [cInt, cStr, cBool, cB8, cl1Cur, cLabel, cParcel, cZone, cRate, cLeg, cNetwork, cTrip, cBooking, cScan, cOrder, cWorld, cLine, cAct, cOffice, cItem, cChute, cInlet, cCentre, cThing, cBelief])       | (with_unfolding_all rfl))); (all_goals first | (exact dropped_of rfl) | exact none))
    | ((with_reducible refine jnX H hL ?_); (with_reducible refine cutS ?_); (first | (with_reducible apply cutL_0) | (with_reducible apply cutL_1) | (with_reducible apply cutL_2) | (with_reducible apply cutL_3) | (with_reducible apply cutL_4) | (with_reducible apply cutL_5) | (with_reducible apply cutL_6) | (with_reducible apply cutL_7) | (with_reducible apply cutL_8) | (with_reducible apply cutL_9) | (with_reducible apply cutL_10) | (with_reducible apply cutL_11) | (with_reducible apply cutL_12)); (repeat' (first       | (exact lowB_0) | (refine lowB_c ?_) | (refine lowB_d ?_) | (with_reducible refine cutT_un ?_)       | (with_reducible refine cutT_c ?_ ?_)       | (with_reducible exact cutT_nil)       | (with_reducible exact cutV_c rfl)       | exact cutV_c rfl       | (with_reducible exact cutL_nil)       | (with_reducible refine cutL_c ?_ ?_)       | exact .c _ rfl       | exact .un _       | exact cutC_ms rfl rfl       | exact cutC_be rfl rfl       | exact cutC_nilsl0 | exact cutC_nilsl       | exact cutC_nilms rfl rfl       | (refine cutC_fms rfl ?_) | (refine cutC_fmso rfl rfl ?_) | (refine cutC_fss rfl rfl rfl ?_)       | (refine cutC_fbe rfl rfl ?_)       | (with_reducible refine cutV_ag ?_)       | (with_reducible refine cutV_tu ?_)       | (with_reducible exact cutAs_nil)       | (with_reducible refine cutAs_c ?_ ?_)       | (with_reducible refine cutA_ag ?_)       | (with_reducible refine cutA_k ?_)       | (with_reducible refine cutV_k ?_)       | (with_reducible exact rowsOk_nil)       | (refine rowsOk_live rfl ?_ ?_)       | (refine rowsOk_new0 rfl ?_) | (refine rowsOk_new rfl ?_)       | (with_reducible refine rowsOk_dead ?_)       | (with_reducible refine cutB_one ?_)       | (with_reducible exact cutB_nil)       | (with_reducible refine cutB_two ?_)       | (with_reducible exact cutE_n)       | (with_reducible refine cutE_c ?_ ?_)       | (with_reducible exact cutB_same)       | (with_reducible refine cutB_set ?_)       | exact cutB_same       | (refine cutB_set ?_)       | (refine cutB_rep ?_)       | (refine cutB_snoc ?_)       | (simp only [cInt, cStr, cBool, cB8, cl1Cur, cLabel, cParcel, cZone, cRate, cLeg, cNetwork, cTrip, cBooking, cScan, cOrder, cWorld, cLine, cAct, cOffice, cItem, cChute, cInlet, cCentre, cThing, cBelief])       | (with_unfolding_all rfl))); (all_goals first | (exact dropped_of rfl) | exact none))
    | (with_reducible exact (Hnone H).elim)
    | ((with_reducible replace H := rgH H); obtain ⟨y_, hy, H⟩ := H; simp only [idxmap hy, idxset hy, go_sem, Nat.reduceAdd, Nat.reduceSub, Nat.reduceMul, Nat.reduceLT, Nat.reduceLeDiff, Nat.reduceEqDiff, if_true, eq_self]))) : p := h
theorem eqT_Leg {n : Nat} {a a2 : ByteArray} {b b2 : ByteArray} {c c2 : Int} {d d2 : Int} {e e2 : Int} {f f2 : Int} : eqT Tryz.prog (n + 3) 67 [vs a, vs b, vi c, vi d, vi e, vi f] [vs a2, vs b2, vi c2, vi d2, vi e2, vi f2] = some (decide ((⟨a, b, c, d, e, f⟩ : YLeg) = (⟨a2, b2, c2, d2, e2, f2⟩ : YLeg))) := by
  simp only [eqT, Tryz.underlying3, Tryz.underlying67, ts67, Tryz.underlying9, Program.fieldsOf, go_sem]
  simp [tc67, tc3, tc9, baB]
  rfl
@[go_sem] theorem eqK_Leg {a a2 : ByteArray} {b b2 : ByteArray} {c c2 : Int} {d d2 : Int} {e e2 : Int} {f f2 : Int} {KR : PV → Prop} : eqK Tryz.prog .eql 67 [vs a, vs b, vi c, vi d, vi e, vi f] [vs a2, vs b2, vi c2, vi d2, vi e2, vi f2] KR = KR (vb (decide ((⟨a, b, c, d, e, f⟩ : YLeg) = (⟨a2, b2, c2, d2, e2, f2⟩ : YLeg)))) := by unfold eqK; rw [show (10000 : Nat) = 9997 + 3 from rfl, eqT_Leg, Tryz.underlying67]; simp only [te67, true_and]
@[go_sem] theorem neK_Leg {a a2 : ByteArray} {b b2 : ByteArray} {c c2 : Int} {d d2 : Int} {e e2 : Int} {f f2 : Int} {KR : PV → Prop} : eqK Tryz.prog .neq 67 [vs a, vs b, vi c, vi d, vi e, vi f] [vs a2, vs b2, vi c2, vi d2, vi e2, vi f2] KR = KR (vb (!decide ((⟨a, b, c, d, e, f⟩ : YLeg) = (⟨a2, b2, c2, d2, e2, f2⟩ : YLeg)))) := by unfold eqK; rw [show (10000 : Nat) = 9997 + 3 from rfl, eqT_Leg, Tryz.underlying67]; simp only [te67, true_and]
theorem eqT_Scan {n : Nat} {a a2 : Int} {b b2 : Int} {c c2 : Int} {d d2 : ByteArray} {e e2 : Int} {f f2 : Int} : eqT Tryz.prog (n + 3) 130 [vi a, vi b, vi c, vs d, vi e, vi f] [vi a2, vi b2, vi c2, vs d2, vi e2, vi f2] = some (decide ((⟨a, b, c, d, ⟨e, f⟩⟩ : YScan) = (⟨a2, b2, c2, d2, ⟨e2, f2⟩⟩ : YScan))) := by
  simp only [eqT, Tryz.underlying3, Tryz.underlying130, ts130, Tryz.underlying55, ts55, Tryz.underlying9, Program.fieldsOf, go_sem]
  simp [tc130, tc55, tc3, tc9, baB]
  rfl
@[go_sem] theorem eqK_Scan {a a2 : Int} {b b2 : Int} {c c2 : Int} {d d2 : ByteArray} {e e2 : Int} {f f2 : Int} {KR : PV → Prop} : eqK Tryz.prog .eql 130 [vi a, vi b, vi c, vs d, vi e, vi f] [vi a2, vi b2, vi c2, vs d2, vi e2, vi f2] KR = KR (vb (decide ((⟨a, b, c, d, ⟨e, f⟩⟩ : YScan) = (⟨a2, b2, c2, d2, ⟨e2, f2⟩⟩ : YScan)))) := by unfold eqK; rw [show (10000 : Nat) = 9997 + 3 from rfl, eqT_Scan, Tryz.underlying130]; simp only [te130, true_and]
@[go_sem] theorem neK_Scan {a a2 : Int} {b b2 : Int} {c c2 : Int} {d d2 : ByteArray} {e e2 : Int} {f f2 : Int} {KR : PV → Prop} : eqK Tryz.prog .neq 130 [vi a, vi b, vi c, vs d, vi e, vi f] [vi a2, vi b2, vi c2, vs d2, vi e2, vi f2] KR = KR (vb (!decide ((⟨a, b, c, d, ⟨e, f⟩⟩ : YScan) = (⟨a2, b2, c2, d2, ⟨e2, f2⟩⟩ : YScan)))) := by unfold eqK; rw [show (10000 : Nat) = 9997 + 3 from rfl, eqT_Scan, Tryz.underlying130]; simp only [te130, true_and]
end Go.Proofs.YtmcdjilbkmhfoaaGreat
namespace Go.Proofs.YtmcdjilbkmhfoaaGreat
set_option maxRecDepth 10000
open Go.RowKit
structure ElT (P : Program) (t e : TypeId) (k bytes : Nat) : Prop where
  ht : P.underlying t = some (.slice e)
  info : ∃ i z, P.info? e = some i ∧ i.zero = some z ∧ i.size = k ∧ i.bytes = bytes ∧ z.cells.size = k
theorem ElT.mk' {P : Program} {t e : TypeId} {k bytes : Nat} {z : Value} (ht : P.underlying t = some (.slice e)) (h : (P.info? e).map (fun i => (i.zero, i.size, i.bytes)) = some (some z, k, bytes)) (hz : z.cells.size = k) : ElT P t e k bytes := by
  obtain ⟨i, h1, h2, h3, h4⟩ := info_parts h
  exact ⟨ht, i, z, h1, h2, h3, h4, hz⟩
theorem Own.form {α : Type} [Enc α] {w : World} {B E : Nat} {v : Value} {xs : List α} (h : Own w B E v xs) : ∃ A c, v = .slice A xs.length c ∧ xs.length ≤ c ∧ c ≤ maxLen := by
  rcases h.2 with ⟨hv, h0⟩ | ⟨g, cap, cur, hv, _, _, hnc, hcm, _⟩
  · exact ⟨none, 0, by rw [hv, h0], by omega, by unfold maxLen; omega⟩
  · exact ⟨_, cap, hv, hnc, hcm⟩
theorem Own.nil_ {α : Type} [Enc α] (w : World) (B E : Nat) : Own w B E (.slice none 0 0) ([] : List α) := World.ownsRow_nil _ _ _ _
theorem Own.empty {α : Type} [Enc α] (w : World) (B E c : Nat) (cur : Array Value) (hB : B ≤ w.heap.size) (hm : c ≤ maxLen) (hs : cur.size = c * Enc.k α) :
    Own (w.alloc (.cells cur E)) B E (.slice (some ⟨w.heap.size, 0, none⟩) 0 c) ([] : List α) := World.ownsRow_made w cur c hB hm hs
theorem Own.more {α : Type} [Enc α] {w : World} {B B' E : Nat} {v : Value} {xs : List α} (h : Own w B E v xs) (hB : B' ≤ B) : Own w B' E v xs := by
  refine ⟨h.1, ?_⟩
  rcases h.2 with h2 | ⟨g, cap, cur, hv, hb, r⟩
  · exact .inl h2
  · exact .inr ⟨g, cap, cur, hv, by omega, r⟩
theorem Own.down {α : Type} [Enc α] {w0 W w : World} {E : Nat} {v : Value} {xs : List α} (h : Own w W.heap.size E v xs) (hu : Up w0 W) : Own w w0.heap.size E v xs := h.more hu.size
theorem Up.le {w0 w : World} (h : Up w0 w) : w0.heap.size ≤ w.heap.size := h.size
theorem Own.grown {α : Type} [Enc α] {w w' : World} {B E : Nat} {v : Value} {xs : List α} {row : Option Nat} (h : Own w B E v xs) (hg : w.grownBy w' row) (hne : v.ownBlock = none ∨ v.ownBlock ≠ row) : Own w' B E v xs :=
  World.ownsRow.kept h hg hne
theorem Rd.one {α : Type} [Enc α] (w : World) (T : TypeId) (x : α) (B : Nat) (hB : w.heap.size < B) : Rd (w.alloc (.cells (Enc.cells x).toArray T)) B (some ⟨w.heap.size, 0, none⟩) [x] := by
  intro _
  refine ⟨w.heap.size, 0, rfl, hB, fun j u hu => ?_⟩
  rw [flat_one] at hu
  rw [Nat.zero_add, cell_of_row _ _ j _ T (0, 0) (heap_alloc_new w _)]
  simpa using hu
def Marking (w0 w : World) (B E k : Nat) (g n cap m : Nat) (ys : List Value) : Prop :=
  ∃ cs : List Value, w.ownsRow B E k (.slice (some ⟨g, 0, none⟩) n cap) n cs ∧ cs.take m = ys.take m ∧ w0.grownBy w (some g)
theorem Marking.start {w : World} {B E k g n cap : Nat} {cs ys : List Value} (h : w.ownsRow B E k (.slice (some ⟨g, 0, none⟩) n cap) n cs) : Marking w w B E k g n cap 0 ys :=
  ⟨cs, h, by simp, ⟨rfl, rfl, rfl, Nat.le_refl _, fun _ _ _ => rfl⟩⟩
theorem Marking.cell {w0 w : World} {B E k g n cap m : Nat} {ys : List Value} (h : Marking w0 w B E k g n cap m ys) {j : Nat} (hj : j < n * k) : ∃ u, w.cell? ⟨g, j, none⟩ = some u := by
  obtain ⟨cs, ho, _⟩ := h
  have hl : cs.length = n * k := ho.1
  exact ⟨cs[j]'(by omega), by rw [ho.cellAt j hj]; exact List.getElem?_eq_getElem _⟩
theorem Marking.frozen {w0 w : World} {B E k g n cap m : Nat} {ys : List Value} (h : Marking w0 w B E k g n cap m ys) (j : Nat) : w.frozen? ⟨g, j, none⟩ = false := by
  obtain ⟨cs, ho, _⟩ := h
  exact ho.frozenAt j
theorem grownBy_trans {a b c : World} {row : Option Nat} (h : a.grownBy b row) (k : b.grownBy c row) : a.grownBy c row :=
  ⟨k.os.trans h.os, k.tape.trans h.tape, k.output.trans h.output, Nat.le_trans h.size k.size, fun i hi hne => (k.block i (Nat.lt_of_lt_of_le hi h.size) hne).trans (h.block i hi hne)⟩
theorem Marking.set1 {w0 w : World} {B E k g n cap m : Nat} {ys : List Value} {v : Value} (h : Marking w0 w B E k g n cap m ys) (hm : m < n * k) (hy : ys[m]? = some v) :
    Marking w0 (w.setCell ⟨g, m, none⟩ v) B E k g n cap (m + 1) ys := by
  obtain ⟨cs, ho, ht, hg⟩ := h
  have hl : cs.length = n * k := ho.1
  obtain ⟨h1, h2⟩ := ho.stored m v
  exact ⟨cs.set m v, h1, take_set_succ (by omega) hy ht, grownBy_trans hg h2⟩
theorem Marking.drewN {w0 w : World} {B E k g n cap m : Nat} {ys : List Value} (h : Marking w0 w B E k g n cap m ys) (q : Nat) : Marking w0 (w.drewN q) B E k g n cap m ys := by
  obtain ⟨cs, ho, ht, hg⟩ := h
  exact ⟨cs, ho, ht, ⟨hg.os, hg.tape, hg.output, hg.size, hg.block⟩⟩
theorem Marking.own {α : Type} [Enc α] {w0 w : World} {B E g n cap : Nat} {ys : List α} (h : Marking w0 w B E (Enc.k α) g n cap (n * Enc.k α) (flat ys)) (hn : ys.length = n) : Own w B E (.slice (some ⟨g, 0, none⟩) n cap) ys ∧ w0.grownBy w (some g) := by
  obtain ⟨cs, ho, ht, hg⟩ := h
  have hl : cs.length = n * Enc.k α := ho.1
  have e1 : (flat ys).take (n * Enc.k α) = flat ys := List.take_of_length_le (by rw [flat_len, hn]; exact Nat.le_refl _)
  rw [e1, List.take_of_length_le (by omega)] at ht
  subst ht
  refine ⟨?_, hg⟩
  unfold Own
  rw [hn]
  exact ho
theorem addr_add (b o j : Nat) : (⟨b, o, none⟩ : Addr).add j = ⟨b, o + j, none⟩ := by unfold Addr.add; split <;> simp_all
theorem run_append_nil_src {α : Type} [Enc α] {P : Program} (w : World) {t ty e : Nat} {i : TypeInfo} (ht : P.underlying t = some (.slice e)) (hi : P.info? e = some i) {base : Nat} {v : Value} {ys : List α} (hown : Own w base e v ys) (c : Nat) :
    (Builtin.append_ #[t, t] ty #[v, .slice none 0 c]).run P w = .ok v w := by
  rcases hown.2 with ⟨rfl, h0⟩ | ⟨g, cap, cur, rfl, _, _, hnc, _⟩
  · simp [Builtin.append_, run_underlying ht, sizeOf, typeInfo, hi, Builtin.lenOf, Builtin.firstCells]
  · simp [Builtin.append_, run_underlying ht, sizeOf, typeInfo, hi, Builtin.lenOf, Builtin.firstCells, hnc, storeCells]
theorem run_append_rd {α : Type} [Enc α] {P : Program} (w : World) {t ty e bytes : Nat} (T : ElT P t e (Enc.k α) bytes) {base : Nat} {v : Value} {ys : List α} (hown : Own w base e v ys)
    {B : Nat} {A : Option Addr} {c : Nat} {xs : List α} (hr : Rd w B A xs) (hbytes : (ys.length + xs.length) * bytes ≤ 140737488355328) (h63 : ys.length + xs.length ≤ maxLen) (hbase : base ≤ w.heap.size) :
    ∃ v' w', (Builtin.append_ #[t, t] ty #[v, .slice A xs.length c]).run P w = .ok v' w' ∧ Own w' base e v' (ys ++ xs) ∧ w.grownBy w' v.ownBlock ∧ (v'.ownBlock = v.ownBlock ∨ v'.ownBlock = some w.heap.size) := by
  obtain ⟨i, z, hi, hz, hs, hb, hzs⟩ := T.info
  cases A with
  | none =>
    have hx : xs = [] := by
      rcases Classical.em (xs = []) with h | h
      · exact h
      · obtain ⟨_, _, h', _⟩ := hr h
        cases h'
    subst hx
    have hrun := run_append_nil_src (P := P) w (ty := ty) T.ht hi hown c
    exact ⟨v, w, by simpa using hrun, by simpa using hown, ⟨rfl, rfl, rfl, Nat.le_refl _, fun _ _ _ => rfl⟩, .inl rfl⟩
  | some ad =>
    have hnews : ∀ j u, (flat xs)[j]? = some u → w.cell? (ad.add j) = some u := by
      intro j u hu
      have hne : xs ≠ [] := by rintro rfl; simp [flat] at hu
      obtain ⟨b, off, hA', _, hc⟩ := hr hne
      injection hA' with hA'
      subst hA'
      rw [addr_add]
      exact hc j u hu
    obtain ⟨v', w', hrun, h2, h3, _, h5⟩ := run_append_own_at (P := P) w base t ty e i z (Enc.k α) bytes T.ht hi hz hs hb hzs Enc.pos v ys.length (flat ys) hown ad xs.length c (flat xs) (flat_len xs) hnews (flat_oneCell xs) h63 hbytes hbase
    refine ⟨v', w', hrun, ?_, h3, h5⟩
    have e1 : (ys ++ xs).length = ys.length + xs.length := List.length_append
    unfold Own
    rw [e1, flat_append]
    exact h2
theorem Up.grown' {α : Type} [Enc α] {w0 w w' : World} {base e : Nat} {v : Value} {ys : List α} (h : Up w0 w) (hg : w.grownBy w' v.ownBlock) (hown : Own w base e v ys) (hb : w0.heap.size ≤ base) : Up w0 w' :=
  Below.grown h hg h.size (fun k hk => Nat.le_trans hb (World.ownsRow.lt hown k hk).1)
theorem wp_append_rd {α : Type} [Enc α] {P : Program} {w : World} {o : Oper} {a : Act} {K : Act → World → Prop} {Q : Exit → Act → World → Prop} {t e bytes : Nat} (T : ElT P t e (Enc.k α) bytes)
    (s x : Operand) (ho : o.op = .call { callee := .builtin .append, args := #[s, x], argTypes := #[t, t] })
    {base : Nat} {v : Value} {ys : List α} (hs : a.eval s = v) (hown : Own w base e v ys)
    {B : Nat} {A : Option Addr} {c : Nat} {xs : List α} (n : Nat) (hx : a.eval x = .slice A n c) (hn : n = xs.length) (hr : Rd w B A xs)
    (hbytes : (ys.length + xs.length) * bytes ≤ 140737488355328) (h63 : ys.length + xs.length ≤ maxLen) (hbase : base ≤ w.heap.size)
    (h : ∀ v' w', Own w' base e v' (ys ++ xs) → w.grownBy w' v.ownBlock → (v'.ownBlock = v.ownBlock ∨ v'.ownBlock = some w.heap.size) → (∀ w0, w0.heap.size ≤ base → Up w0 w → Up w0 w') → K (a.put o.dst v') w') :
    o.wp P a w K Q := by
  subst hn
  obtain ⟨v', w', hrun, h2, h3, h4⟩ := run_append_rd (P := P) w (ty := o.type) (c := c) T hown hr hbytes h63 hbase
  unfold Oper.wp execOp
  simp only [ho, resolve, invoke, builtin, Sem.run_bind, Sem.run_pure, Result.andThen_ok, List.map_toArray, List.map_cons, List.map_nil, hs, hx, hrun]
  exact h v' w' h2 h3 h4 fun w0 hb hu => Up.grown' hu h3 hown hb
theorem wpList_append_rd {α : Type} [Enc α] {P : Program} {w : World} {ops : Array Oper} {rest : List Oper} {o : Oper} {a : Act} {Q : Exit → Act → World → Prop} {t e bytes : Nat} (T : ElT P t e (Enc.k α) bytes)
    (hgd : o.guard = none) (s x : Operand) (ho : o.op = .call { callee := .builtin .append, args := #[s, x], argTypes := #[t, t] })
    {base : Nat} {v : Value} {ys : List α} (hs : a.eval s = v) (hown : Own w base e v ys)
    {B : Nat} {A : Option Addr} {c : Nat} {xs : List α} (n : Nat) (hx : a.eval x = .slice A n c) (hn : n = xs.length) (hr : Rd w B A xs)
    (hbytes : (ys.length + xs.length) * bytes ≤ 140737488355328) (h63 : ys.length + xs.length ≤ maxLen) (hbase : base ≤ w.heap.size)
    (h : ∀ v' w', Own w' base e v' (ys ++ xs) → w.grownBy w' v.ownBlock → (v'.ownBlock = v.ownBlock ∨ v'.ownBlock = some w.heap.size) → (∀ w0, w0.heap.size ≤ base → Up w0 w → Up w0 w') → wpList P ops Q rest (a.put o.dst v') w') :
    wpList P ops Q (o :: rest) a w :=
  wpList_plain hgd fun _ hK => wp_append_rd T s x ho hs hown n hx hn hr hbytes h63 hbase fun v' w' h2 h3 h4 h5 => hK _ _ (h v' w' h2 h3 h4 h5)
end Go.Proofs.YtmcdjilbkmhfoaaGreat
namespace Go.Proofs.YtmcdjilbkmhfoaaGreat
set_option maxRecDepth 10000
open Go.RowKit Go.Maps Go.WideMaps
set_option linter.unusedVariables false
set_option linter.unusedSimpArgs false
instance : Enc ByteArray where
  cells x := [.string x]
  k := 1
  len _ := rfl
  pos := by decide
  one := by simp [Value.oneCell']
theorem flat_strs (ls : List ByteArray) : flat ls = ls.map Value.string := by
  induction ls with
  | nil => rfl
  | cons x xs ih => rw [flat_cons, ih]; rfl
def inL (S : List ByteArray) (s : ByteArray) : Bool := S.any fun y => decide (y = s)
theorem inL_iff {S : List ByteArray} {s : ByteArray} : inL S s = true ↔ s ∈ S := by simp [inL]
theorem inL_snoc (S : List ByteArray) (s s' : ByteArray) : inL (S ++ [s]) s' = (inL S s' || decide (s = s')) := by simp [inL]
def dd (out : List ByteArray) (s : ByteArray) : List ByteArray := if inL out s = true then out else out ++ [s]
def namesOf (n : YNetwork) : List ByteArray := n.legs.flatMap fun l => [l.from_, l.to_]
theorem grown_cell {w w' : World} {row : Option Nat} (h : w.grownBy w' row) {b o : Nat} (hb : b < w.heap.size) (hne : some b ≠ row) : w'.cell? ⟨b, o, none⟩ = w.cell? ⟨b, o, none⟩ := by simp [World.cell?, h.block b hb hne]
theorem Rd.oneAt {α : Type} [Enc α] (w : World) (T : TypeId) (x : α) (H : Nat) (hH : w.heap.size = H) : Rd (w.alloc (.cells (Enc.cells x).toArray T)) (H + 1) (some ⟨H, 0, none⟩) [x] := by
  subst hH
  exact Rd.one w T x _ (Nat.lt_succ_self _)
theorem al_cell {w : World} {b o : Nat} {u : Value} {ob : Obj} (h : w.cell? ⟨b, o, none⟩ = some u) : (w.alloc ob).cell? ⟨b, o, none⟩ = some u :=
  ((Up.al ob (Up.rfl' w)).cell (p := ⟨b, o, none⟩) (World.block_lt_of_cell? _ _ h)).trans h
def SetM (P : Program) (k e : TypeId) (w : World) (b n : Nat) (S : List ByteArray) : Prop :=
  ∃ D : DataW Unit, w.ownsMap P k (plainElem P e) b n D ∧ IsMap D ∧ ∀ s : ByteArray, D.atKey (.string s.data.toList) (.lit (.bool false)) = .lit (.bool (inL S s))
section
variable {P : Program} {k e : TypeId} {w : World} {b n : Nat} {S : List ByteArray}
theorem SetM.made (w : World) : SetM P k e (w.alloc (.map #[] 0)) w.heap.size 0 [] :=
  ⟨_, World.ownsMap_made w P k _, isMap_empty, fun s => by simp [DataW.atKey, inL]⟩
theorem SetM.kept {w' : World} {row : Option Nat} (h : SetM P k e w b n S) (hg : w.grownBy w' row) (hne : some b ≠ row) : SetM P k e w' b n S := by
  obtain ⟨D, h1, h2⟩ := h; exact ⟨D, h1.kept hg hne, h2⟩
theorem SetM.alloc (h : SetM P k e w b n S) (o : Obj) : SetM P k e (w.alloc o) b n S := by
  obtain ⟨D, h1, h2⟩ := h; exact ⟨D, h1.alloc o, h2⟩
theorem SetM.setCell (h : SetM P k e w b n S) {a : Addr} (ha : b ≠ a.block) (u : Value) : SetM P k e (w.setCell a u) b n S := by
  obtain ⟨D, h1, h2⟩ := h; exact ⟨D, h1.setCell ha u, h2⟩
theorem SetM.mono (h : SetM P k e w b n S) {n' : Nat} (hn : n ≤ n') : SetM P k e w b n' S := by
  obtain ⟨D, h1, h2⟩ := h; exact ⟨D, h1.mono hn, h2⟩
theorem SetM.lt (h : SetM P k e w b n S) : b < w.heap.size := by obtain ⟨D, h1, _⟩ := h; exact h1.lt
theorem lit_inj {a b : Bool} (h : (DataW.lit (.bool a) : DataW Unit) = .lit (.bool b)) : a = b := by simpa using h
theorem bool_inv (he : P.underlying e = some .bool) {v : Value} {z : DataW Unit × List MemPlace} (h : plainElem P e v = some z) : ∃ c, v = .bool c ∧ z = (.lit (.bool c), []) := by
  unfold plainElem at h
  rw [he] at h
  cases v <;> simp at h
  exact ⟨_, rfl, h.symm⟩
theorem wpList_lookup_set (w : World) {ops : Array Oper} {rest : List Oper} {o : Oper} {a : Act} {Q : Exit → Act → World → Prop}
    (hg : o.guard = none) (m x : Operand) (t : TypeId) (hop : o.op = Op.lookup t m x false)
    (k e : TypeId) (hk : P.underlying k = some .string) (ht : P.underlying t = some (.map k e)) (he : P.underlying e = some .bool) (hz : ∀ w, (zeroValue e).run P w = .ok (.bool false) w) (b n : Nat) (S : List ByteArray)
    (hm : a.eval m = .map (some b)) (hown : SetM P k e w b n S) (s : ByteArray) (hx : a.eval x = .string s) (hs : s.size ≤ maxLen) (c : Bool) (hc : inL S s = c)
    (hK : wpList P ops Q rest (a.put o.dst (.bool c)) w) :
    wpList P ops Q (o :: rest) a w := by
  refine wpList_plain hg fun K' hK' => ?_
  subst hc
  obtain ⟨D, h1, h2, h3⟩ := hown
  obtain ⟨v, ps, hrun, hv⟩ := h1.lookup (string_keyed hk) ht (hz w) (plainElem_bool he false) (keyOf_string_mk hk hs)
  obtain ⟨c, rfl, hc⟩ := bool_inv he hv
  simp only [Prod.mk.injEq] at hc
  have hcc : c = inL S s := lit_inj (hc.1.symm.trans (h3 s))
  subst hcc
  unfold Oper.wp
  simp [execOp, hop, hm, hx, hrun, Result.andThen]
  exact hK' _ _ hK
theorem wpList_update_set (w : World) {ops : Array Oper} {rest : List Oper} {o : Oper} {a : Act} {Q : Exit → Act → World → Prop}
    (hg : o.guard = none) (m x v : Operand) (t : TypeId) (hop : o.op = Op.mapUpdate t m x v)
    (k e : TypeId) (hk : P.underlying k = some .string) (ht : P.underlying t = some (.map k e)) (he : P.underlying e = some .bool) (b n : Nat) (S : List ByteArray)
    (hm : a.eval m = .map (some b)) (hown : SetM P k e w b n S) (hn : n < maxLen) (s : ByteArray) (hx : a.eval x = .string s) (hv : a.eval v = .bool true) (hs : s.size ≤ maxLen)
    (hK : ∀ w', SetM P k e w' b (n + 1) (S ++ [s]) → w.grownBy w' (some b) → wpList P ops Q rest (a.put o.dst undef) w') :
    wpList P ops Q (o :: rest) a w := by
  refine wpList_plain hg fun K' hK' => ?_
  obtain ⟨D, h1, h2, h3⟩ := hown
  obtain ⟨w', hrun, r1, r2⟩ := h1.update (string_keyed hk) ht hn (keyOf_string_mk hk hs) (plainElem_bool (H := Unit) he true)
  unfold Oper.wp
  simp [execOp, hop, hm, hx, hv, hrun, Result.andThen]
  refine hK' _ _ (hK w' ⟨_, r1, h2.put _ _, fun s' => ?_⟩ r2)
  by_cases e : s' = s
  · subst e
    rw [atKey_put_same h2 (by simp [WideAt.IsKeyLit])]
    rw [inL_snoc]; simp
  · rw [atKey_put_other (by intro h; simp at h; exact e (by obtain ⟨⟨x⟩⟩ := s'; obtain ⟨⟨y⟩⟩ := s; simpa using h)), h3 s', inL_snoc, decide_eq_false (fun h => e h.symm), Bool.or_false]
end
end Go.Proofs.YtmcdjilbkmhfoaaGreat
namespace Go.Proofs
open Go.Shelf
def Tryz.lays192_ren : Go.Shelf.Ren := ⟨fun | 192 => 206 | 190 => 246 | 125 => 271 | 258 => 270 | 128 => 283 | 129 => 284 | 302 => 274 | 303 => 275 | 304 => 276 | 305 => 277 | 306 => 278 | 307 => 279 | 308 => 280 | 309 => 281 | 310 => 282 | 333 => 287 | 329 => 288 | 330 => 289 | 334 => 290 | 335 => 291 | 336 => 292 | 344 => 293 | n => n, fun | 31 => 81 | 0 => 0 | 9 => 9 | 3 => 3 | 46 => 230 | 51 => 271 | 53 => 273 | 4 => 4 | 183 => 263 | 182 => 262 | 131 => 268 | 5 => 5 | 218 => 274 | 222 => 278 | 228 => 280 | 229 => 281 | n => n, fun | n => n⟩
theorem Tryz.lays192 : Go.Proofs.Lays.n192 Tryz.prog Tryz.lays192_ren := {
  mixed := by kernel_rfl
  f125 := Tryz.func271.trans (congrArg some (by kernel_rfl))
  f128 := Tryz.func283.trans (congrArg some (by kernel_rfl))
  f129 := Tryz.func284.trans (congrArg some (by kernel_rfl))
  f190 := Tryz.func246.trans (congrArg some (by kernel_rfl))
  f192 := Tryz.func206.trans (congrArg some (by kernel_rfl))
  f258 := Tryz.func270.trans (congrArg some (by kernel_rfl))
  f302 := Tryz.func274.trans (congrArg some (by kernel_rfl))
  f303 := Tryz.func275.trans (congrArg some (by kernel_rfl))
  f304 := Tryz.func276.trans (congrArg some (by kernel_rfl))
  f305 := Tryz.func277.trans (congrArg some (by kernel_rfl))
  f306 := Tryz.func278.trans (congrArg some (by kernel_rfl))
  f307 := Tryz.func279.trans (congrArg some (by kernel_rfl))
  f308 := Tryz.func280.trans (congrArg some (by kernel_rfl))
  f309 := Tryz.func281.trans (congrArg some (by kernel_rfl))
  f310 := Tryz.func282.trans (congrArg some (by kernel_rfl))
  f329 := Tryz.func288.trans (congrArg some (by kernel_rfl))
  f330 := Tryz.func289.trans (congrArg some (by kernel_rfl))
  f333 := Tryz.func287.trans (congrArg some (by kernel_rfl))
  f334 := Tryz.func290.trans (congrArg some (by kernel_rfl))
  f335 := Tryz.func291.trans (congrArg some (by kernel_rfl))
  f336 := Tryz.func292.trans (congrArg some (by kernel_rfl))
  f344 := Tryz.func293.trans (congrArg some (by kernel_rfl))
  t0 := Tryz.underlying0
  a0 := Tryz.isAgg0
  z0 := Tryz.sizeOf0
  v0 := Tryz.zeroValue0
  t3 := Tryz.underlying3
  a3 := Tryz.isAgg3
  z3 := Tryz.sizeOf3
  v3 := Tryz.zeroValue3
  t4 := Tryz.underlying4
  a4 := Tryz.isAgg4
  z4 := Tryz.sizeOf4
  v4 := Tryz.zeroValue4
  t5 := Tryz.underlying5
  a5 := Tryz.isAgg5
  z5 := Tryz.sizeOf5
  v5 := Tryz.zeroValue5
  t9 := Tryz.underlying9
  a9 := Tryz.isAgg9
  z9 := Tryz.sizeOf9
  v9 := Tryz.zeroValue9
  t31 := Tryz.underlying81
  a31 := Tryz.isAgg81
  z31 := Tryz.sizeOf81
  v31 := Tryz.zeroValue81
  t46 := Tryz.underlying230
  a46 := Tryz.isAgg230
  z46 := Tryz.sizeOf230
  v46 := Tryz.zeroValue230
  t51 := Tryz.underlying271
  a51 := Tryz.isAgg271
  z51 := Tryz.sizeOf271
  v51 := Tryz.zeroValue271
  t53 := Tryz.underlying273
  a53 := Tryz.isAgg273
  z53 := Tryz.sizeOf273
  v53 := Tryz.zeroValue273
  t131 := Tryz.underlying268
  a131 := Tryz.isAgg268
  z131 := Tryz.sizeOf268
  v131 := Tryz.zeroValue268
  t182 := Tryz.underlying262
  a182 := Tryz.isAgg262
  z182 := Tryz.sizeOf262
  v182 := Tryz.zeroValue262
  t183 := Tryz.underlying263
  a183 := Tryz.isAgg263
  z183 := Tryz.sizeOf263
  v183 := Tryz.zeroValue263
  t218 := Tryz.underlying274
  a218 := Tryz.isAgg274
  z218 := Tryz.sizeOf274
  v218 := Tryz.zeroValue274
  t222 := Tryz.underlying278
  a222 := Tryz.isAgg278
  z222 := Tryz.sizeOf278
  v222 := Tryz.zeroValue278
  t228 := Tryz.underlying280
  a228 := Tryz.isAgg280
  z228 := Tryz.sizeOf280
  v228 := Tryz.zeroValue280
  t229 := Tryz.underlying281
  a229 := Tryz.isAgg281
  z229 := Tryz.sizeOf281
  v229 := Tryz.zeroValue281 }
open Go.Sort Go.RowKit in
theorem Tryz.sort_Strings (blk off cap : Nat) (ss : List (List UInt8)) (w : World) (hH : Holds encStr w blk off ss.toArray) (hblk : blk < w.heap.size) (hsz : ss.length < 4611686018427387904) :
    Calls Tryz.prog 206 #[.slice (some ⟨blk, off, none⟩) ss.length cap] w fun e w' =>
      e = .returned (.tuple #[]) ∧ ∃ n os, w' = grow (putRow encStr (Sort.ahead w n) blk off (ss.mergeSort fun x y => decide (x ≤ y)).toArray) os := Any.sort_Strings Tryz.lays192 blk off cap ss w hH hblk hsz
def Tryz.laysGt8_ren : Go.Shelf.Ren := ⟨fun | 8 => 200 | 13 => 239 | 14 => 240 | 16 => 242 | 15 => 241 | 29 => 268 | 30 => 269 | 42 => 273 | 49 => 286 | n => n, fun | 20 => 20 | 26 => 206 | 36 => 239 | 0 => 0 | 38 => 241 | 42 => 245 | 3 => 3 | 4 => 4 | 47 => 230 | 17 => 17 | 33 => 236 | 34 => 237 | 89 => 296 | 12 => 12 | 56 => 271 | 82 => 289 | 5 => 5 | 83 => 290 | 84 => 291 | 85 => 292 | 86 => 293 | 87 => 294 | n => n, fun | n => n⟩
theorem Tryz.laysGt8 : Go.Proofs.LaysGt.n8 Tryz.prog Tryz.laysGt8_ren := {
  mixed := by kernel_rfl
  f8 := Tryz.func200.trans (congrArg some (by kernel_rfl))
  f13 := Tryz.func239.trans (congrArg some (by kernel_rfl))
  f14 := Tryz.func240.trans (congrArg some (by kernel_rfl))
  f15 := Tryz.func241.trans (congrArg some (by kernel_rfl))
  f16 := Tryz.func242.trans (congrArg some (by kernel_rfl))
  f29 := Tryz.func268.trans (congrArg some (by kernel_rfl))
  f30 := Tryz.func269.trans (congrArg some (by kernel_rfl))
  f42 := Tryz.func273.trans (congrArg some (by kernel_rfl))
  f49 := Tryz.func286.trans (congrArg some (by kernel_rfl))
  t0 := Tryz.underlying0
  a0 := Tryz.isAgg0
  z0 := Tryz.sizeOf0
  v0 := Tryz.zeroValue0
  i0 := by kernel_rfl
  t3 := Tryz.underlying3
  a3 := Tryz.isAgg3
  z3 := Tryz.sizeOf3
  v3 := Tryz.zeroValue3
  i3 := by kernel_rfl
  t4 := Tryz.underlying4
  a4 := Tryz.isAgg4
  z4 := Tryz.sizeOf4
  v4 := Tryz.zeroValue4
  i4 := by kernel_rfl
  t5 := Tryz.underlying5
  a5 := Tryz.isAgg5
  z5 := Tryz.sizeOf5
  v5 := Tryz.zeroValue5
  i5 := by kernel_rfl
  t12 := Tryz.underlying12
  a12 := Tryz.isAgg12
  z12 := Tryz.sizeOf12
  v12 := Tryz.zeroValue12
  i12 := by kernel_rfl
  t17 := Tryz.underlying17
  a17 := Tryz.isAgg17
  z17 := Tryz.sizeOf17
  v17 := Tryz.zeroValue17
  i17 := by kernel_rfl
  t20 := Tryz.underlying20
  a20 := Tryz.isAgg20
  z20 := Tryz.sizeOf20
  v20 := Tryz.zeroValue20
  i20 := by kernel_rfl
  t26 := Tryz.underlying206
  a26 := Tryz.isAgg206
  z26 := Tryz.sizeOf206
  v26 := Tryz.zeroValue206
  i26 := by kernel_rfl
  t33 := Tryz.underlying236
  a33 := Tryz.isAgg236
  z33 := Tryz.sizeOf236
  v33 := Tryz.zeroValue236
  i33 := by kernel_rfl
  t34 := Tryz.underlying237
  a34 := Tryz.isAgg237
  z34 := Tryz.sizeOf237
  v34 := Tryz.zeroValue237
  i34 := by kernel_rfl
  t36 := Tryz.underlying239
  a36 := Tryz.isAgg239
  z36 := Tryz.sizeOf239
  v36 := Tryz.zeroValue239
  i36 := by kernel_rfl
  t38 := Tryz.underlying241
  a38 := Tryz.isAgg241
  z38 := Tryz.sizeOf241
  v38 := Tryz.zeroValue241
  i38 := by kernel_rfl
  t42 := Tryz.underlying245
  a42 := Tryz.isAgg245
  z42 := Tryz.sizeOf245
  v42 := Tryz.zeroValue245
  i42 := by kernel_rfl
  t47 := Tryz.underlying230
  a47 := Tryz.isAgg230
  z47 := Tryz.sizeOf230
  v47 := Tryz.zeroValue230
  i47 := by kernel_rfl
  t56 := Tryz.underlying271
  a56 := Tryz.isAgg271
  z56 := Tryz.sizeOf271
  v56 := Tryz.zeroValue271
  i56 := by kernel_rfl
  t82 := Tryz.underlying289
  a82 := Tryz.isAgg289
  z82 := Tryz.sizeOf289
  v82 := Tryz.zeroValue289
  i82 := by kernel_rfl
  t83 := Tryz.underlying290
  a83 := Tryz.isAgg290
  z83 := Tryz.sizeOf290
  v83 := Tryz.zeroValue290
  i83 := by kernel_rfl
  t84 := Tryz.underlying291
  a84 := Tryz.isAgg291
  z84 := Tryz.sizeOf291
  v84 := Tryz.zeroValue291
  i84 := by kernel_rfl
  t85 := Tryz.underlying292
  a85 := Tryz.isAgg292
  z85 := Tryz.sizeOf292
  v85 := Tryz.zeroValue292
  i85 := by kernel_rfl
  t86 := Tryz.underlying293
  a86 := Tryz.isAgg293
  z86 := Tryz.sizeOf293
  v86 := Tryz.zeroValue293
  i86 := by kernel_rfl
  t87 := Tryz.underlying294
  a87 := Tryz.isAgg294
  z87 := Tryz.sizeOf294
  v87 := Tryz.zeroValue294
  i87 := by kernel_rfl
  t89 := Tryz.underlying296
  a89 := Tryz.isAgg296
  z89 := Tryz.sizeOf296
  v89 := Tryz.zeroValue296
  i89 := by kernel_rfl }
end Go.Proofs
namespace Go.Proofs.YtmcdjilbkmhfoaaGreat
set_option maxRecDepth 10000
open Go.RowKit
set_option linter.unusedVariables false
set_option linter.unusedSimpArgs false
def srtS (xs : List ByteArray) : List ByteArray := ((xs.map fun b : ByteArray => b.data.toList).mergeSort fun x y => decide (x ≤ y)).map fun l => ⟨l.toArray⟩
theorem srtS_len (xs : List ByteArray) : (srtS xs).length = xs.length := by simp [srtS]
end Go.Proofs.YtmcdjilbkmhfoaaGreat
namespace Go.Proofs.YtmcdjilbkmhfoaaGreat
set_option maxRecDepth 10000
open Go.RowKit Go.Maps Go.WideMaps Go.Sort
set_option linter.unusedVariables false
set_option linter.unusedSimpArgs false
instance : Enc YLeg where
  cells x := [.string x.from_, .string x.to_, I x.start, I x.takes, I x.days, I x.room]
  k := 6
  len _ := rfl
  pos := by decide
  one := by simp [Value.oneCell', I]
theorem Rd.leg {w : World} {B : Nat} {A : Option Addr} {xs : List YLeg} {i : Nat} {x : YLeg} (h : Rd w B A xs) (hx : xs[i]? = some x) :
    ∃ b off, A = some ⟨b, off, none⟩ ∧ b < B ∧ w.cell? ⟨b, off + i * 6, none⟩ = some (.string x.from_) ∧ w.cell? ⟨b, off + i * 6 + 1, none⟩ = some (.string x.to_) ∧ w.cell? ⟨b, off + i * 6 + 2, none⟩ = some (I x.start) ∧ w.cell? ⟨b, off + i * 6 + 3, none⟩ = some (I x.takes) ∧ w.cell? ⟨b, off + i * 6 + 4, none⟩ = some (I x.days) ∧ w.cell? ⟨b, off + i * 6 + 5, none⟩ = some (I x.room) := by
  obtain ⟨b, off, e, hb, hc⟩ := h.at_ hx
  exact ⟨b, off, e, hb, hc 0 _ rfl, hc 1 _ rfl, hc 2 _ rfl, hc 3 _ rfl, hc 4 _ rfl, hc 5 _ rfl⟩
theorem info_str : (Tryz.prog.info? 9).map (fun i => (i.zero, i.size, i.bytes)) = some (some (Value.string ⟨#[]⟩), 1, 16) := by kernel_rfl
theorem el_str : ElT Tryz.prog 81 9 (Enc.k ByteArray) 16 := ElT.mk' Tryz.underlying81 info_str rfl
theorem zero_bool (w : World) : (zeroValue 4).run Tryz.prog w = .ok (.bool false) w := by kernel_rfl
def nmI (legs : List YLeg) (i : Nat) : List ByteArray := (legs.take i).foldl (fun out l => dd (dd out l.from_) l.to_) []
theorem nmI_next {legs : List YLeg} {i : Nat} {x : YLeg} (hx : legs[i]? = some x) : nmI legs (i + 1) = dd (dd (nmI legs i) x.from_) x.to_ := by
  unfold nmI
  rw [foldl_snoc hx]
theorem dd_len (out : List ByteArray) (s : ByteArray) : (dd out s).length ≤ out.length + 1 := by unfold dd; split <;> simp
theorem nmI_len (legs : List YLeg) (i : Nat) : (nmI legs i).length ≤ 2 * i := by
  have h : ∀ (b : List YLeg) (out : List ByteArray), (b.foldl (fun out l => dd (dd out l.from_) l.to_) out).length ≤ out.length + 2 * b.length := by
    intro b
    induction b with
    | nil => intro out; simp
    | cons x b ih =>
      intro out
      have h1 := ih (dd (dd out x.from_) x.to_)
      have h2 := dd_len (dd out x.from_) x.to_
      have h3 := dd_len out x.from_
      simp only [List.foldl_cons, List.length_cons]
      omega
  have h1 := h (legs.take i) []
  have h2 : (legs.take i).length ≤ i := List.length_take_le _ _
  simp only [List.length_nil] at h1
  unfold nmI
  omega
theorem sortStr_any (g cp n B : Nat) (zs : List ByteArray) (w : World) (ho : Own w B 9 (.slice (some ⟨g, 0, none⟩) n cp) zs) (hl : n = zs.length) (hn : n ≤ 4194304) :
    Calls Tryz.prog 206 #[.slice (some ⟨g, 0, none⟩) n cp] w fun e w' => e = .returned (.tuple #[]) ∧ Own w' B 9 (.slice (some ⟨g, 0, none⟩) n cp) (srtS zs) ∧ w.grownBy w' (some g) := by
  subst hl
  rcases ho.2 with ⟨h0, _⟩ | ⟨g', cap', cur, hv, hB, hg, hnc, hcm, hcs, ht⟩
  · cases h0
  · obtain ⟨rfl, rfl⟩ : g = g' ∧ cp = cap' := by simpa using hv
    have hss : (zs.map fun b : ByteArray => b.data.toList).length = zs.length := by simp
    have ht' : cur.toList.take (zs.map fun b : ByteArray => b.data.toList).length = (zs.map fun b : ByteArray => b.data.toList).map encStr := by
      have := ht
      rw [show Enc.k ByteArray = 1 from rfl, Nat.mul_one, flat_strs] at this
      rw [hss, this, List.map_map]
      apply List.map_congr_left
      intro b _
      rfl
    have hH := holds_of_block hg ht'
    have key := Tryz.sort_Strings g 0 cp _ w hH (Array.getElem?_eq_some_iff.1 hg).1 (by rw [hss]; omega)
    rw [hss] at key
    refine key.mono ?_
    rintro e w' ⟨rfl, m, os, rfl⟩
    have hs := ownsRow_sorted (n := m) (os := os) (ss := zs.map fun b : ByteArray => b.data.toList) (ts := (zs.map fun b : ByteArray => b.data.toList).mergeSort fun x y => decide (x ≤ y)) (by simp) hB hg (by simpa using hnc) hcm hcs
    refine ⟨rfl, ?_, grownBy_sorted _⟩
    unfold Own
    rw [srtS_len, flat_strs]
    rw [hss] at hs
    have e2 : (srtS zs).map Value.string = ((zs.map fun b : ByteArray => b.data.toList).mergeSort fun x y => decide (x ≤ y)).map encStr := by
      unfold srtS; rw [List.map_map]; rfl
    rw [e2]
    exact hs
set_option maxRecDepth 100000 in
theorem places_walk (A : Option Addr) (legs : List YLeg) (n c : Nat) (v2 v3 : Value) (w : World) (hr : Rd w w.heap.size A legs) (hl : n = legs.length) (hc : legs.length ≤ c) (hn : n ≤ 1048576) (hs : ∀ l ∈ legs, l.from_.size ≤ maxLen ∧ l.to_.size ≤ maxLen) :
    Calls Tryz.prog 141 #[.agg #[.slice A n c, v2, v3]] w fun e w' => ∃ v, e = .returned v ∧ Own w' w.heap.size 9 v (srtS (nmI legs legs.length)) ∧ Up w w' := by
  subst hl
  have hmm := @run_makeMap Tryz.prog
  go_enter Tryz.func141, Tryz.ntmps141
  go_wp2
  go_loopw [4, 14] (fun v i wr => ∃ j g cp : Nat, j ≤ legs.length ∧ i = .int .i64 j ∧ v = .slice (some ⟨g, 0, none⟩) (nmI legs j).length cp ∧ Own wr (w.heap.size + 2) 9 (.slice (some ⟨g, 0, none⟩) (nmI legs j).length cp) (nmI legs j) ∧ SetM Tryz.prog 9 4 wr (w.heap.size + 1) (2 * j) (nmI legs j) ∧ Up w wr) (fun _ i _ => legs.length - (intOf i).toNat)
  case atStart => exact ⟨0, w.heap.size + 1 + 1, 0, by omega, rfl, rfl, by have h_ := Own.empty (α := ByteArray) ((w.alloc (.cells #[.slice A legs.length c, v2, v3] 35)).alloc (.map #[] 0)) (w.heap.size + 2) 9 0 #[] (by simp) (by unfold maxLen; omega) rfl; simpa [nmI] using h_, by have h_ := (SetM.made (P := Tryz.prog) (k := 9) (e := 4) (w.alloc (.cells #[.slice A legs.length c, v2, v3] 35))).alloc (.cells #[] 9); simpa [nmI] using h_, by (repeat (first | exact Up.rfl' _ | (refine Up.al _ ?_) | (refine Up.dr _ ?_) | (refine Up.dr1 ?_) | (refine Up.sc ?_ (by first | exact Nat.le_refl _ | (simp; done) | omega) _) | (refine Up.step (by assumption) ?_)))⟩
  case round =>
    obtain ⟨i, g3, c3', hi, rfl, rfl, ho, hset, hb⟩ := hrel
    by_cases hlt : i < legs.length
    · obtain ⟨x, hx⟩ := get_of_lt hlt
      obtain ⟨b, off, rfl, hbb, c0, c1, c2, c3, c4, c5⟩ := (hr.below hb).leg hx
      have hlen := nmI_len legs i
      obtain ⟨hs1, hs2⟩ := hs x (List.mem_of_getElem? hx)
      have hgl := World.ownsRow.lt ho g3 rfl
      have HO := Lib.hid ho
      have HS := Lib.hid hset
      clear ho hset
      go_wp2_with fail
      generalize hwb : (wr.alloc _).alloc _ = wb
      have d0 : wb.cell? ⟨wr.heap.size + 1, 0, none⟩ = some (.string x.from_) := by rw [← hwb]; simp [go_sem]
      have d1 : wb.cell? ⟨wr.heap.size + 1, 1, none⟩ = some (.string x.to_) := by rw [← hwb]; simp [go_sem]
      have hub : Up wr wb := by rw [← hwb]; (repeat (first | exact Up.rfl' _ | (refine Up.al _ ?_) | (refine Up.dr _ ?_) | (refine Up.dr1 ?_) | (refine Up.sc ?_ (by first | exact Nat.le_refl _ | (simp; done) | omega) _) | (refine Up.step (by assumption) ?_)))
      have hsz : wr.heap.size + 2 ≤ wb.heap.size := by rw [← hwb]; simp
      have HS0 : Hid (SetM Tryz.prog 9 4 wb (w.heap.size + 1) (2 * i) (nmI legs i)) := Lib.hid (by rw [← hwb]; exact (HS.out.alloc _).alloc _)
      have HO0 := Lib.hid (HO.out.up hub)
      have hb0 : Up w wb := Up.step hub hb
      clear hwb c0 c1 c2 c3 c4 c5 HS HO
      have hw0 := hb.size
      have hx1 := nmI_next hx
      have hc0 := hb0
      cases h1 : inL (nmI legs i) x.from_ with
      | false =>
        cases h2 : inL (nmI legs i ++ [x.from_]) x.to_ with
        | false =>
          refine wp_loop_rounds 3 ?_
          rw [rounds_succ]
          go_wp2_with (first | (at_builtin; (have ho_ := HP2.out); go_loud (refine wpList_append_rd el_str rfl (.tmp 34) (.tmp 36) rfl (base := w.heap.size + 2) (ys := (nmI legs i ++ [x.from_])) (xs := [x.to_]) (by rfl) (ho_.up (by (repeat (first | exact Up.rfl' _ | (refine Up.al _ ?_) | (refine Up.dr _ ?_) | (refine Up.dr1 ?_) | (refine Up.sc ?_ (by first | exact Nat.le_refl _ | (simp; done) | omega) _) | (refine Up.step (by assumption) ?_))))) 1 (by rfl) rfl (Rd.oneAt _ _ (x.to_) _ (by simp)) (by simp; omega) (by unfold maxLen; simp; omega) (by simp; omega) ?_); intro v2 w2 ho2 hg_ _ hu_; go_loud (have HS2 := Lib.hid ((HT2.out.alloc _).kept hg_ (by intro hh; have h_ := World.ownsRow.lt ho_ _ hh.symm; omega)); have hc2 : Up w w2 := Below.grown (Up.al _ hd2) hg_ (by simp; omega) (fun k e => by have h_ := World.ownsRow.lt ho_ _ e; omega); have hz2b : w2a.heap.size + 1 ≤ w2.heap.size := (by have h_ := hg_.size; simpa using h_); have HO2 := Lib.hid ho2); clear ho2 ho_ hg_ hu_ HT2 HP2) | (at_mapUpdate; (have h_ := HS1.out); go_loud (refine wpList_update_set _ rfl _ _ _ 207 rfl 9 4 Tryz.underlying9 Tryz.underlying207 Tryz.underlying4 (w.heap.size + 1) (2 * i + 1) (nmI legs i ++ [x.from_]) rfl HS1.out (by unfold maxLen; omega) _ rfl rfl hs2 ?_); intro w2a hs_ hg_; go_loud (have HT2 := Lib.hid hs_; clear hs_; have HP2 := Lib.hid (HO1.out.grown hg_ (.inr (by intro hh; have h_ := World.ownsRow.lt HO1.out _ hh; omega))); have hd2 : Up w w2a := Below.grown hc1 hg_ hc1.size (fun k e => by cases e; omega); have hz2 := hg_.size; have hp2 := Nat.le_trans hc1.size hg_.size); clear hg_) | (at_lookup; have h_ := HS1.out; (refine wpList_lookup_set _ rfl _ _ 207 rfl 9 4 Tryz.underlying9 Tryz.underlying207 Tryz.underlying4 zero_bool (w.heap.size + 1) (2 * i + 1) (nmI legs i ++ [x.from_]) rfl HS1.out _ rfl hs2 _ h2 ?_)) | (at_builtin; (have ho_ := HP1.out); go_loud (refine wpList_append_rd el_str rfl (.tmp 34) (.tmp 36) rfl (base := w.heap.size + 2) (ys := (nmI legs i)) (xs := [x.from_]) (by rfl) (ho_.up (by (repeat (first | exact Up.rfl' _ | (refine Up.al _ ?_) | (refine Up.dr _ ?_) | (refine Up.dr1 ?_) | (refine Up.sc ?_ (by first | exact Nat.le_refl _ | (simp; done) | omega) _) | (refine Up.step (by assumption) ?_))))) 1 (by rfl) rfl (Rd.oneAt _ _ (x.from_) _ (by simp)) (by simp; omega) (by unfold maxLen; simp; omega) (by simp; omega) ?_); intro v1 w1 ho1 hg_ _ hu_; go_loud (have HS1 := Lib.hid ((HT1.out.alloc _).kept hg_ (by intro hh; have h_ := World.ownsRow.lt ho_ _ hh.symm; omega)); have hc1 : Up w w1 := Below.grown (Up.al _ hd1) hg_ (by simp; omega) (fun k e => by have h_ := World.ownsRow.lt ho_ _ e; omega); have d2 := (grown_cell hg_ (by simp; omega) (by intro hh; have h3_ : wr.heap.size + 1 = g3 := Option.some.inj hh; omega)).trans (al_cell dz1); have hz1b : w1a.heap.size + 1 ≤ w1.heap.size := (by have h_ := hg_.size; simpa using h_); have HO1 := Lib.hid ho1); clear ho1 ho_ hg_ hu_ HT1 HP1) | (at_mapUpdate; (have h_ := HS0.out); go_loud (refine wpList_update_set _ rfl _ _ _ 207 rfl 9 4 Tryz.underlying9 Tryz.underlying207 Tryz.underlying4 (w.heap.size + 1) (2 * i) (nmI legs i) rfl HS0.out (by unfold maxLen; omega) _ rfl rfl hs1 ?_); intro w1a hs_ hg_; go_loud (have HT1 := Lib.hid hs_; clear hs_; have HP1 := Lib.hid (HO0.out.grown hg_ (.inr (by intro hh; have h_ := World.ownsRow.lt HO0.out _ hh; omega))); have hd1 : Up w w1a := Below.grown hc0 hg_ hc0.size (fun k e => by cases e; omega); have hz1 := hg_.size; have dz1 := (grown_cell hg_ (by omega) (by intro hh; injection hh with hh; omega)).trans d1; have hp1 := Nat.le_trans hc0.size hg_.size); clear hg_) | (at_lookup; have h_ := HS0.out; (refine wpList_lookup_set _ rfl _ _ 207 rfl 9 4 Tryz.underlying9 Tryz.underlying207 Tryz.underlying4 zero_bool (w.heap.size + 1) (2 * i) (nmI legs i) rfl HS0.out _ rfl hs1 _ h1 ?_)))
          rw [rounds_succ]
          go_wp2_with (first | (at_builtin; (have ho_ := HP2.out); go_loud (refine wpList_append_rd el_str rfl (.tmp 34) (.tmp 36) rfl (base := w.heap.size + 2) (ys := (nmI legs i ++ [x.from_])) (xs := [x.to_]) (by rfl) (ho_.up (by (repeat (first | exact Up.rfl' _ | (refine Up.al _ ?_) | (refine Up.dr _ ?_) | (refine Up.dr1 ?_) | (refine Up.sc ?_ (by first | exact Nat.le_refl _ | (simp; done) | omega) _) | (refine Up.step (by assumption) ?_))))) 1 (by rfl) rfl (Rd.oneAt _ _ (x.to_) _ (by simp)) (by simp; omega) (by unfold maxLen; simp; omega) (by simp; omega) ?_); intro v2 w2 ho2 hg_ _ hu_; go_loud (have HS2 := Lib.hid ((HT2.out.alloc _).kept hg_ (by intro hh; have h_ := World.ownsRow.lt ho_ _ hh.symm; omega)); have hc2 : Up w w2 := Below.grown (Up.al _ hd2) hg_ (by simp; omega) (fun k e => by have h_ := World.ownsRow.lt ho_ _ e; omega); have hz2b : w2a.heap.size + 1 ≤ w2.heap.size := (by have h_ := hg_.size; simpa using h_); have HO2 := Lib.hid ho2); clear ho2 ho_ hg_ hu_ HT2 HP2) | (at_mapUpdate; (have h_ := HS1.out); go_loud (refine wpList_update_set _ rfl _ _ _ 207 rfl 9 4 Tryz.underlying9 Tryz.underlying207 Tryz.underlying4 (w.heap.size + 1) (2 * i + 1) (nmI legs i ++ [x.from_]) rfl HS1.out (by unfold maxLen; omega) _ rfl rfl hs2 ?_); intro w2a hs_ hg_; go_loud (have HT2 := Lib.hid hs_; clear hs_; have HP2 := Lib.hid (HO1.out.grown hg_ (.inr (by intro hh; have h_ := World.ownsRow.lt HO1.out _ hh; omega))); have hd2 : Up w w2a := Below.grown hc1 hg_ hc1.size (fun k e => by cases e; omega); have hz2 := hg_.size; have hp2 := Nat.le_trans hc1.size hg_.size); clear hg_) | (at_lookup; have h_ := HS1.out; (refine wpList_lookup_set _ rfl _ _ 207 rfl 9 4 Tryz.underlying9 Tryz.underlying207 Tryz.underlying4 zero_bool (w.heap.size + 1) (2 * i + 1) (nmI legs i ++ [x.from_]) rfl HS1.out _ rfl hs2 _ h2 ?_)) | (at_builtin; (have ho_ := HP1.out); go_loud (refine wpList_append_rd el_str rfl (.tmp 34) (.tmp 36) rfl (base := w.heap.size + 2) (ys := (nmI legs i)) (xs := [x.from_]) (by rfl) (ho_.up (by (repeat (first | exact Up.rfl' _ | (refine Up.al _ ?_) | (refine Up.dr _ ?_) | (refine Up.dr1 ?_) | (refine Up.sc ?_ (by first | exact Nat.le_refl _ | (simp; done) | omega) _) | (refine Up.step (by assumption) ?_))))) 1 (by rfl) rfl (Rd.oneAt _ _ (x.from_) _ (by simp)) (by simp; omega) (by unfold maxLen; simp; omega) (by simp; omega) ?_); intro v1 w1 ho1 hg_ _ hu_; go_loud (have HS1 := Lib.hid ((HT1.out.alloc _).kept hg_ (by intro hh; have h_ := World.ownsRow.lt ho_ _ hh.symm; omega)); have hc1 : Up w w1 := Below.grown (Up.al _ hd1) hg_ (by simp; omega) (fun k e => by have h_ := World.ownsRow.lt ho_ _ e; omega); have d2 := (grown_cell hg_ (by simp; omega) (by intro hh; have h3_ : wr.heap.size + 1 = g3 := Option.some.inj hh; omega)).trans (al_cell dz1); have hz1b : w1a.heap.size + 1 ≤ w1.heap.size := (by have h_ := hg_.size; simpa using h_); have HO1 := Lib.hid ho1); clear ho1 ho_ hg_ hu_ HT1 HP1) | (at_mapUpdate; (have h_ := HS0.out); go_loud (refine wpList_update_set _ rfl _ _ _ 207 rfl 9 4 Tryz.underlying9 Tryz.underlying207 Tryz.underlying4 (w.heap.size + 1) (2 * i) (nmI legs i) rfl HS0.out (by unfold maxLen; omega) _ rfl rfl hs1 ?_); intro w1a hs_ hg_; go_loud (have HT1 := Lib.hid hs_; clear hs_; have HP1 := Lib.hid (HO0.out.grown hg_ (.inr (by intro hh; have h_ := World.ownsRow.lt HO0.out _ hh; omega))); have hd1 : Up w w1a := Below.grown hc0 hg_ hc0.size (fun k e => by cases e; omega); have hz1 := hg_.size; have dz1 := (grown_cell hg_ (by omega) (by intro hh; injection hh with hh; omega)).trans d1; have hp1 := Nat.le_trans hc0.size hg_.size); clear hg_) | (at_lookup; have h_ := HS0.out; (refine wpList_lookup_set _ rfl _ _ 207 rfl 9 4 Tryz.underlying9 Tryz.underlying207 Tryz.underlying4 zero_bool (w.heap.size + 1) (2 * i) (nmI legs i) rfl HS0.out _ rfl hs1 _ h1 ?_)))
          rw [rounds_succ]
          go_wp2_with (first | (at_builtin; (have ho_ := HP2.out); go_loud (refine wpList_append_rd el_str rfl (.tmp 34) (.tmp 36) rfl (base := w.heap.size + 2) (ys := (nmI legs i ++ [x.from_])) (xs := [x.to_]) (by rfl) (ho_.up (by (repeat (first | exact Up.rfl' _ | (refine Up.al _ ?_) | (refine Up.dr _ ?_) | (refine Up.dr1 ?_) | (refine Up.sc ?_ (by first | exact Nat.le_refl _ | (simp; done) | omega) _) | (refine Up.step (by assumption) ?_))))) 1 (by rfl) rfl (Rd.oneAt _ _ (x.to_) _ (by simp)) (by simp; omega) (by unfold maxLen; simp; omega) (by simp; omega) ?_); intro v2 w2 ho2 hg_ _ hu_; go_loud (have HS2 := Lib.hid ((HT2.out.alloc _).kept hg_ (by intro hh; have h_ := World.ownsRow.lt ho_ _ hh.symm; omega)); have hc2 : Up w w2 := Below.grown (Up.al _ hd2) hg_ (by simp; omega) (fun k e => by have h_ := World.ownsRow.lt ho_ _ e; omega); have hz2b : w2a.heap.size + 1 ≤ w2.heap.size := (by have h_ := hg_.size; simpa using h_); have HO2 := Lib.hid ho2); clear ho2 ho_ hg_ hu_ HT2 HP2) | (at_mapUpdate; (have h_ := HS1.out); go_loud (refine wpList_update_set _ rfl _ _ _ 207 rfl 9 4 Tryz.underlying9 Tryz.underlying207 Tryz.underlying4 (w.heap.size + 1) (2 * i + 1) (nmI legs i ++ [x.from_]) rfl HS1.out (by unfold maxLen; omega) _ rfl rfl hs2 ?_); intro w2a hs_ hg_; go_loud (have HT2 := Lib.hid hs_; clear hs_; have HP2 := Lib.hid (HO1.out.grown hg_ (.inr (by intro hh; have h_ := World.ownsRow.lt HO1.out _ hh; omega))); have hd2 : Up w w2a := Below.grown hc1 hg_ hc1.size (fun k e => by cases e; omega); have hz2 := hg_.size; have hp2 := Nat.le_trans hc1.size hg_.size); clear hg_) | (at_lookup; have h_ := HS1.out; (refine wpList_lookup_set _ rfl _ _ 207 rfl 9 4 Tryz.underlying9 Tryz.underlying207 Tryz.underlying4 zero_bool (w.heap.size + 1) (2 * i + 1) (nmI legs i ++ [x.from_]) rfl HS1.out _ rfl hs2 _ h2 ?_)) | (at_builtin; (have ho_ := HP1.out); go_loud (refine wpList_append_rd el_str rfl (.tmp 34) (.tmp 36) rfl (base := w.heap.size + 2) (ys := (nmI legs i)) (xs := [x.from_]) (by rfl) (ho_.up (by (repeat (first | exact Up.rfl' _ | (refine Up.al _ ?_) | (refine Up.dr _ ?_) | (refine Up.dr1 ?_) | (refine Up.sc ?_ (by first | exact Nat.le_refl _ | (simp; done) | omega) _) | (refine Up.step (by assumption) ?_))))) 1 (by rfl) rfl (Rd.oneAt _ _ (x.from_) _ (by simp)) (by simp; omega) (by unfold maxLen; simp; omega) (by simp; omega) ?_); intro v1 w1 ho1 hg_ _ hu_; go_loud (have HS1 := Lib.hid ((HT1.out.alloc _).kept hg_ (by intro hh; have h_ := World.ownsRow.lt ho_ _ hh.symm; omega)); have hc1 : Up w w1 := Below.grown (Up.al _ hd1) hg_ (by simp; omega) (fun k e => by have h_ := World.ownsRow.lt ho_ _ e; omega); have d2 := (grown_cell hg_ (by simp; omega) (by intro hh; have h3_ : wr.heap.size + 1 = g3 := Option.some.inj hh; omega)).trans (al_cell dz1); have hz1b : w1a.heap.size + 1 ≤ w1.heap.size := (by have h_ := hg_.size; simpa using h_); have HO1 := Lib.hid ho1); clear ho1 ho_ hg_ hu_ HT1 HP1) | (at_mapUpdate; (have h_ := HS0.out); go_loud (refine wpList_update_set _ rfl _ _ _ 207 rfl 9 4 Tryz.underlying9 Tryz.underlying207 Tryz.underlying4 (w.heap.size + 1) (2 * i) (nmI legs i) rfl HS0.out (by unfold maxLen; omega) _ rfl rfl hs1 ?_); intro w1a hs_ hg_; go_loud (have HT1 := Lib.hid hs_; clear hs_; have HP1 := Lib.hid (HO0.out.grown hg_ (.inr (by intro hh; have h_ := World.ownsRow.lt HO0.out _ hh; omega))); have hd1 : Up w w1a := Below.grown hc0 hg_ hc0.size (fun k e => by cases e; omega); have hz1 := hg_.size; have dz1 := (grown_cell hg_ (by omega) (by intro hh; injection hh with hh; omega)).trans d1; have hp1 := Nat.le_trans hc0.size hg_.size); clear hg_) | (at_lookup; have h_ := HS0.out; (refine wpList_lookup_set _ rfl _ _ 207 rfl 9 4 Tryz.underlying9 Tryz.underlying207 Tryz.underlying4 zero_bool (w.heap.size + 1) (2 * i) (nmI legs i) rfl HS0.out _ rfl hs1 _ h1 ?_)))
          have hfin : nmI legs (i + 1) = (nmI legs i ++ [x.from_] ++ [x.to_]) := by rw [hx1]; simp [dd, h1, h2]
          have hoF := HO2.out
          obtain ⟨g4, c4, hv4, _⟩ := World.ownsRow.form hoF (by simp)
          exact ⟨⟨i + 1, g4, c4, by omega, by go_num, by rw [hfin]; exact hv4, by rw [hfin, ← hv4]; exact hoF, by rw [hfin]; exact HS2.out.mono (by omega), hc2⟩, by simp [intOf]; omega⟩
        | true =>
          refine wp_loop_rounds 3 ?_
          rw [rounds_succ]
          go_wp2_with (first | (at_lookup; have h_ := HS1.out; (refine wpList_lookup_set _ rfl _ _ 207 rfl 9 4 Tryz.underlying9 Tryz.underlying207 Tryz.underlying4 zero_bool (w.heap.size + 1) (2 * i + 1) (nmI legs i ++ [x.from_]) rfl HS1.out _ rfl hs2 _ h2 ?_)) | (at_builtin; (have ho_ := HP1.out); go_loud (refine wpList_append_rd el_str rfl (.tmp 34) (.tmp 36) rfl (base := w.heap.size + 2) (ys := (nmI legs i)) (xs := [x.from_]) (by rfl) (ho_.up (by (repeat (first | exact Up.rfl' _ | (refine Up.al _ ?_) | (refine Up.dr _ ?_) | (refine Up.dr1 ?_) | (refine Up.sc ?_ (by first | exact Nat.le_refl _ | (simp; done) | omega) _) | (refine Up.step (by assumption) ?_))))) 1 (by rfl) rfl (Rd.oneAt _ _ (x.from_) _ (by simp)) (by simp; omega) (by unfold maxLen; simp; omega) (by simp; omega) ?_); intro v1 w1 ho1 hg_ _ hu_; go_loud (have HS1 := Lib.hid ((HT1.out.alloc _).kept hg_ (by intro hh; have h_ := World.ownsRow.lt ho_ _ hh.symm; omega)); have hc1 : Up w w1 := Below.grown (Up.al _ hd1) hg_ (by simp; omega) (fun k e => by have h_ := World.ownsRow.lt ho_ _ e; omega); have d2 := (grown_cell hg_ (by simp; omega) (by intro hh; have h3_ : wr.heap.size + 1 = g3 := Option.some.inj hh; omega)).trans (al_cell dz1); have hz1b : w1a.heap.size + 1 ≤ w1.heap.size := (by have h_ := hg_.size; simpa using h_); have HO1 := Lib.hid ho1); clear ho1 ho_ hg_ hu_ HT1 HP1) | (at_mapUpdate; (have h_ := HS0.out); go_loud (refine wpList_update_set _ rfl _ _ _ 207 rfl 9 4 Tryz.underlying9 Tryz.underlying207 Tryz.underlying4 (w.heap.size + 1) (2 * i) (nmI legs i) rfl HS0.out (by unfold maxLen; omega) _ rfl rfl hs1 ?_); intro w1a hs_ hg_; go_loud (have HT1 := Lib.hid hs_; clear hs_; have HP1 := Lib.hid (HO0.out.grown hg_ (.inr (by intro hh; have h_ := World.ownsRow.lt HO0.out _ hh; omega))); have hd1 : Up w w1a := Below.grown hc0 hg_ hc0.size (fun k e => by cases e; omega); have hz1 := hg_.size; have dz1 := (grown_cell hg_ (by omega) (by intro hh; injection hh with hh; omega)).trans d1; have hp1 := Nat.le_trans hc0.size hg_.size); clear hg_) | (at_lookup; have h_ := HS0.out; (refine wpList_lookup_set _ rfl _ _ 207 rfl 9 4 Tryz.underlying9 Tryz.underlying207 Tryz.underlying4 zero_bool (w.heap.size + 1) (2 * i) (nmI legs i) rfl HS0.out _ rfl hs1 _ h1 ?_)))
          rw [rounds_succ]
          go_wp2_with (first | (at_lookup; have h_ := HS1.out; (refine wpList_lookup_set _ rfl _ _ 207 rfl 9 4 Tryz.underlying9 Tryz.underlying207 Tryz.underlying4 zero_bool (w.heap.size + 1) (2 * i + 1) (nmI legs i ++ [x.from_]) rfl HS1.out _ rfl hs2 _ h2 ?_)) | (at_builtin; (have ho_ := HP1.out); go_loud (refine wpList_append_rd el_str rfl (.tmp 34) (.tmp 36) rfl (base := w.heap.size + 2) (ys := (nmI legs i)) (xs := [x.from_]) (by rfl) (ho_.up (by (repeat (first | exact Up.rfl' _ | (refine Up.al _ ?_) | (refine Up.dr _ ?_) | (refine Up.dr1 ?_) | (refine Up.sc ?_ (by first | exact Nat.le_refl _ | (simp; done) | omega) _) | (refine Up.step (by assumption) ?_))))) 1 (by rfl) rfl (Rd.oneAt _ _ (x.from_) _ (by simp)) (by simp; omega) (by unfold maxLen; simp; omega) (by simp; omega) ?_); intro v1 w1 ho1 hg_ _ hu_; go_loud (have HS1 := Lib.hid ((HT1.out.alloc _).kept hg_ (by intro hh; have h_ := World.ownsRow.lt ho_ _ hh.symm; omega)); have hc1 : Up w w1 := Below.grown (Up.al _ hd1) hg_ (by simp; omega) (fun k e => by have h_ := World.ownsRow.lt ho_ _ e; omega); have d2 := (grown_cell hg_ (by simp; omega) (by intro hh; have h3_ : wr.heap.size + 1 = g3 := Option.some.inj hh; omega)).trans (al_cell dz1); have hz1b : w1a.heap.size + 1 ≤ w1.heap.size := (by have h_ := hg_.size; simpa using h_); have HO1 := Lib.hid ho1); clear ho1 ho_ hg_ hu_ HT1 HP1) | (at_mapUpdate; (have h_ := HS0.out); go_loud (refine wpList_update_set _ rfl _ _ _ 207 rfl 9 4 Tryz.underlying9 Tryz.underlying207 Tryz.underlying4 (w.heap.size + 1) (2 * i) (nmI legs i) rfl HS0.out (by unfold maxLen; omega) _ rfl rfl hs1 ?_); intro w1a hs_ hg_; go_loud (have HT1 := Lib.hid hs_; clear hs_; have HP1 := Lib.hid (HO0.out.grown hg_ (.inr (by intro hh; have h_ := World.ownsRow.lt HO0.out _ hh; omega))); have hd1 : Up w w1a := Below.grown hc0 hg_ hc0.size (fun k e => by cases e; omega); have hz1 := hg_.size; have dz1 := (grown_cell hg_ (by omega) (by intro hh; injection hh with hh; omega)).trans d1; have hp1 := Nat.le_trans hc0.size hg_.size); clear hg_) | (at_lookup; have h_ := HS0.out; (refine wpList_lookup_set _ rfl _ _ 207 rfl 9 4 Tryz.underlying9 Tryz.underlying207 Tryz.underlying4 zero_bool (w.heap.size + 1) (2 * i) (nmI legs i) rfl HS0.out _ rfl hs1 _ h1 ?_)))
          rw [rounds_succ]
          go_wp2_with (first | (at_lookup; have h_ := HS1.out; (refine wpList_lookup_set _ rfl _ _ 207 rfl 9 4 Tryz.underlying9 Tryz.underlying207 Tryz.underlying4 zero_bool (w.heap.size + 1) (2 * i + 1) (nmI legs i ++ [x.from_]) rfl HS1.out _ rfl hs2 _ h2 ?_)) | (at_builtin; (have ho_ := HP1.out); go_loud (refine wpList_append_rd el_str rfl (.tmp 34) (.tmp 36) rfl (base := w.heap.size + 2) (ys := (nmI legs i)) (xs := [x.from_]) (by rfl) (ho_.up (by (repeat (first | exact Up.rfl' _ | (refine Up.al _ ?_) | (refine Up.dr _ ?_) | (refine Up.dr1 ?_) | (refine Up.sc ?_ (by first | exact Nat.le_refl _ | (simp; done) | omega) _) | (refine Up.step (by assumption) ?_))))) 1 (by rfl) rfl (Rd.oneAt _ _ (x.from_) _ (by simp)) (by simp; omega) (by unfold maxLen; simp; omega) (by simp; omega) ?_); intro v1 w1 ho1 hg_ _ hu_; go_loud (have HS1 := Lib.hid ((HT1.out.alloc _).kept hg_ (by intro hh; have h_ := World.ownsRow.lt ho_ _ hh.symm; omega)); have hc1 : Up w w1 := Below.grown (Up.al _ hd1) hg_ (by simp; omega) (fun k e => by have h_ := World.ownsRow.lt ho_ _ e; omega); have d2 := (grown_cell hg_ (by simp; omega) (by intro hh; have h3_ : wr.heap.size + 1 = g3 := Option.some.inj hh; omega)).trans (al_cell dz1); have hz1b : w1a.heap.size + 1 ≤ w1.heap.size := (by have h_ := hg_.size; simpa using h_); have HO1 := Lib.hid ho1); clear ho1 ho_ hg_ hu_ HT1 HP1) | (at_mapUpdate; (have h_ := HS0.out); go_loud (refine wpList_update_set _ rfl _ _ _ 207 rfl 9 4 Tryz.underlying9 Tryz.underlying207 Tryz.underlying4 (w.heap.size + 1) (2 * i) (nmI legs i) rfl HS0.out (by unfold maxLen; omega) _ rfl rfl hs1 ?_); intro w1a hs_ hg_; go_loud (have HT1 := Lib.hid hs_; clear hs_; have HP1 := Lib.hid (HO0.out.grown hg_ (.inr (by intro hh; have h_ := World.ownsRow.lt HO0.out _ hh; omega))); have hd1 : Up w w1a := Below.grown hc0 hg_ hc0.size (fun k e => by cases e; omega); have hz1 := hg_.size; have dz1 := (grown_cell hg_ (by omega) (by intro hh; injection hh with hh; omega)).trans d1; have hp1 := Nat.le_trans hc0.size hg_.size); clear hg_) | (at_lookup; have h_ := HS0.out; (refine wpList_lookup_set _ rfl _ _ 207 rfl 9 4 Tryz.underlying9 Tryz.underlying207 Tryz.underlying4 zero_bool (w.heap.size + 1) (2 * i) (nmI legs i) rfl HS0.out _ rfl hs1 _ h1 ?_)))
          have hfin : nmI legs (i + 1) = (nmI legs i ++ [x.from_]) := by rw [hx1]; simp [dd, h1, h2]
          have hoF := HO1.out
          obtain ⟨g4, c4, hv4, _⟩ := World.ownsRow.form hoF (by simp)
          exact ⟨⟨i + 1, g4, c4, by omega, by go_num, by rw [hfin]; exact hv4, by rw [hfin, ← hv4]; exact hoF, by rw [hfin]; exact HS1.out.mono (by omega), hc1⟩, by simp [intOf]; omega⟩
      | true =>
        cases h2 : inL (nmI legs i) x.to_ with
        | false =>
          refine wp_loop_rounds 3 ?_
          rw [rounds_succ]
          go_wp2_with (first | (at_lookup; have h_ := HS0.out; (refine wpList_lookup_set _ rfl _ _ 207 rfl 9 4 Tryz.underlying9 Tryz.underlying207 Tryz.underlying4 zero_bool (w.heap.size + 1) (2 * i) (nmI legs i) rfl HS0.out _ rfl hs1 _ h1 ?_)) | (at_lookup; have h_ := HS0.out; (refine wpList_lookup_set _ rfl _ _ 207 rfl 9 4 Tryz.underlying9 Tryz.underlying207 Tryz.underlying4 zero_bool (w.heap.size + 1) (2 * i) (nmI legs i) rfl HS0.out _ rfl hs2 _ h2 ?_)) | (at_mapUpdate; (have h_ := HS0.out); go_loud (refine wpList_update_set _ rfl _ _ _ 207 rfl 9 4 Tryz.underlying9 Tryz.underlying207 Tryz.underlying4 (w.heap.size + 1) (2 * i) (nmI legs i) rfl HS0.out (by unfold maxLen; omega) _ rfl rfl hs2 ?_); intro w2a hs_ hg_; go_loud (have HT2 := Lib.hid hs_; clear hs_; have HP2 := Lib.hid (HO0.out.grown hg_ (.inr (by intro hh; have h_ := World.ownsRow.lt HO0.out _ hh; omega))); have hd2 : Up w w2a := Below.grown hc0 hg_ hc0.size (fun k e => by cases e; omega); have hz2 := hg_.size; have hp2 := Nat.le_trans hc0.size hg_.size); clear hg_) | (at_builtin; (have ho_ := HP2.out); go_loud (refine wpList_append_rd el_str rfl (.tmp 34) (.tmp 36) rfl (base := w.heap.size + 2) (ys := (nmI legs i)) (xs := [x.to_]) (by rfl) (ho_.up (by (repeat (first | exact Up.rfl' _ | (refine Up.al _ ?_) | (refine Up.dr _ ?_) | (refine Up.dr1 ?_) | (refine Up.sc ?_ (by first | exact Nat.le_refl _ | (simp; done) | omega) _) | (refine Up.step (by assumption) ?_))))) 1 (by rfl) rfl (Rd.oneAt _ _ (x.to_) _ (by simp)) (by simp; omega) (by unfold maxLen; simp; omega) (by simp; omega) ?_); intro v2 w2 ho2 hg_ _ hu_; go_loud (have HS2 := Lib.hid ((HT2.out.alloc _).kept hg_ (by intro hh; have h_ := World.ownsRow.lt ho_ _ hh.symm; omega)); have hc2 : Up w w2 := Below.grown (Up.al _ hd2) hg_ (by simp; omega) (fun k e => by have h_ := World.ownsRow.lt ho_ _ e; omega); have hz2b : w2a.heap.size + 1 ≤ w2.heap.size := (by have h_ := hg_.size; simpa using h_); have HO2 := Lib.hid ho2); clear ho2 ho_ hg_ hu_ HT2 HP2))
          rw [rounds_succ]
          go_wp2_with (first | (at_lookup; have h_ := HS0.out; (refine wpList_lookup_set _ rfl _ _ 207 rfl 9 4 Tryz.underlying9 Tryz.underlying207 Tryz.underlying4 zero_bool (w.heap.size + 1) (2 * i) (nmI legs i) rfl HS0.out _ rfl hs1 _ h1 ?_)) | (at_lookup; have h_ := HS0.out; (refine wpList_lookup_set _ rfl _ _ 207 rfl 9 4 Tryz.underlying9 Tryz.underlying207 Tryz.underlying4 zero_bool (w.heap.size + 1) (2 * i) (nmI legs i) rfl HS0.out _ rfl hs2 _ h2 ?_)) | (at_mapUpdate; (have h_ := HS0.out); go_loud (refine wpList_update_set _ rfl _ _ _ 207 rfl 9 4 Tryz.underlying9 Tryz.underlying207 Tryz.underlying4 (w.heap.size + 1) (2 * i) (nmI legs i) rfl HS0.out (by unfold maxLen; omega) _ rfl rfl hs2 ?_); intro w2a hs_ hg_; go_loud (have HT2 := Lib.hid hs_; clear hs_; have HP2 := Lib.hid (HO0.out.grown hg_ (.inr (by intro hh; have h_ := World.ownsRow.lt HO0.out _ hh; omega))); have hd2 : Up w w2a := Below.grown hc0 hg_ hc0.size (fun k e => by cases e; omega); have hz2 := hg_.size; have hp2 := Nat.le_trans hc0.size hg_.size); clear hg_) | (at_builtin; (have ho_ := HP2.out); go_loud (refine wpList_append_rd el_str rfl (.tmp 34) (.tmp 36) rfl (base := w.heap.size + 2) (ys := (nmI legs i)) (xs := [x.to_]) (by rfl) (ho_.up (by (repeat (first | exact Up.rfl' _ | (refine Up.al _ ?_) | (refine Up.dr _ ?_) | (refine Up.dr1 ?_) | (refine Up.sc ?_ (by first | exact Nat.le_refl _ | (simp; done) | omega) _) | (refine Up.step (by assumption) ?_))))) 1 (by rfl) rfl (Rd.oneAt _ _ (x.to_) _ (by simp)) (by simp; omega) (by unfold maxLen; simp; omega) (by simp; omega) ?_); intro v2 w2 ho2 hg_ _ hu_; go_loud (have HS2 := Lib.hid ((HT2.out.alloc _).kept hg_ (by intro hh; have h_ := World.ownsRow.lt ho_ _ hh.symm; omega)); have hc2 : Up w w2 := Below.grown (Up.al _ hd2) hg_ (by simp; omega) (fun k e => by have h_ := World.ownsRow.lt ho_ _ e; omega); have hz2b : w2a.heap.size + 1 ≤ w2.heap.size := (by have h_ := hg_.size; simpa using h_); have HO2 := Lib.hid ho2); clear ho2 ho_ hg_ hu_ HT2 HP2))
          rw [rounds_succ]
          go_wp2_with (first | (at_lookup; have h_ := HS0.out; (refine wpList_lookup_set _ rfl _ _ 207 rfl 9 4 Tryz.underlying9 Tryz.underlying207 Tryz.underlying4 zero_bool (w.heap.size + 1) (2 * i) (nmI legs i) rfl HS0.out _ rfl hs1 _ h1 ?_)) | (at_lookup; have h_ := HS0.out; (refine wpList_lookup_set _ rfl _ _ 207 rfl 9 4 Tryz.underlying9 Tryz.underlying207 Tryz.underlying4 zero_bool (w.heap.size + 1) (2 * i) (nmI legs i) rfl HS0.out _ rfl hs2 _ h2 ?_)) | (at_mapUpdate; (have h_ := HS0.out); go_loud (refine wpList_update_set _ rfl _ _ _ 207 rfl 9 4 Tryz.underlying9 Tryz.underlying207 Tryz.underlying4 (w.heap.size + 1) (2 * i) (nmI legs i) rfl HS0.out (by unfold maxLen; omega) _ rfl rfl hs2 ?_); intro w2a hs_ hg_; go_loud (have HT2 := Lib.hid hs_; clear hs_; have HP2 := Lib.hid (HO0.out.grown hg_ (.inr (by intro hh; have h_ := World.ownsRow.lt HO0.out _ hh; omega))); have hd2 : Up w w2a := Below.grown hc0 hg_ hc0.size (fun k e => by cases e; omega); have hz2 := hg_.size; have hp2 := Nat.le_trans hc0.size hg_.size); clear hg_) | (at_builtin; (have ho_ := HP2.out); go_loud (refine wpList_append_rd el_str rfl (.tmp 34) (.tmp 36) rfl (base := w.heap.size + 2) (ys := (nmI legs i)) (xs := [x.to_]) (by rfl) (ho_.up (by (repeat (first | exact Up.rfl' _ | (refine Up.al _ ?_) | (refine Up.dr _ ?_) | (refine Up.dr1 ?_) | (refine Up.sc ?_ (by first | exact Nat.le_refl _ | (simp; done) | omega) _) | (refine Up.step (by assumption) ?_))))) 1 (by rfl) rfl (Rd.oneAt _ _ (x.to_) _ (by simp)) (by simp; omega) (by unfold maxLen; simp; omega) (by simp; omega) ?_); intro v2 w2 ho2 hg_ _ hu_; go_loud (have HS2 := Lib.hid ((HT2.out.alloc _).kept hg_ (by intro hh; have h_ := World.ownsRow.lt ho_ _ hh.symm; omega)); have hc2 : Up w w2 := Below.grown (Up.al _ hd2) hg_ (by simp; omega) (fun k e => by have h_ := World.ownsRow.lt ho_ _ e; omega); have hz2b : w2a.heap.size + 1 ≤ w2.heap.size := (by have h_ := hg_.size; simpa using h_); have HO2 := Lib.hid ho2); clear ho2 ho_ hg_ hu_ HT2 HP2))
          have hfin : nmI legs (i + 1) = (nmI legs i ++ [x.to_]) := by rw [hx1]; simp [dd, h1, h2]
          have hoF := HO2.out
          obtain ⟨g4, c4, hv4, _⟩ := World.ownsRow.form hoF (by simp)
          exact ⟨⟨i + 1, g4, c4, by omega, by go_num, by rw [hfin]; exact hv4, by rw [hfin, ← hv4]; exact hoF, by rw [hfin]; exact HS2.out.mono (by omega), hc2⟩, by simp [intOf]; omega⟩
        | true =>
          refine wp_loop_rounds 3 ?_
          rw [rounds_succ]
          go_wp2_with (first | (at_lookup; have h_ := HS0.out; (refine wpList_lookup_set _ rfl _ _ 207 rfl 9 4 Tryz.underlying9 Tryz.underlying207 Tryz.underlying4 zero_bool (w.heap.size + 1) (2 * i) (nmI legs i) rfl HS0.out _ rfl hs1 _ h1 ?_)) | (at_lookup; have h_ := HS0.out; (refine wpList_lookup_set _ rfl _ _ 207 rfl 9 4 Tryz.underlying9 Tryz.underlying207 Tryz.underlying4 zero_bool (w.heap.size + 1) (2 * i) (nmI legs i) rfl HS0.out _ rfl hs2 _ h2 ?_)))
          rw [rounds_succ]
          go_wp2_with (first | (at_lookup; have h_ := HS0.out; (refine wpList_lookup_set _ rfl _ _ 207 rfl 9 4 Tryz.underlying9 Tryz.underlying207 Tryz.underlying4 zero_bool (w.heap.size + 1) (2 * i) (nmI legs i) rfl HS0.out _ rfl hs1 _ h1 ?_)) | (at_lookup; have h_ := HS0.out; (refine wpList_lookup_set _ rfl _ _ 207 rfl 9 4 Tryz.underlying9 Tryz.underlying207 Tryz.underlying4 zero_bool (w.heap.size + 1) (2 * i) (nmI legs i) rfl HS0.out _ rfl hs2 _ h2 ?_)))
          rw [rounds_succ]
          go_wp2_with (first | (at_lookup; have h_ := HS0.out; (refine wpList_lookup_set _ rfl _ _ 207 rfl 9 4 Tryz.underlying9 Tryz.underlying207 Tryz.underlying4 zero_bool (w.heap.size + 1) (2 * i) (nmI legs i) rfl HS0.out _ rfl hs1 _ h1 ?_)) | (at_lookup; have h_ := HS0.out; (refine wpList_lookup_set _ rfl _ _ 207 rfl 9 4 Tryz.underlying9 Tryz.underlying207 Tryz.underlying4 zero_bool (w.heap.size + 1) (2 * i) (nmI legs i) rfl HS0.out _ rfl hs2 _ h2 ?_)))
          have hfin : nmI legs (i + 1) = (nmI legs i) := by rw [hx1]; simp [dd, h1, h2]
          exact ⟨⟨i + 1, g3, c3', by omega, by go_num, by rw [hfin], by rw [hfin]; exact HO0.out, by rw [hfin]; exact HS0.out.mono (by omega), hc0⟩, by simp [intOf]; omega⟩
    · obtain rfl : i = legs.length := by omega
      have hlen := nmI_len legs legs.length
      go_wp2_with fail
      refine (sortStr_any g3 c3' _ _ (nmI legs legs.length) _ ho rfl (by omega)).mono ?_
      rintro e w1 ⟨rfl, ho1, hg1⟩
      have hu1 : Up w w1 := Below.grown hb hg1 hb.size (fun k e => by cases e; have h_ := World.ownsRow.lt ho g3 rfl; omega)
      go_wp2_with fail
      go_ret
      exact ⟨_, rfl, by simpa [srtS_len] using ho1.more (by omega), hu1⟩
end Go.Proofs.YtmcdjilbkmhfoaaGreat
namespace Go.Proofs.YtmcdjilbkmhfoaaGreat
set_option maxRecDepth 10000
open Go.RowKit
set_option linter.unusedVariables false
set_option linter.unusedSimpArgs false
theorem ms_of_own {α : Type} [Enc α] {c : α → List PV} {T : TypeId} {S : Nat → Prop} {β : Nat → Option Blk} {w w' : World} {v : Value} {ys : List α} (hk : Ok w (own0 β) (E1 S β 0) w []) (ho : Own w' w.heap.size T v ys) (hu : Up w w')
    (hc : ∀ (x : α), (c x).length = Enc.k α ∧ ∀ (j : Nat) (p : PV), (c x)[j]? = some p → ∃ u, (Enc.cells x)[j]? = some u ∧ u.oneCell' = true ∧ ∀ (w : World) (E : Env), Rep w E p u) :
    ∃ E', Ok w (own0 β) E' w' [some ⟨T, Enc.k α, ys.map c⟩] ∧ (∀ b, S b → E'.S b) ∧ (∀ b, E'.S b → S b ∨ w.heap.size ≤ b ∨ own0 β b) ∧ (∀ l B, l < 0 → E'.β l = some B → β l = some B) ∧ Rep w' E' (.ms 0) v := by
  have hesl : ∀ (i : Nat) (cs : List PV), (ys.map c)[i]? = some cs → cs.length = Enc.k α := by
    intro i cs hi
    rw [List.getElem?_map] at hi
    obtain ⟨y, _, rfl⟩ := Option.map_eq_some_iff.1 hi
    exact (hc y).1
  have key : ∀ (B : Blk), v = B.sv → v.oneCell' = true → (B.z = false → w.heap.size ≤ B.b ∧ B.b < w'.heap.size) → (∀ E, BlkRep w' E ⟨T, Enc.k α, ys.map c⟩ B) →
      ∃ E', Ok w (own0 β) E' w' [some ⟨T, Enc.k α, ys.map c⟩] ∧ (∀ b, S b → E'.S b) ∧ (∀ b, E'.S b → S b ∨ w.heap.size ≤ b ∨ own0 β b) ∧ (∀ l B, l < 0 → E'.β l = some B → β l = some B) ∧ Rep w' E' (.ms 0) v := by
    intro B hv h1 hB hb
    obtain ⟨h2, _⟩ := hk.new (ν := 0) (fun h => absurd h (Nat.not_lt_zero 0)) ⟨T, Enc.k α, ys.map c⟩ B hu.os hu.tape hu.output hu.size (fun b hb => hu.block b hb) hB (fun _ => hb _)
    refine ⟨_, h2, fun b h => h, fun b h => .inl h, fun l B h => absurd h (Nat.not_lt_zero l), .ms 0 v (.inl rfl) h1 fun B' hB' => ?_⟩
    have : B' = B := by simpa [Env.add, eq_comm] using hB'
    rw [this]; exact hv
  rcases ho.2 with ⟨hv, h0⟩ | ⟨g, cap, cur, hv, hB, hg, hnc, hcm, hcs, ht⟩
  · have hy : ys = [] := List.length_eq_zero_iff.1 h0
    subst hy
    exact key ⟨0, 0, 0, Enc.k α, T, true⟩ (by rw [hv]; rfl) (by rw [hv]; rfl) (fun h => by cases h) fun E => ⟨rfl, rfl, rfl, Enc.pos, Nat.le_refl _, Nat.zero_le _, hesl, fun _ => rfl, fun h => by cases h⟩
  · refine key ⟨g, cap, ys.length, Enc.k α, T, false⟩ (by rw [hv]; rfl) (by rw [hv]; rfl) (fun _ => ⟨hB, (Array.getElem?_eq_some_iff.1 hg).1⟩) fun E => ⟨rfl, by simp, rfl, Enc.pos, hnc, hcm, hesl, (fun h => by cases h), fun _ => ⟨cur, hg, hcs, fun i cs j p hi hj => ?_⟩⟩
    rw [List.getElem?_map] at hi
    obtain ⟨y, hy, rfl⟩ := Option.map_eq_some_iff.1 hi
    obtain ⟨hl, hcc⟩ := hc y
    obtain ⟨u, hu1, hu2, hu3⟩ := hcc j p hj
    refine ⟨u, ?_, hu2, hu3 _ _⟩
    have hf := flat_at hy hu1
    have hlt := (List.getElem?_eq_some_iff.1 hf).1
    rw [flat_len] at hlt
    have := congrArg (fun l : List Value => l[i * Enc.k α + j]?) ht
    have h2 : (cur.toList.take (ys.length * Enc.k α))[i * Enc.k α + j]? = (flat ys)[i * Enc.k α + j]? := this
    rw [List.getElem?_take_of_lt hlt, Array.getElem?_toList, hf] at h2
    exact h2
end Go.Proofs.YtmcdjilbkmhfoaaGreat
namespace Go.Proofs.YtmcdjilbkmhfoaaGreat
set_option maxRecDepth 10000
open Go.RowKit
set_option linter.unusedVariables false
set_option linter.unusedSimpArgs false
theorem nmI_names (n : YNetwork) : nmI n.legs n.legs.length = (namesOf n).foldl dd [] := by
  have h : ∀ (l : List YLeg) (acc : List ByteArray), l.foldl (fun out l => dd (dd out l.from_) l.to_) acc = (l.flatMap fun l => [l.from_, l.to_]).foldl dd acc := by
    intro l
    induction l with
    | nil => intro acc; rfl
    | cons x l ih => intro acc; simp only [List.foldl_cons, List.flatMap_cons, List.foldl_append, List.foldl_nil, ih]
  unfold nmI namesOf
  rw [List.take_length]
  exact h _ _
def m_impl_PlacesOf (n : YNetwork) : Option (List ByteArray) :=
  if n.legs.length ≤ 1048576 ∧ (n.legs.all fun l => decide (l.from_.size ≤ maxLen ∧ l.to_.size ≤ maxLen)) = true then some (srtS ((namesOf n).foldl dd [])) else none
theorem ok_impl_PlacesOf (n : YNetwork) {r : (List ByteArray)} (H : m_impl_PlacesOf n = some r) : CallM Tryz.prog 141 [.ag (cNetwork n)] [] (.ms 0) [some ⟨9, 1, r.map cStr⟩] := by
  unfold m_impl_PlacesOf at H
  split at H
  case isFalse => cases H
  rename_i hok
  obtain ⟨hn, hs⟩ := hok
  obtain rfl := Option.some.inj H
  have hs' : ∀ l ∈ n.legs, l.from_.size ≤ maxLen ∧ l.to_.size ≤ maxLen := fun l hl => of_decide_eq_true (List.all_eq_true.1 hs l hl)
  intro S β w vs hk hl ha
  obtain ⟨x, hx0, hr⟩ := ha 0 _ rfl
  have hv : vs = #[x] := by
    have h1 : vs.size = 1 := hl
    apply Array.ext (by simp [h1])
    intro i h2 h3
    have : i = 0 := by omega
    subst this
    have := (Array.getElem?_eq_some_iff.1 hx0).2
    simpa using this
  subst hv
  obtain ⟨us, rfl, hul, hu1, hur⟩ := hr.ag_inv
  have hul' : us.size = 3 := hul
  have h0 : us[0]? = some us[0] := Array.getElem?_eq_getElem (by omega)
  have hus : us = #[us[0], us[1], us[2]] := by
    apply Array.ext (by simp [hul'])
    intro i h2 h3
    match i, h2 with
    | 0, _ => rfl
    | 1, _ => rfl
    | 2, _ => rfl
    | i + 3, h2 => omega
  have hr0 := hur 0 (.sl (n.legs.map cLeg)) _ rfl h0
  have hsl : ∃ A c, us[0] = .slice A n.legs.length c ∧ n.legs.length ≤ c ∧ Rd w w.heap.size A n.legs := by
    cases hr0 with
    | c h =>
      generalize hq : PV.sl (n.legs.map cLeg) = q at h
      generalize us[0] = y at h
      cases h with
      | v x h => cases hq
      | ud => cases hq
      | un => cases hq
      | rp => cases hq
      | fn => cases hq
      | nil A c =>
        have : n.legs = [] := by simpa using hq
        exact ⟨A, c, by rw [this]; rfl, by rw [this]; simp, by rw [this]; exact Rd.nil_⟩
      | sl es b off k c u hS hkp hnc hm hes hcc h1 hrr =>
        obtain rfl : n.legs.map cLeg = es := by simpa using hq
        refine ⟨_, c, by simp, by simpa using hnc, fun hne => ⟨b, off, rfl, hk.sz b hS, fun j u' hu' => ?_⟩⟩
        have hpos : 0 < n.legs.length := List.length_pos_iff.2 hne
        have hk6 : k = 6 := (hes 0 (cLeg n.legs[0]) (by simp [hpos])).symm
        subst hk6
        have hj := (List.getElem?_eq_some_iff.1 hu').1
        rw [flat_len] at hj
        have hj6 : j < n.legs.length * 6 := hj
        have hi : j / 6 < n.legs.length := by omega
        have hy : n.legs[j / 6]? = some n.legs[j / 6] := List.getElem?_eq_getElem hi
        have hjj : j = (j / 6) * 6 + j % 6 := by omega
        have hm6 : j % 6 < 6 := Nat.mod_lt _ (by decide)
        have hp : ∃ p u'', (cLeg n.legs[j / 6])[j % 6]? = some p ∧ (Enc.cells n.legs[j / 6])[j % 6]? = some u'' ∧ ∀ z, RepC w S p z → z = u'' := by
          generalize n.legs[j / 6] = y
          generalize j % 6 = m at hm6
          match m, hm6 with
          | 0, _ => exact ⟨_, _, rfl, rfl, fun z hz => by cases hz; rfl⟩
          | 1, _ => exact ⟨_, _, rfl, rfl, fun z hz => by cases hz; rfl⟩
          | 2, _ => exact ⟨_, _, rfl, rfl, fun z hz => by cases hz; rfl⟩
          | 3, _ => exact ⟨_, _, rfl, rfl, fun z hz => by cases hz; rfl⟩
          | 4, _ => exact ⟨_, _, rfl, rfl, fun z hz => by cases hz; rfl⟩
          | 5, _ => exact ⟨_, _, rfl, rfl, fun z hz => by cases hz; rfl⟩
        obtain ⟨p, u'', hp1, hp2, hp3⟩ := hp
        have hf := flat_at hy hp2
        rw [show Enc.k YLeg = 6 from rfl, ← hjj] at hf
        obtain rfl : u'' = u' := Option.some.inj (hf.symm.trans hu')
        have e1 : (n.legs.map cLeg)[j / 6]? = some (cLeg n.legs[j / 6]) := by simp [hi]
        have hc := hcc (j / 6) _ (j % 6) p e1 hp1
        have hz := hp3 _ (hrr (j / 6) _ (j % 6) p e1 hp1)
        rw [hz] at hc
        rw [show off + j = off + j / 6 * 6 + j % 6 by omega]
        exact hc
  obtain ⟨A, c, hA, hcap, hrd⟩ := hsl
  rw [hus, hA]
  refine (places_walk A n.legs _ c _ _ w hrd rfl hcap hn hs').mono ?_
  rintro e w' ⟨v, rfl, ho, hu⟩
  rw [nmI_names] at ho
  obtain ⟨E', h1, h2, h3, h4, h5⟩ := ms_of_own (c := cStr) hk ho hu (fun x => ⟨rfl, fun j p hj => by
    cases j with
    | zero => obtain rfl : vs x = p := by simpa using hj
              exact ⟨_, rfl, rfl, fun w E => .c (.v _ rfl)⟩
    | succ j => simp [cStr] at hj⟩)
  exact ⟨v, E', rfl, h1, h2, h3, h4, h5⟩
instance (n : YNetwork) : CT Tryz.prog (m_impl_PlacesOf n) := ⟨141, [.ag (cNetwork n)], [], fun r => .ms 0, fun r => [some ⟨9, 1, r.map cStr⟩], ok_impl_PlacesOf n⟩
end Go.Proofs.YtmcdjilbkmhfoaaGreat
namespace Go.Proofs.YtmcdjilbkmhfoaaGreat
set_option maxRecDepth 10000
open Go.RowKit
set_option linter.unusedVariables false
set_option maxHeartbeats 16000000
def m_p0_spec_l1Byte (c : Yl1Cur) : Option (Int × Yl1Cur) :=
 cond (decide (c.i < (c.b.length : Int)))
 ((getI c.b c.i).bind fun y1 =>
 some ((IntKind.i64.wrap (BitVec.ofInt IntKind.i64.bits (w64 ((IntKind.i64.wrap (BitVec.ofInt IntKind.i64.bits (IntKind.i64.wrap (BitVec.ofInt IntKind.i64.bits (Int.fdiv (w64 ((w64 (c.h * 6364136223846793005)) + 1442695040888963407)) (2 ^ (min (Int.toNat 35) IntKind.i64.bits))) ^^^ BitVec.ofInt IntKind.i64.bits (Int.fdiv (w64 ((w64 (c.h * 6364136223846793005)) + 1442695040888963407)) (2 ^ (min (Int.toNat 45) IntKind.i64.bits)))).toNat) &&& BitVec.ofInt IntKind.i64.bits 255).toNat) + (IntKind.i64.wrap y1.v))) &&& BitVec.ofInt IntKind.i64.bits 255).toNat), (⟨c.b, (w64 (c.i + 1)), (w64 ((w64 (c.h * 6364136223846793005)) + 1442695040888963407))⟩ : Yl1Cur)))
 (some ((IntKind.i64.wrap (BitVec.ofInt IntKind.i64.bits (IntKind.i64.wrap (BitVec.ofInt IntKind.i64.bits (Int.fdiv (w64 ((w64 (c.h * 6364136223846793005)) + 1442695040888963407)) (2 ^ (min (Int.toNat 35) IntKind.i64.bits))) ^^^ BitVec.ofInt IntKind.i64.bits (Int.fdiv (w64 ((w64 (c.h * 6364136223846793005)) + 1442695040888963407)) (2 ^ (min (Int.toNat 45) IntKind.i64.bits)))).toNat) &&& BitVec.ofInt IntKind.i64.bits 255).toNat), (⟨c.b, c.i, (w64 ((w64 (c.h * 6364136223846793005)) + 1442695040888963407))⟩ : Yl1Cur)))
theorem ok_p0_spec_l1Byte (c : Yl1Cur) {r : Int × Yl1Cur} (H : m_p0_spec_l1Byte c = some r) : CallM Tryz.prog 180 [.be 0 0 0] [some ⟨187, 3, [[.sl (c.b.map cB8), vi c.i, vi c.h]]⟩] (vi r.1) [some ⟨187, 3, [[.sl (r.2.b.map cB8), vi r.2.i, vi r.2.h]]⟩] := by
  replace H := H0 H
  unfold m_p0_spec_l1Byte at H
  refine callM_of Tryz.func180 rfl Tryz.ntmps180 Tryz.results180 fun Q hQ hQn => ?_
  exact wk2
instance (c : Yl1Cur) : CT Tryz.prog (m_p0_spec_l1Byte c) := ⟨180, [.be 0 0 0], [some ⟨187, 3, [[.sl (c.b.map cB8), vi c.i, vi c.h]]⟩], fun r => vi r.1, fun r => [some ⟨187, 3, [[.sl (r.2.b.map cB8), vi r.2.i, vi r.2.h]]⟩], ok_p0_spec_l1Byte c⟩
def m_p0_spec_l1Below (c : Yl1Cur) (n : Int) : Option (Int × Yl1Cur) :=
 cond (decide (n ≤ 0))
 (some (0, c))
 (cond (decide (n ≤ 256))
 ((rhoM [0]).bind fun _ =>
 (m_p0_spec_l1Byte c).bind fun y1 =>
 (chk (decide (n ≠ 0))).bind fun _ =>
 some ((Int.tmod y1.1 n), y1.2))
 ((rhoM [0]).bind fun _ =>
 (m_p0_spec_l1Byte c).bind fun y2 =>
 (rhoM [0]).bind fun _ =>
 (m_p0_spec_l1Byte y2.2).bind fun y3 =>
 (rhoM [0]).bind fun _ =>
 (m_p0_spec_l1Byte y3.2).bind fun y4 =>
 (chk (decide (n ≠ 0))).bind fun _ =>
 some ((Int.tmod (w64 ((w64 ((w64 (y2.1 * 65536)) + (w64 (y3.1 * 256)))) + y4.1)) n), y4.2)))
theorem ok_p0_spec_l1Below (c : Yl1Cur) (n : Int) {r : Int × Yl1Cur} (H : m_p0_spec_l1Below c n = some r) : CallM Tryz.prog 106 [.be 0 0 0, vi n] [some ⟨187, 3, [[.sl (c.b.map cB8), vi c.i, vi c.h]]⟩] (vi r.1) [some ⟨187, 3, [[.sl (r.2.b.map cB8), vi r.2.i, vi r.2.h]]⟩] := by
  replace H := H0 H
  unfold m_p0_spec_l1Below at H
  refine callM_of Tryz.func106 rfl Tryz.ntmps106 Tryz.results106 fun Q hQ hQn => ?_
  exact wk2
instance (c : Yl1Cur) (n : Int) : CT Tryz.prog (m_p0_spec_l1Below c n) := ⟨106, [.be 0 0 0, vi n], [some ⟨187, 3, [[.sl (c.b.map cB8), vi c.i, vi c.h]]⟩], fun r => vi r.1, fun r => [some ⟨187, 3, [[.sl (r.2.b.map cB8), vi r.2.i, vi r.2.h]]⟩], ok_p0_spec_l1Below c n⟩
def m_p0_spec_l1Once (c : Yl1Cur) (n : Int) : Option (Bool × Yl1Cur) :=
 (rhoM [0]).bind fun _ =>
 (m_p0_spec_l1Below c n).bind fun y1 =>
 some ((decide (y1.1 = 0)), y1.2)
theorem ok_p0_spec_l1Once (c : Yl1Cur) (n : Int) {r : Bool × Yl1Cur} (H : m_p0_spec_l1Once c n = some r) : CallM Tryz.prog 104 [.be 0 0 0, vi n] [some ⟨187, 3, [[.sl (c.b.map cB8), vi c.i, vi c.h]]⟩] (vb r.1) [some ⟨187, 3, [[.sl (r.2.b.map cB8), vi r.2.i, vi r.2.h]]⟩] := by
  replace H := H0 H
  unfold m_p0_spec_l1Once at H
  refine callM_of Tryz.func104 rfl Tryz.ntmps104 Tryz.results104 fun Q hQ hQn => ?_
  exact wk2
instance (c : Yl1Cur) (n : Int) : CT Tryz.prog (m_p0_spec_l1Once c n) := ⟨104, [.be 0 0 0, vi n], [some ⟨187, 3, [[.sl (c.b.map cB8), vi c.i, vi c.h]]⟩], fun r => vb r.1, fun r => [some ⟨187, 3, [[.sl (r.2.b.map cB8), vi r.2.i, vi r.2.h]]⟩], ok_p0_spec_l1Once c n⟩
def m_p0_spec_l1Str (c : Yl1Cur) (list : List ByteArray) : Option (ByteArray × Yl1Cur × (List ByteArray)) :=
 (rhoM [0]).bind fun _ =>
 (m_p0_spec_l1Below c (list.length : Int)).bind fun y1 =>
 (getI list y1.1).bind fun y2 =>
 some (y2, y1.2, list)
theorem ok_p0_spec_l1Str (c : Yl1Cur) (list : List ByteArray) {r : ByteArray × Yl1Cur × (List ByteArray)} (H : m_p0_spec_l1Str c list = some r) : CallM Tryz.prog 179 [.be 0 0 0, .ms 1] [some ⟨187, 3, [[.sl (c.b.map cB8), vi c.i, vi c.h]]⟩, some ⟨9, 1, list.map cStr⟩] (vs r.1) [some ⟨187, 3, [[.sl (r.2.1.b.map cB8), vi r.2.1.i, vi r.2.1.h]]⟩, some ⟨9, 1, r.2.2.map cStr⟩] := by
  replace H := H0 H
  unfold m_p0_spec_l1Str at H
  refine callM_of Tryz.func179 rfl Tryz.ntmps179 Tryz.results179 fun Q hQ hQn => ?_
  exact wk2
instance (c : Yl1Cur) (list : List ByteArray) : CT Tryz.prog (m_p0_spec_l1Str c list) := ⟨179, [.be 0 0 0, .ms 1], [some ⟨187, 3, [[.sl (c.b.map cB8), vi c.i, vi c.h]]⟩, some ⟨9, 1, list.map cStr⟩], fun r => vs r.1, fun r => [some ⟨187, 3, [[.sl (r.2.1.b.map cB8), vi r.2.1.i, vi r.2.1.h]]⟩, some ⟨9, 1, r.2.2.map cStr⟩], ok_p0_spec_l1Str c list⟩
def m_p0_spec_l1Place (c : Yl1Cur) : Option (ByteArray × Yl1Cur) :=
 (rhoM [0, 1]).bind fun _ =>
 (m_p0_spec_l1Str c ([⟨#[65, 77, 83]⟩, ⟨#[66, 82, 85]⟩, ⟨#[67, 68, 71]⟩, ⟨#[68, 85, 66]⟩, ⟨#[69, 68, 73]⟩, ⟨#[70, 82, 65]⟩, ⟨#[71, 79, 84]⟩])).bind fun y1 =>
 some (y1.1, y1.2.1)
theorem ok_p0_spec_l1Place (c : Yl1Cur) {r : ByteArray × Yl1Cur} (H : m_p0_spec_l1Place c = some r) : CallM Tryz.prog 249 [.be 0 0 0] [some ⟨187, 3, [[.sl (c.b.map cB8), vi c.i, vi c.h]]⟩] (vs r.1) [some ⟨187, 3, [[.sl (r.2.b.map cB8), vi r.2.i, vi r.2.h]]⟩] := by
  replace H := H0 H
  unfold m_p0_spec_l1Place at H
  refine callM_of Tryz.func249 rfl Tryz.ntmps249 Tryz.results249 fun Q hQ hQn => ?_
  exact wk2
instance (c : Yl1Cur) : CT Tryz.prog (m_p0_spec_l1Place c) := ⟨249, [.be 0 0 0], [some ⟨187, 3, [[.sl (c.b.map cB8), vi c.i, vi c.h]]⟩], fun r => vs r.1, fun r => [some ⟨187, 3, [[.sl (r.2.b.map cB8), vi r.2.i, vi r.2.h]]⟩], ok_p0_spec_l1Place c⟩
def m_p0_spec_l1Int (c : Yl1Cur) (list : List Int) : Option (Int × Yl1Cur × (List Int)) :=
 (rhoM [0]).bind fun _ =>
 (m_p0_spec_l1Below c (list.length : Int)).bind fun y1 =>
 (getI list y1.1).bind fun y2 =>
 some (y2, y1.2, list)
theorem ok_p0_spec_l1Int (c : Yl1Cur) (list : List Int) {r : Int × Yl1Cur × (List Int)} (H : m_p0_spec_l1Int c list = some r) : CallM Tryz.prog 105 [.be 0 0 0, .ms 1] [some ⟨187, 3, [[.sl (c.b.map cB8), vi c.i, vi c.h]]⟩, some ⟨3, 1, list.map cInt⟩] (vi r.1) [some ⟨187, 3, [[.sl (r.2.1.b.map cB8), vi r.2.1.i, vi r.2.1.h]]⟩, some ⟨3, 1, r.2.2.map cInt⟩] := by
  replace H := H0 H
  unfold m_p0_spec_l1Int at H
  refine callM_of Tryz.func105 rfl Tryz.ntmps105 Tryz.results105 fun Q hQ hQn => ?_
  exact wk2
instance (c : Yl1Cur) (list : List Int) : CT Tryz.prog (m_p0_spec_l1Int c list) := ⟨105, [.be 0 0 0, .ms 1], [some ⟨187, 3, [[.sl (c.b.map cB8), vi c.i, vi c.h]]⟩, some ⟨3, 1, list.map cInt⟩], fun r => vi r.1, fun r => [some ⟨187, 3, [[.sl (r.2.1.b.map cB8), vi r.2.1.i, vi r.2.1.h]]⟩, some ⟨3, 1, r.2.2.map cInt⟩], ok_p0_spec_l1Int c list⟩
def m_p0_spec_l3Leg_b0 (y3 : Int × Yl1Cur) (y4 : Int × Yl1Cur) (y5 : Int × Yl1Cur) (y6 : Int × Yl1Cur) (s0 : (List YB8) × Int × Int × ByteArray × ByteArray) : Option (((List YB8) × Int × Int × ByteArray × ByteArray) ⊕ ((List YB8) × Int × Int × ByteArray × ByteArray)) :=
 cond (decide (s0.2.2.2.1 = s0.2.2.2.2))
 ((rhoM [0, 3]).bind fun _ =>
 (m_p0_spec_l1Str (⟨s0.1, s0.2.1, s0.2.2.1⟩ : Yl1Cur) ([⟨#[65, 77, 83]⟩, ⟨#[66, 82, 85]⟩, ⟨#[67, 68, 71]⟩])).bind fun y7 =>
 cond (decide (s0.2.2.2.1 = y7.1))
 (some (.inl (y7.2.1.b, y7.2.1.i, y7.2.1.h, ⟨#[68, 85, 66]⟩, y7.1)))
 (some (.inl (y7.2.1.b, y7.2.1.i, y7.2.1.h, s0.2.2.2.1, y7.1))))
 (some (.inr (s0.1, s0.2.1, s0.2.2.1, s0.2.2.2.1, s0.2.2.2.2)))
instance (y3 : Int × Yl1Cur) (y4 : Int × Yl1Cur) (y5 : Int × Yl1Cur) (y6 : Int × Yl1Cur) : LoopE (m_p0_spec_l3Leg_b0 y3 y4 y5 y6) := ⟨fun s0 => [.be 0 0 0, .un, .be 1 0 0, .be 2 0 0, .un, .un, .un, .un, .un, .un, .un, .un, .un, .un, .un, .un, .un, .un, .un, .un, .un, .un, .un, .un, .un, .un, .un, .un, .un, .un, .un, .un, .un, .un, .un, .un, .un, .un, .un, .un, .un, .un, .un, .un, .un, .un, .un], fun s0 => [some ⟨187, 3, [[.sl (s0.1.map cB8), vi s0.2.1, vi s0.2.2.1]]⟩, some ⟨67, 6, [[vs (⟨#[]⟩), vs (⟨#[]⟩), vi 0, vi 0, vi 0, vi 0]]⟩, some ⟨67, 6, [[vs s0.2.2.2.1, vs s0.2.2.2.2, vi (w64 (30 * y3.1)), vi (w64 (30 * (w64 (1 + y4.1)))), vi (w64 (1 + y5.1)), vi (w64 (1000 * y6.1))]]⟩]⟩
def m_p0_spec_l3Leg (c : Yl1Cur) : Option (YLeg × Yl1Cur) :=
 (rhoM [0]).bind fun _ =>
 (m_p0_spec_l1Place c).bind fun y1 =>
 (rhoM [0]).bind fun _ =>
 (m_p0_spec_l1Place y1.2).bind fun y2 =>
 (rhoM [0]).bind fun _ =>
 (m_p0_spec_l1Below y2.2 48).bind fun y3 =>
 (rhoM [0]).bind fun _ =>
 (m_p0_spec_l1Below y3.2 40).bind fun y4 =>
 (rhoM [0]).bind fun _ =>
 (m_p0_spec_l1Below y4.2 127).bind fun y5 =>
 (rhoM [0]).bind fun _ =>
 (m_p0_spec_l1Below y5.2 60).bind fun y6 =>
 (iterF (m_p0_spec_l3Leg_b0 y3 y4 y5 y6) NN (y6.2.b, y6.2.i, y6.2.h, y1.1, y2.1)).bind (fun o0 =>
 (rhoM [0]).bind fun _ =>
 (m_p0_spec_l1Once (⟨o0.1, o0.2.1, o0.2.2.1⟩ : Yl1Cur) 2).bind fun y8 =>
 cond y8.1
 ((rhoM [0]).bind fun _ =>
 (m_p0_spec_l1Once y8.2 9).bind fun y9 =>
 cond y9.1
 ((rhoM [0, 3]).bind fun _ =>
 (m_p0_spec_l1Int y9.2 ([1, 1440, 4320])).bind fun y10 =>
 some ((⟨o0.2.2.2.1, o0.2.2.2.2, (w64 (30 * y3.1)), y10.1, 127, (w64 (1000 * y6.1))⟩ : YLeg), y10.2.1))
 (some ((⟨o0.2.2.2.1, o0.2.2.2.2, (w64 (30 * y3.1)), (w64 (30 * (w64 (1 + y4.1)))), 127, (w64 (1000 * y6.1))⟩ : YLeg), y9.2)))
 ((rhoM [0]).bind fun _ =>
 (m_p0_spec_l1Once y8.2 9).bind fun y11 =>
 cond y11.1
 ((rhoM [0, 3]).bind fun _ =>
 (m_p0_spec_l1Int y11.2 ([1, 1440, 4320])).bind fun y12 =>
 some ((⟨o0.2.2.2.1, o0.2.2.2.2, (w64 (30 * y3.1)), y12.1, (w64 (1 + y5.1)), (w64 (1000 * y6.1))⟩ : YLeg), y12.2.1))
 (some ((⟨o0.2.2.2.1, o0.2.2.2.2, (w64 (30 * y3.1)), (w64 (30 * (w64 (1 + y4.1)))), (w64 (1 + y5.1)), (w64 (1000 * y6.1))⟩ : YLeg), y11.2))))
theorem ok_p0_spec_l3Leg (c : Yl1Cur) {r : YLeg × Yl1Cur} (H : m_p0_spec_l3Leg c = some r) : CallM Tryz.prog 256 [.be 0 0 0] [some ⟨187, 3, [[.sl (c.b.map cB8), vi c.i, vi c.h]]⟩] (.ag [vs r.1.from_, vs r.1.to_, vi r.1.start, vi r.1.takes, vi r.1.days, vi r.1.room]) [some ⟨187, 3, [[.sl (r.2.b.map cB8), vi r.2.i, vi r.2.h]]⟩] := by
  replace H := H0 H
  unfold m_p0_spec_l3Leg at H
  refine callM_of Tryz.func256 rfl Tryz.ntmps256 Tryz.results256 fun Q hQ hQn => ?_
  exact wk2
instance (c : Yl1Cur) : CT Tryz.prog (m_p0_spec_l3Leg c) := ⟨256, [.be 0 0 0], [some ⟨187, 3, [[.sl (c.b.map cB8), vi c.i, vi c.h]]⟩], fun r => .ag [vs r.1.from_, vs r.1.to_, vi r.1.start, vi r.1.takes, vi r.1.days, vi r.1.room], fun r => [some ⟨187, 3, [[.sl (r.2.b.map cB8), vi r.2.i, vi r.2.h]]⟩], ok_p0_spec_l3Leg c⟩
def m_p0_spec_l3Draw_b0 (most : Int) (y1 : Int × Yl1Cur) (s0 : Int × (List YB8) × Int × Int × (List YLeg)) : Option ((Int × (List YB8) × Int × Int × (List YLeg)) ⊕ ((List YB8) × Int × Int × (List YLeg))) :=
 cond (decide (0 < s0.1))
 ((rhoM [0]).bind fun _ =>
 (m_p0_spec_l3Leg (⟨s0.2.1, s0.2.2.1, s0.2.2.2.1⟩ : Yl1Cur)).bind fun y3 =>
 (chk (appOk ((s0.2.2.2.2 : List YLeg).length + ([y3.1] : List YLeg).length) 64)).bind fun _ =>
 (rhoM [0]).bind fun _ =>
 (m_p0_spec_l1Once y3.2 3).bind fun y4 =>
 cond y4.1
 (cond (decide ((((s0.2.2.2.2 : List YLeg) ++ [y3.1]).length : Int) < most))
 ((getI ((s0.2.2.2.2 : List YLeg) ++ [y3.1]) (w64 ((((s0.2.2.2.2 : List YLeg) ++ [y3.1]).length : Int) - 1))).bind fun y5 =>
 (getI ((s0.2.2.2.2 : List YLeg) ++ [y3.1]) (w64 ((((s0.2.2.2.2 : List YLeg) ++ [y3.1]).length : Int) - 1))).bind fun y6 =>
 (drwL 8 [3]).bind fun _ =>
 (rhoM [0]).bind fun _ =>
 (m_p0_spec_l1Below y4.2 20).bind fun y7 =>
 (chk (appOk ((((s0.2.2.2.2 : List YLeg) ++ [y3.1]) : List YLeg).length + ([(⟨y5.to_, y6.from_, (Int.tmod (w64 (y3.1.start + (w64 (60 * y7.1)))) 1440), y3.1.takes, y3.1.days, y3.1.room⟩ : YLeg)] : List YLeg).length) 64)).bind fun _ =>
 some (.inl ((w64 (s0.1 - 1)), y7.2.b, y7.2.i, y7.2.h, ((((s0.2.2.2.2 : List YLeg) ++ [y3.1]) : List YLeg) ++ [(⟨y5.to_, y6.from_, (Int.tmod (w64 (y3.1.start + (w64 (60 * y7.1)))) 1440), y3.1.takes, y3.1.days, y3.1.room⟩ : YLeg)]))))
 (some (.inl ((w64 (s0.1 - 1)), y4.2.b, y4.2.i, y4.2.h, ((s0.2.2.2.2 : List YLeg) ++ [y3.1])))))
 (some (.inl ((w64 (s0.1 - 1)), y4.2.b, y4.2.i, y4.2.h, ((s0.2.2.2.2 : List YLeg) ++ [y3.1])))))
 (some (.inr (s0.2.1, s0.2.2.1, s0.2.2.2.1, s0.2.2.2.2)))
instance (most : Int) (y1 : Int × Yl1Cur) : LoopE (m_p0_spec_l3Draw_b0 most y1) := ⟨fun s0 => (.be 0 0 0 :: vi most :: .un :: .un :: .be 1 0 0 :: .be 2 0 0 :: vi s0.1 :: .un :: .un :: .un :: .un :: .un :: .un :: .un :: .un :: .un :: .un :: .un :: .un :: .un :: .un :: .un :: .un :: .un :: .un :: .un :: .un :: .un :: .un :: .un :: .un :: .un :: .un :: .un :: .un :: .un :: .un :: .un :: .un :: .un :: .un :: .un :: .un :: .un :: .un :: .un :: .un :: .un :: .un :: .un :: .un :: .un :: .un :: .un :: .un :: .un :: .un :: .un :: .un :: .un :: .un :: .un :: .un :: .un :: .un :: .un :: .un :: .un :: .un :: .un :: .un :: .un :: .un :: .un :: .un :: .un :: .un :: .un :: .un :: .un :: .un :: []), fun s0 => [some ⟨187, 3, [[.sl (s0.2.1.map cB8), vi s0.2.2.1, vi s0.2.2.2.1]]⟩, some ⟨35, 3, [[.v (.slice none 0 0), .v (.slice none 0 0), vi 0]]⟩, some ⟨35, 3, [[.ms 3, .v (.slice none 0 0), vi (w64 (15 * y1.1))]]⟩, some ⟨67, 6, s0.2.2.2.2.map cLeg⟩]⟩
def m_p0_spec_l3Draw (c : Yl1Cur) (most : Int) : Option (YNetwork × Yl1Cur) :=
 (rhoM [0]).bind fun _ =>
 (m_p0_spec_l1Below c 9).bind fun y1 =>
 (rhoM [0]).bind fun _ =>
 (m_p0_spec_l1Below y1.2 most).bind fun y2 =>
 (iterF (m_p0_spec_l3Draw_b0 most y1) NN ((w64 (1 + y2.1)), y2.2.b, y2.2.i, y2.2.h, [])).bind (fun o0 =>
 (rhoM [0]).bind fun _ =>
 (m_p0_spec_l1Once (⟨o0.1, o0.2.1, o0.2.2.1⟩ : Yl1Cur) 2).bind fun y8 =>
 cond y8.1
 ((rhoM [0]).bind fun _ =>
 (m_p0_spec_l1Below y8.2 3).bind fun y9 =>
 (rhoM [0]).bind fun _ =>
 (m_p0_spec_l1Below y9.2 4).bind fun y10 =>
 some ((⟨o0.2.2.2, [y9.1, (w64 (3 + y10.1))], (w64 (15 * y1.1))⟩ : YNetwork), y10.2))
 (some ((⟨o0.2.2.2, [], (w64 (15 * y1.1))⟩ : YNetwork), y8.2)))
theorem ok_p0_spec_l3Draw (c : Yl1Cur) (most : Int) {r : YNetwork × Yl1Cur} (H : m_p0_spec_l3Draw c most = some r) : CallM Tryz.prog 230 [.be 0 0 0, vi most] [some ⟨187, 3, [[.sl (c.b.map cB8), vi c.i, vi c.h]]⟩] (.ag [.ms 1, .ms 2, vi r.1.change]) [some ⟨187, 3, [[.sl (r.2.b.map cB8), vi r.2.i, vi r.2.h]]⟩, some ⟨67, 6, r.1.legs.map cLeg⟩, some ⟨3, 1, r.1.off.map cInt⟩] := by
  replace H := H0 H
  unfold m_p0_spec_l3Draw at H
  refine callM_of Tryz.func230 rfl Tryz.ntmps230 Tryz.results230 fun Q hQ hQn => ?_
  exact wk2
instance (c : Yl1Cur) (most : Int) : CT Tryz.prog (m_p0_spec_l3Draw c most) := ⟨230, [.be 0 0 0, vi most], [some ⟨187, 3, [[.sl (c.b.map cB8), vi c.i, vi c.h]]⟩], fun r => .ag [.ms 1, .ms 2, vi r.1.change], fun r => [some ⟨187, 3, [[.sl (r.2.b.map cB8), vi r.2.i, vi r.2.h]]⟩, some ⟨67, 6, r.1.legs.map cLeg⟩, some ⟨3, 1, r.1.off.map cInt⟩], ok_p0_spec_l3Draw c most⟩
def m_o_spec_l1New_b0 (code : List YB8) (s0 : Int × Int) : Option ((Int × Int) ⊕ Int) :=
 cond (decide (s0.2 < (code.length : Int)))
 (cond (decide (s0.2 < 4000))
 ((getI code s0.2).bind fun y1 =>
 some (.inl ((IntKind.i64.wrap (BitVec.ofInt IntKind.i64.bits (w64 ((w64 ((w64 (s0.1 * 167)) + (IntKind.i64.wrap y1.v))) + 29)) &&& BitVec.ofInt IntKind.i64.bits 1073741823).toNat), (w64 (s0.2 + 1)))))
 (some (.inr s0.1)))
 (some (.inr s0.1))
instance (code : List YB8) : LoopE (m_o_spec_l1New_b0 code) := ⟨fun s0 => [.sl (code.map cB8), .un, .un, vi s0.1, vi s0.2, .un, .un, .un, .un, .un, .un, .un, .un, .un, .un, .un, .un, .un, .un, .un, .un, .un, .un, .un, .un, .un, .un, .un, .un, .un, .un, .un, .un], fun s0 => []⟩
def m_o_spec_l1New (code : List YB8) : Option Yl1Cur :=
 (iterF (m_o_spec_l1New_b0 code) NN ((w64 (744201 + (w64 (3 * (code.length : Int))))), 0)).bind (fun o0 =>
 some (⟨code, 0, o0⟩ : Yl1Cur))
theorem ok_o_spec_l1New (code : List YB8) {r : Yl1Cur} (H : m_o_spec_l1New code = some r) : CallM Tryz.prog 102 [.sl (code.map cB8)] [] (.be 0 0 0) [some ⟨187, 3, [[.sl (r.b.map cB8), vi r.i, vi r.h]]⟩] := by
  replace H := H0 H
  unfold m_o_spec_l1New at H
  refine callM_of Tryz.func102 rfl Tryz.ntmps102 Tryz.results102 fun Q hQ hQn => ?_
  exact wk2
instance (code : List YB8) : CT Tryz.prog (m_o_spec_l1New code) := ⟨102, [.sl (code.map cB8)], [], fun r => .be 0 0 0, fun r => [some ⟨187, 3, [[.sl (r.b.map cB8), vi r.i, vi r.h]]⟩], ok_o_spec_l1New code⟩
end Go.Proofs.YtmcdjilbkmhfoaaGreat
