/- Plain functions of the money chapter: lines, sums. No program in sight. -/
import Derived.Test.YtooikkfldddjfaaKit
namespace Go.Proofs.Ytooikkfldddjfaa
set_option maxRecDepth 10000
open Go.RowKit

structure Ln where
  o : Int
  k : Int
  a : Int
  t : Int

def LnOk (x : Ln) : Prop := InI x.o ∧ InI x.k ∧ InI x.a ∧ InI x.t

instance : Enc Ln where
  cells x := [I x.o, I x.k, I x.a, I x.t]
  k := 4
  len _ := rfl
  pos := by decide
  one := by simp [Value.oneCell', I]

theorem Rd.ln {w : World} {B : Nat} {A : Option Addr} {xs : List Ln} {i : Nat} {x : Ln} (h : Rd w B A xs) (hx : xs[i]? = some x) :
    ∃ b off, A = some ⟨b, off, none⟩ ∧ b < B ∧ w.cell? ⟨b, off + i * 4, none⟩ = some (I x.o) ∧ w.cell? ⟨b, off + i * 4 + 1, none⟩ = some (I x.k) ∧ w.cell? ⟨b, off + i * 4 + 2, none⟩ = some (I x.a) ∧ w.cell? ⟨b, off + i * 4 + 3, none⟩ = some (I x.t) := by
  obtain ⟨b, off, e, hb, hc⟩ := h.at_ hx
  exact ⟨b, off, e, hb, hc 0 _ rfl, hc 1 _ rfl, hc 2 _ rfl, hc 3 _ rfl⟩

instance : Inhabited Ln := ⟨⟨0, 0, 0, 0⟩⟩
def inB (n l h : Int) : Bool := decide (l ≤ n) && decide (n ≤ h)
def lineB (o k a t : Int) : Bool := inB o 1 9999 && inB k 1 3 && inB a 1 100000 && inB t 0 100000
def eqLn (x y : Ln) : Bool := x.o == y.o && x.k == y.k && x.a == y.a && x.t == y.t
theorem eqLn_iff {x y : Ln} : eqLn x y = true ↔ x = y := by
  cases x; cases y; simp [eqLn, and_assoc]
theorem eqLn_not {x y : Ln} (h : eqLn x y = false) : x ≠ y := by
  intro e
  rw [eqLn_iff.2 e] at h
  cases h
instance : DecidableEq Ln := fun _ _ => decidable_of_iff _ eqLn_iff
def sumStep (o k : Int) (s : Int) (x : Ln) : Int := if (x.o == o && x.k == k) = true then wrap64 (s + x.a) else s
def sumLn (xs : List Ln) (o k : Int) : Int := xs.foldl (sumStep o k) 0
def pctAt (xs : List Int) (j : Nat) : Bool := inB (xs.getD j 0) 0 100 && (decide (j = 0) || decide (xs.getD (j - 1) 0 ≤ xs.getD j 0))
def pctsB (xs : List Int) : Bool := allTo xs.length (pctAt xs) && inB xs.length 1 6
theorem pctAt_out {xs : List Int} {i : Nat} {x : Int} (hx : xs[i]? = some x) (h : inB x 0 100 = false) : pctAt xs i = false := by simp [pctAt, hx, h]
theorem pctAt_zero {xs : List Int} {i : Nat} {x : Int} (h0 : i ≤ 0) (hx : xs[i]? = some x) (h : inB x 0 100 = true) : pctAt xs i = true := by
  obtain rfl : i = 0 := by omega
  simp [pctAt, hx, h]
theorem pctAt_down {xs : List Int} {i : Nat} {x y : Int} (hy : xs[i]? = some y) (hx : xs[i + 1]? = some x) (h : x < y) : pctAt xs (i + 1) = false := by
  simp [pctAt, hx, hy]; omega
theorem pctAt_up {xs : List Int} {i : Nat} {x y : Int} (hy : xs[i]? = some y) (hx : xs[i + 1]? = some x) (hb : inB x 0 100 = true) (h : ¬ x < y) : pctAt xs (i + 1) = true := by
  simp [pctAt, hx, hy, hb]; omega
theorem pctsB_false {xs : List Int} {i : Nat} (hi : i < xs.length) (h : pctAt xs i = false) : pctsB xs = false := by simp [pctsB, allTo_false hi h]
theorem pctsB_len {xs : List Int} (h : allTo xs.length (pctAt xs) = true) : pctsB xs = inB xs.length 1 6 := by simp [pctsB, h]
theorem inB_true {n l h : Int} (e : inB n l h = true) : l ≤ n ∧ n ≤ h := by simpa [inB] using e
theorem inB_of {n l h : Int} (e : l ≤ n ∧ n ≤ h) : inB n l h = true := by simpa [inB] using e
theorem pcts_get {xs : List Int} (h : pctsB xs = true) : 1 ≤ xs.length ∧ xs.length ≤ 6 ∧ ∀ (i : Nat) (x : Int), xs[i]? = some x → 0 ≤ x ∧ x ≤ 100 := by
  simp only [pctsB, Bool.and_eq_true] at h
  have h2 := inB_true h.2
  refine ⟨by omega, by omega, fun i x hx => ?_⟩
  have h3 := allTo_iff.1 h.1 i (lt_of_get hx)
  simp [pctAt, hx] at h3
  exact inB_true h3.1
def pctOf (c x : Int) : Int := wrap64 ((wrap64 (c * x)).tdiv 100)
def refundOk (charge due ended : Int) (ps : List Int) : Bool := pctsB ps && inB charge 0 100000 && inB due 0 200000 && inB ended 0 200000 && !decide (ended ≤ due)
def refundAt (due ended : Int) (ps : List Int) : Nat := if (ended - due - 1) / 1440 < (ps.length : Int) then ((ended - due - 1) / 1440).toNat else ps.length - 1
def refundV (charge due ended : Int) (ps : List Int) : Int := if refundOk charge due ended ps then pctOf charge (ps.getD (refundAt due ended ps) 0) else 0

def cntStep (o k : Int) (s : Int) (x : Ln) : Int := if (x.o == o && x.k == k) = true then wrap64 (s + 1) else s
def cntLn (xs : List Ln) (o k : Int) : Int := xs.foldl (cntStep o k) 0
theorem cnt_sum_aux (o k : Int) : ∀ (b : List Ln) (c s : Int), (∀ x ∈ b, 1 ≤ x.a ∧ x.a ≤ 100000) → 0 ≤ c → c + b.length ≤ 200 → c ≤ s → s ≤ 100000 * c →
    0 ≤ b.foldl (cntStep o k) c ∧ b.foldl (cntStep o k) c ≤ c + b.length ∧ b.foldl (cntStep o k) c ≤ b.foldl (sumStep o k) s ∧ b.foldl (sumStep o k) s ≤ 100000 * b.foldl (cntStep o k) c
  | [], c, s, _, h0, hl, h1, h2 => ⟨h0, by simp, h1, h2⟩
  | x :: b, c, s, ha, h0, hl, h1, h2 => by
    have hx := ha x (by simp)
    simp only [List.length_cons] at hl
    have e1 : wrap64 (c + 1) = c + 1 := IntWalk.wrap64_in _ ⟨by omega, by omega⟩
    have e2 : wrap64 (s + x.a) = s + x.a := IntWalk.wrap64_in _ ⟨by omega, by omega⟩
    by_cases h : (x.o == o && x.k == k) = true
    · have r := cnt_sum_aux o k b (c + 1) (s + x.a) (fun y hy => ha y (by simp [hy])) (by omega) (by omega) (by omega) (by omega)
      simp only [List.foldl_cons, cntStep, sumStep, h, if_true, e1, e2] at r ⊢
      refine ⟨r.1, ?_, r.2.2.1, r.2.2.2⟩
      have := r.2.1
      simp only [List.length_cons]; omega
    · have r := cnt_sum_aux o k b c s (fun y hy => ha y (by simp [hy])) h0 (by omega) h1 h2
      simp only [List.foldl_cons, cntStep, sumStep, if_neg h] at r ⊢
      refine ⟨r.1, ?_, r.2.2.1, r.2.2.2⟩
      have := r.2.1
      simp only [List.length_cons]; omega
theorem cnt_sum {b : List Ln} (o k : Int) (ha : ∀ x ∈ b, 1 ≤ x.a ∧ x.a ≤ 100000) (hl : b.length ≤ 200) : 0 ≤ cntLn b o k ∧ cntLn b o k ≤ b.length ∧ cntLn b o k ≤ sumLn b o k ∧ sumLn b o k ≤ 100000 * cntLn b o k := by
  have r := cnt_sum_aux o k b 0 0 ha (by omega) (by omega) (by omega) (by omega)
  refine ⟨r.1, by have := r.2.1; unfold cntLn; omega, r.2.2.1, r.2.2.2⟩

/-! ### AreLines -/
/-- The line at i is no line, or is ahead of the one before it. -/
def badAt (xs : List Ln) (i : Nat) (x : Ln) : Bool := !(lineB x.o x.k x.a x.t) || (decide (0 < i) && decide (x.t < (xs.getD (i - 1) default).t))
/-- What the line at i must fit: b: the lines before it. -/
def fitB (b : List Ln) (x : Ln) : Bool :=
  if x.k = 1 then !decide (0 < sumLn b x.o 1)
  else if x.k = 2 then !decide (sumLn b x.o 1 < wrap64 (sumLn b x.o 2 + x.a))
  else !decide (0 < sumLn b x.o 3) && (sumLn b x.o 2 == sumLn b x.o 1) && !decide (sumLn b x.o 1 < x.a)
def lineAt (xs : List Ln) (i : Nat) : Bool := !(badAt xs i (xs.getD i default)) && fitB (xs.take i) (xs.getD i default)
def linesB (xs : List Ln) : Bool := decide (xs.length ≤ 200) && allTo xs.length (lineAt xs)
theorem linesB_long {xs : List Ln} (h : ¬ xs.length ≤ 200) : linesB xs = false := by simp [linesB, h]
theorem linesB_bad {xs : List Ln} {i : Nat} {x : Ln} (hx : xs[i]? = some x) (h : badAt xs i x = true) : linesB xs = false := by
  have : lineAt xs i = false := by simp [lineAt, hx, h]
  simp [linesB, allTo_false (lt_of_get hx) this]
theorem linesB_unfit {xs : List Ln} {i : Nat} {x : Ln} (hx : xs[i]? = some x) (h : fitB (xs.take i) x = false) : linesB xs = false := by
  have : lineAt xs i = false := by simp [lineAt, hx, h]
  simp [linesB, allTo_false (lt_of_get hx) this]
theorem lineAt_ok {xs : List Ln} {i : Nat} {x : Ln} (hx : xs[i]? = some x) (hb : badAt xs i x = false) (h : fitB (xs.take i) x = true) : lineAt xs i = true := by simp [lineAt, hx, h, hb]
theorem linesB_all {xs : List Ln} (h : xs.length ≤ 200) (ha : allTo xs.length (lineAt xs) = true) : linesB xs = true := by simp [linesB, h, ha]
theorem bad_line {xs : List Ln} {i : Nat} {x : Ln} (h : lineB x.o x.k x.a x.t = false) : badAt xs i x = true := by simp [badAt, h]
theorem bad_first {xs : List Ln} {i : Nat} {x : Ln} (h : lineB x.o x.k x.a x.t = true) (h0 : i ≤ 0) : badAt xs i x = false := by simp [badAt, h]; omega
theorem bad_next {xs : List Ln} {m : Nat} {x y : Ln} (h : lineB x.o x.k x.a x.t = true) (hy : xs[m]? = some y) : badAt xs (m + 1) x = decide (x.t < y.t) := by simp [badAt, h, hy]
theorem line_of_bad {xs : List Ln} {i : Nat} {x : Ln} (h : badAt xs i x = false) : lineB x.o x.k x.a x.t = true := by
  simp only [badAt, Bool.or_eq_false_iff, Bool.not_eq_false'] at h; exact h.1
theorem fit1 {b : List Ln} {x : Ln} (hk : x.k = 1) : fitB b x = !decide (0 < sumLn b x.o 1) := by simp [fitB, hk]
theorem fit2 {b : List Ln} {x : Ln} (hk : x.k = 2) : fitB b x = !decide (sumLn b x.o 1 < wrap64 (sumLn b x.o 2 + x.a)) := by simp [fitB, hk]
theorem fit3 {b : List Ln} {x : Ln} (hk : x.k = 3) : fitB b x = (!decide (0 < sumLn b x.o 3) && (sumLn b x.o 2 == sumLn b x.o 1) && !decide (sumLn b x.o 1 < x.a)) := by simp [fitB, hk]
theorem amount_of {x : Ln} (h : lineB x.o x.k x.a x.t = true) : 1 ≤ x.a ∧ x.a ≤ 100000 := by
  simp only [lineB, Bool.and_eq_true] at h
  exact inB_true h.1.2
theorem take_amounts {xs : List Ln} {i : Nat} (h : allTo i (lineAt xs) = true) : ∀ x ∈ xs.take i, 1 ≤ x.a ∧ x.a ≤ 100000 := by
  intro x hx
  obtain ⟨j, hj⟩ := List.getElem?_of_mem hx
  rw [List.getElem?_take] at hj
  split at hj
  · rename_i hlt
    have h1 := allTo_iff.1 h j hlt
    simp only [lineAt, List.getD_eq_getElem?_getD, hj, Option.getD_some, Bool.and_eq_true, Bool.not_eq_true'] at h1
    exact amount_of (line_of_bad h1.1)
  · cases hj
theorem cnt_pos {xs : List Ln} {i : Nat} (o k : Int) (h : allTo i (lineAt xs) = true) (hl : i ≤ 200) : decide (0 < cntLn (xs.take i) o k) = decide (0 < sumLn (xs.take i) o k) := by
  have r := cnt_sum o k (take_amounts h) (by rw [List.length_take]; omega)
  rw [decide_eq_decide]
  omega
theorem kind_of {x : Ln} (h : lineB x.o x.k x.a x.t = true) : x.k = 1 ∨ x.k = 2 ∨ x.k = 3 := by
  simp only [lineB, Bool.and_eq_true] at h
  have := inB_true h.1.1.2
  omega

/-! ### what is owed, cash, charging, paying -/
def owedV (xs : List Ln) (o : Int) : Int := if linesB xs then wrap64 (sumLn xs o 1 - sumLn xs o 2) else 0
def cashStep (s : Int) (x : Ln) : Int := if (x.k == 2) = true then wrap64 (s + x.a) else if (x.k == 3) = true then wrap64 (s - x.a) else s
def cashLn (xs : List Ln) : Int := xs.foldl cashStep 0
def cashV (xs : List Ln) : Int := if linesB xs then cashLn xs else 0
theorem owedV_ok {xs : List Ln} {o : Int} (h : linesB xs = true) : owedV xs o = wrap64 (sumLn xs o 1 - sumLn xs o 2) := by simp [owedV, h]
theorem owedV_no {xs : List Ln} {o : Int} (h : linesB xs = false) : owedV xs o = 0 := by simp [owedV, h]
theorem cashV_ok {xs : List Ln} (h : linesB xs = true) : cashV xs = cashLn xs := by simp [cashV, h]
theorem cashV_no {xs : List Ln} (h : linesB xs = false) : cashV xs = 0 := by simp [cashV, h]
def postV (xs : List Ln) (x : Ln) : List Ln × Int := if 200 ≤ xs.length then (xs, 5) else if linesB (xs ++ [x]) = true then (xs ++ [x], 0) else (xs, 1)
theorem postV_full {xs : List Ln} {x : Ln} (h : 200 ≤ xs.length) : postV xs x = (xs, 5) := by simp [postV, h]
theorem postV_ok {xs : List Ln} {x : Ln} (h : ¬ 200 ≤ xs.length) (h1 : linesB (xs ++ [x]) = true) : postV xs x = (xs ++ [x], 0) := by simp [postV, h, h1]
theorem postV_bad {xs : List Ln} {x : Ln} (h : ¬ 200 ≤ xs.length) (h1 : linesB (xs ++ [x]) = false) : postV xs x = (xs, 1) := by simp [postV, h, h1]
def chargeV (xs : List Ln) (o a t : Int) : List Ln × Int :=
  if linesB xs = false then (xs, 1) else if lineB o 1 a t = false then (xs, 1) else if decide (0 < sumLn xs o 1) = true then (xs, 2) else postV xs ⟨o, 1, a, t⟩
def payV (xs : List Ln) (o a t : Int) : List Ln × Int :=
  if linesB xs = false then (xs, 1) else if lineB o 2 a t = false then (xs, 1) else if (sumLn xs o 1 == 0) = true then (xs, 3) else if decide (owedV xs o < a) = true then (xs, 4) else postV xs ⟨o, 2, a, t⟩
def refundO (xs : List Ln) (o du en : Int) (ps : List Int) (t : Int) : List Ln × Int :=
  if linesB xs = false then (xs, 1) else if pctsB ps = false then (xs, 1) else if inB o 1 9999 = false then (xs, 1) else if inB t 0 100000 = false then (xs, 1)
  else if (sumLn xs o 1 == 0) = true then (xs, 3) else if decide (0 < owedV xs o) = true then (xs, 3) else if decide (0 < sumLn xs o 3) = true then (xs, 2)
  else if (refundV (sumLn xs o 1) du en ps == 0) = true then (xs, 4) else postV xs ⟨o, 3, refundV (sumLn xs o 1) du en ps, t⟩
theorem cnt_pos' {xs : List Ln} (o k : Int) (h : linesB xs = true) : decide (0 < cntLn xs o k) = decide (0 < sumLn xs o k) := by
  simp only [linesB, Bool.and_eq_true, decide_eq_true_eq] at h
  have := cnt_pos (xs := xs) (i := xs.length) o k h.2 h.1
  rwa [List.take_length] at this

def markL (n : Nat) : List Ln := (List.range n).map fun i : Nat => ⟨1 + 4 * i, 1 + 4 * i + 1, 1 + 4 * i + 1 + 1, 1 + 4 * i + 1 + 1 + 1⟩
theorem markL_len (n : Nat) : (markL n).length = n := by simp [markL]
theorem markL_get {n i : Nat} (h : i < n) : (markL n)[i]? = some ⟨1 + 4 * i, 1 + 4 * i + 1, 1 + 4 * i + 1 + 1, 1 + 4 * i + 1 + 1 + 1⟩ := by simp [markL, h]
theorem flat_ln {xs : List Ln} {i : Nat} {x : Ln} (hx : xs[i]? = some x) : (flat xs)[i * 4]? = some (I x.o) ∧ (flat xs)[i * 4 + 1]? = some (I x.k) ∧ (flat xs)[i * 4 + 2]? = some (I x.a) ∧ (flat xs)[i * 4 + 3]? = some (I x.t) :=
  ⟨flat_at hx (j := 0) rfl, flat_at hx (j := 1) rfl, flat_at hx (j := 2) rfl, flat_at hx (j := 3) rfl⟩
end Go.Proofs.Ytooikkfldddjfaa
