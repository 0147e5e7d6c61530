/- A part of the proof of the statement in the last file of this claim: texts on the language of the program and on its functions. No condition. -/
import Derived.WalkKit
import Derived.WalkSpells
import Derived.WalkLawsBesides
import Derived.Below
import Derived.Lib.Hide
import Derived.Outline
import Derived.Laws.OwnMore
import Derived.Maps.AppendAt
import Derived.Deep.Draws
import Derived.Deep.QuietTactic
import Derived.BigQuiet
import Derived.Test.YtapllnlclgbbkaaDoorProg
import Derived.Deep.DeepCutAuto
import Derived.StillTailTactics
import Derived.Deep.RegionHeld3
import Derived.Laws.AppendOwnNone
import Derived.Deep.AppendLies
/- Small lemmas of my own on memory: a slice that reads as_ a list of values of a codec; folds over the first elements. No program in sight. -/
namespace Go.Proofs.YtapllnlclgbbkaaDoor
set_option maxRecDepth 10000
open Go.RowKit

abbrev I (n : Int) : Value := .int .i64 n
def InI (n : Int) : Prop := -9223372036854775808 ≤ n ∧ n ≤ 9223372036854775807

/-- How a value of a type lies in cells. -/
class Enc (α : Type) where
  cells : α → List Value
  k : Nat
  len : ∀ x, (cells x).length = k
  pos : 0 < k
  one : ∀ x, ∀ u ∈ cells x, u.oneCell' = true

instance : Enc Int where
  cells x := [I x]
  k := 1
  len _ := rfl
  pos := by decide
  one := by simp [Value.oneCell', I]

def flat {α : Type} [Enc α] (xs : List α) : List Value := xs.flatMap Enc.cells

section flat
variable {α : Type} [Enc α]
theorem flat_nil : flat ([] : List α) = [] := rfl
theorem flat_cons (x : α) (xs : List α) : flat (x :: xs) = Enc.cells x ++ flat xs := rfl
theorem flat_append (xs ys : List α) : flat (xs ++ ys) = flat xs ++ flat ys := by simp [flat]
theorem flat_one (x : α) : flat [x] = Enc.cells x := by simp [flat]
theorem flat_len (xs : List α) : (flat xs).length = xs.length * Enc.k α := by
  induction xs with
  | nil => simp [flat]
  | cons x xs ih => rw [flat_cons, List.length_append, ih, Enc.len, List.length_cons, Nat.add_mul, Nat.one_mul, Nat.add_comm]
theorem flat_oneCell (xs : List α) : ∀ u ∈ flat xs, u.oneCell' = true := by
  intro u hu
  obtain ⟨x, _, hx⟩ := List.mem_flatMap.1 hu
  exact Enc.one x u hx
theorem flat_at {xs : List α} {i : Nat} {x : α} (hx : xs[i]? = some x) {j : Nat} {u : Value} (hu : (Enc.cells x)[j]? = some u) : (flat xs)[i * Enc.k α + j]? = some u := by
  induction xs generalizing i with
  | nil => simp at hx
  | cons y ys ih =>
    have hl := Enc.len (α := α) y
    cases i with
    | zero =>
      obtain rfl : y = x := by simpa using hx
      have hj : j < (Enc.cells y).length := (List.getElem?_eq_some_iff.1 hu).1
      rw [flat_cons, Nat.zero_mul, Nat.zero_add, List.getElem?_append_left hj, hu]
    | succ i =>
      have h1 := ih (i := i) (by simpa using hx)
      rw [flat_cons, List.getElem?_append_right (by rw [hl, Nat.succ_mul]; omega), ← h1]
      congr 1
      rw [hl, Nat.succ_mul]; omega
theorem flat_take (xs : List α) (n : Nat) : (flat xs).take (n * Enc.k α) = flat (xs.take n) := by
  induction xs generalizing n with
  | nil => simp [flat]
  | cons y ys ih =>
    cases n with
    | zero => simp [flat]
    | succ n =>
      rw [flat_cons, List.take_succ_cons, flat_cons, List.take_append, Enc.len, ← ih, List.take_of_length_le (by rw [Enc.len, Nat.succ_mul]; omega)]
      congr 2
      rw [Nat.succ_mul]; omega
end flat

/-- The slice (A, xs.length) reads in w as_ xs; it lies below block B. -/
def Rd {α : Type} [Enc α] (w : World) (B : Nat) (A : Option Addr) (xs : List α) : Prop :=
  xs ≠ [] → ∃ b off, A = some ⟨b, off, none⟩ ∧ b < B ∧ ∀ j u, (flat xs)[j]? = some u → w.cell? ⟨b, off + j, none⟩ = some u

section rd
variable {α : Type} [Enc α] {w w' : World} {B B' : Nat} {A : Option Addr} {xs : List α}
theorem Rd.nil_ : Rd w B A ([] : List α) := fun h => absurd rfl h
theorem Rd.at_ {i : Nat} {x : α} (h : Rd w B A xs) (hx : xs[i]? = some x) :
    ∃ b off, A = some ⟨b, off, none⟩ ∧ b < B ∧ ∀ j u, (Enc.cells x)[j]? = some u → w.cell? ⟨b, off + i * Enc.k α + j, none⟩ = some u := by
  obtain ⟨b, off, e, hb, hc⟩ := h (by rintro rfl; simp at hx)
  exact ⟨b, off, e, hb, fun j u hu => by rw [Nat.add_assoc]; exact hc _ u (flat_at hx hu)⟩
theorem Rd.keep (h : Rd w B A xs) (hk : ∀ b o, b < B → w'.cell? ⟨b, o, none⟩ = w.cell? ⟨b, o, none⟩) : Rd w' B A xs := fun hn => by
  obtain ⟨b, off, e, hb, hc⟩ := h hn
  exact ⟨b, off, e, hb, fun j u hu => (hk _ _ hb).trans (hc j u hu)⟩
theorem Rd.more (h : Rd w B A xs) (hB : B ≤ B') : Rd w B' A xs := fun hn => by
  obtain ⟨b, off, e, hb, hc⟩ := h hn
  exact ⟨b, off, e, by omega, hc⟩
theorem Rd.below (h : Rd w B A xs) (hb : Below B w w') : Rd w' B A xs := h.keep fun b o hp => hb.cell (p := ⟨b, o, none⟩) hp
theorem Rd.take_ (h : Rd w B A xs) (n : Nat) : Rd w B A (xs.take n) := fun hn => by
  obtain ⟨b, off, e, hb, hc⟩ := h (by rintro rfl; simp at hn)
  refine ⟨b, off, e, hb, fun j u hu => hc j u ?_⟩
  rw [← flat_take, List.getElem?_take] at hu
  split at hu
  · exact hu
  · cases hu
end rd

/-- A fresh slice of the call's own (from block B on) that holds xs. -/
def Own {α : Type} [Enc α] (w : World) (B : Nat) (E : TypeId) (v : Value) (xs : List α) : Prop := w.ownsRow B E (Enc.k α) v xs.length (flat xs)

theorem take_snoc {α : Type} {xs : List α} {i : Nat} {x : α} (hx : xs[i]? = some x) : xs.take (i + 1) = xs.take i ++ [x] := by
  rw [List.take_add_one, hx]; rfl
theorem drop_cons {α : Type} {xs : List α} {i : Nat} {x : α} (hx : xs[i]? = some x) : xs.drop i = x :: xs.drop (i + 1) := by
  obtain ⟨h, rfl⟩ := List.getElem?_eq_some_iff.1 hx
  exact List.drop_eq_getElem_cons h
theorem get_of_lt {α : Type} {xs : List α} {i : Nat} (h : i < xs.length) : ∃ x, xs[i]? = some x := ⟨xs[i], List.getElem?_eq_getElem h⟩
theorem lt_of_get {α : Type} {xs : List α} {i : Nat} {x : α} (hx : xs[i]? = some x) : i < xs.length := (List.getElem?_eq_some_iff.1 hx).1
theorem foldl_snoc {α β : Type} {xs : List α} {i : Nat} {x : α} (hx : xs[i]? = some x) (f : β → α → β) (a : β) : (xs.take (i + 1)).foldl f a = f ((xs.take i).foldl f a) x := by
  rw [take_snoc hx, List.foldl_append]; rfl
theorem bcell {W w1 : World} (hb : Below W.heap.size W w1) : (∀ b o, b < W.heap.size → w1.cell? ⟨b, o, none⟩ = W.cell? ⟨b, o, none⟩) ∧ (∀ b o, b < W.heap.size → w1.frozen? ⟨b, o, none⟩ = W.frozen? ⟨b, o, none⟩) :=
  ⟨fun b o h => hb.cell (p := ⟨b, o, none⟩) h, fun b o h => hb.frozen (p := ⟨b, o, none⟩) h⟩
theorem bcellD {W w1 : World} (hb : Below W.drew.heap.size W.drew w1) : (∀ b o, b < W.heap.size → w1.cell? ⟨b, o, none⟩ = W.cell? ⟨b, o, none⟩) ∧ (∀ b o, b < W.heap.size → w1.frozen? ⟨b, o, none⟩ = W.frozen? ⟨b, o, none⟩) :=
  ⟨fun b o h => hb.cell (p := ⟨b, o, none⟩) h, fun b o h => hb.frozen (p := ⟨b, o, none⟩) h⟩
theorem Below.next {B : Nat} {a b c : World} (h : Below B a b) (k : Below b.heap.size b c) (hB : B ≤ b.heap.size) : Below B a c := h.trans (k.mono hB)
abbrev Up (w w' : World) : Prop := Below w.heap.size w w'
theorem Up.rfl' (w : World) : Up w w := Below.refl _ _
theorem Up.step {a b c : World} (k : Up b c) (h : Up a b) : Up a c := Below.trans h (Below.mono k h.size)
theorem Up.al {a b : World} (o : Obj) (h : Up a b) : Up a (b.alloc o) := Below.alloc h h.size o
theorem Up.sc {a b : World} {p : Addr} (h : Up a b) (hp : a.heap.size ≤ p.block) (u : Value) : Up a (b.setCell p u) := Below.setCell h hp u
theorem Up.dr {a b : World} (n : Nat) (h : Up a b) : Up a (b.drewN n) := ⟨h.os, h.tape, h.output, h.size, h.block⟩
theorem Up.dr1 {a b : World} (h : Up a b) : Up a b.drew := Below.drew h
theorem Rd.up {α : Type} [Enc α] {w w' : World} {A : Option Addr} {xs : List α} (h : Rd w w.heap.size A xs) (hb : Up w w') : Rd w' w'.heap.size A xs := (h.below hb).more hb.size
theorem Own.rd {α : Type} [Enc α] {w : World} {B E : Nat} {A : Option Addr} {c n : Nat} {xs : List α} (h : Own w B E (.slice A n c) xs) : Rd w w.heap.size A xs := by
  intro hne
  have hpos : 0 < xs.length := List.length_pos_iff.2 hne
  rcases h.2 with ⟨_, h0⟩ | ⟨g, cap, cur, hv, hB, hg, hnc, hcm, hcs, ht⟩
  · omega
  · have hA : A = some ⟨g, 0, none⟩ := by injection hv
    refine ⟨g, 0, hA, (Array.getElem?_eq_some_iff.1 hg).1, fun j u hu => ?_⟩
    rw [Nat.zero_add, cell_of_row w g j cur E (0, 0) hg]
    rw [← ht, List.getElem?_take] at hu
    split at hu
    · simpa using hu
    · cases hu
theorem Own.up {α : Type} [Enc α] {w w' : World} {B E : Nat} {v : Value} {xs : List α} (h : Own w B E v xs) (hb : Up w w') : Own w' B E v xs := by
  refine ⟨h.1, ?_⟩
  rcases h.2 with h2 | ⟨g, cap, cur, hv, hB, hg, r⟩
  · exact .inl h2
  · exact .inr ⟨g, cap, cur, hv, hB, (hb.block g (Array.getElem?_eq_some_iff.1 hg).1).trans hg, r⟩
theorem belowD {B : Nat} {a w : World} (h : Below B a w) (n : Nat) : Below B a (w.drewN n) := ⟨h.os, h.tape, h.output, h.size, h.block⟩
theorem take_snoc_eq {α : Type} {xs ys : List α} {i : Nat} {x y : α} (h : xs.take i = ys.take i) (hx : xs[i]? = some x) (hy : ys[i]? = some y) (e : x = y) : xs.take (i + 1) = ys.take (i + 1) := by
  rw [take_snoc hx, take_snoc hy, h, e]
theorem eq_of_take {α : Type} {xs ys : List α} {i : Nat} (h : xs.take i = ys.take i) (hx : xs.length ≤ i) (hy : ys.length ≤ i) : xs = ys := by
  rwa [List.take_of_length_le hx, List.take_of_length_le hy] at h
theorem ne_of_get {α : Type} {xs ys : List α} {i : Nat} {x y : α} (hx : xs[i]? = some x) (hy : ys[i]? = some y) (e : x ≠ y) : ¬ xs = ys := by
  rintro rfl
  rw [hx] at hy
  exact e (Option.some.inj hy)
theorem ne_of_len {α : Type} {xs ys : List α} (e : xs.length ≠ ys.length) : ¬ xs = ys := by rintro rfl; exact e rfl
theorem retF {p : Prop} [Decidable p] (h : ¬ p) : Ending.returned (.bool false) = .returned (.bool (decide p)) := by rw [decide_eq_false h]
theorem retT {p : Prop} [Decidable p] (h : p) : Ending.returned (.bool true) = .returned (.bool (decide p)) := by rw [decide_eq_true h]
theorem retb {a b : Bool} (h : a = b) : Ending.returned (.bool a) = .returned (.bool b) := by rw [h]
theorem reti {a b : Int} (h : a = b) : Ending.returned (.int .i64 a) = .returned (.int .i64 b) := by rw [h]
theorem retv {a b : Value} (h : a = b) : Ending.returned a = .returned b := by rw [h]


def allTo (n : Nat) (f : Nat → Bool) : Bool := (List.range n).all f
theorem allTo_zero (f : Nat → Bool) : allTo 0 f = true := rfl
theorem allTo_succ {n : Nat} {f : Nat → Bool} (h : allTo n f = true) (hn : f n = true) : allTo (n + 1) f = true := by
  simp only [allTo, List.range_succ, List.all_append, List.all_cons, List.all_nil, Bool.and_true, Bool.and_eq_true]
  exact ⟨h, hn⟩
theorem allTo_false {n i : Nat} {f : Nat → Bool} (hi : i < n) (h : f i = false) : allTo n f = false := by
  simp only [allTo, List.all_eq_false, List.mem_range]
  exact ⟨i, hi, by simp [h]⟩
theorem allTo_iff {n : Nat} {f : Nat → Bool} : allTo n f = true ↔ ∀ i, i < n → f i = true := by simp [allTo]
theorem getD_of {α : Type} {xs : List α} {i : Nat} {x : α} (hx : xs[i]? = some x) (d : α) : xs.getD i d = x := by rw [List.getD_eq_getElem?_getD, hx]; rfl

theorem quietL {P : Program} {f : FuncId} {args : Array Value} {w : World} {n : Nat} {v : Value}
    (h : Calls P f args (w.drewN n) fun e w' => e = .returned v ∧ w.drewN n = w') : Calls P f args (w.drewN n) fun e w'' => e = .returned v ∧ ∃ m, w'' = w.drewN m :=
  h.mono fun _ _ ⟨he, hm⟩ => ⟨he, n, hm.symm⟩

/-- What is left behind n things; -1 where they are too many. -/
def szTo (l : Int) (n : Nat) : Int := if l < n then -1 else l - n
theorem szTo_neg {l : Int} {n : Nat} (h : l < n) : szTo l n = -1 := if_pos h
theorem szTo_pos {l : Int} {n : Nat} (h : ¬ l < n) : szTo l n = l - n := if_neg h

theorem run_mk {P : Program} (t e : TypeId) (i : TypeInfo) (z : Value) (ht : P.underlying t = some (.slice e)) (hi : P.info? e = some i) (hz : i.zero = some z)
    (n : Nat) (hbytes : i.bytes * n ≤ 281474976710656) (h63 : n ≤ 9223372036854775807) (w : World) :
    (Instr.makeSlice t (.int .i64 (n : Int)) (.int .i64 (n : Int))).run P w = .ok (.slice (some ⟨w.heap.size, 0, none⟩) n n) (w.alloc (.cells (madeCells z.cells (n * i.size)) e)) := by
  have hb : (i.bytes : Int) * (n : Int) ≤ 281474976710656 := by
    have h : ((i.bytes * n : Nat) : Int) ≤ 281474976710656 := by omega
    rwa [Int.natCast_mul] at h
  have hr := run_make (P := P) w t e i z ht hi hz .i64 .i64 n n (by omega) (by omega) hb (by omega)
  simp only [Int.toNat_natCast] at hr
  exact hr

/-- Block g holds a row of n elements of k cells, of the call's own (from B on): its first i elements are ys's. -/
def Filling (w : World) (B : Nat) (E : TypeId) (k : Nat) (g n i : Nat) (ys : List Value) : Prop :=
  ∃ cs : Array Value, w.heap[g]? = some (.cells cs E (0, 0)) ∧ B ≤ g ∧ cs.size = n * k ∧ n ≤ maxLen ∧ cs.toList.take (i * k) = ys.take (i * k)

theorem Filling.start (w : World) (B E k n : Nat) (z : Array Value) (ys : List Value) (hB : B ≤ w.heap.size) (hn : n ≤ maxLen) :
    Filling (w.alloc (.cells (madeCells z (n * k)) E)) B E k w.heap.size n 0 ys :=
  ⟨_, heap_alloc_new w _, hB, by simp [madeCells], hn, by simp⟩
theorem Filling.cell {w : World} {B E k g n i : Nat} {ys : List Value} (h : Filling w B E k g n i ys) {j : Nat} (hj : j < n * k) : ∃ u, w.cell? ⟨g, j, none⟩ = some u := by
  obtain ⟨cs, hh, _, hs, _⟩ := h
  exact ⟨cs[j]'(by omega), by rw [cell_of_row w g j cs E (0, 0) hh]; exact Array.getElem?_eq_getElem _⟩
theorem Filling.frozen {w : World} {B E k g n i : Nat} {ys : List Value} (h : Filling w B E k g n i ys) (j : Nat) : w.frozen? ⟨g, j, none⟩ = false := by
  obtain ⟨cs, hh, _⟩ := h
  exact frozen_of_row w g j cs E hh
theorem Filling.kept {w w' : World} {B E k g n i : Nat} {ys : List Value} (h : Filling w B E k g n i ys) (hb : Below w.heap.size w w') : Filling w' B E k g n i ys := by
  obtain ⟨cs, hh, r⟩ := h
  exact ⟨cs, (hb.block g (Array.getElem?_eq_some_iff.1 hh).1).trans hh, r⟩
theorem Filling.lt {w : World} {B E k g n i : Nat} {ys : List Value} (h : Filling w B E k g n i ys) : B ≤ g ∧ g < w.heap.size := by
  obtain ⟨cs, hh, hB, _⟩ := h
  exact ⟨hB, (Array.getElem?_eq_some_iff.1 hh).1⟩
theorem Filling.own {α : Type} [Enc α] {w : World} {B E g n : Nat} {ys : List α} (h : Filling w B E (Enc.k α) g n n (flat ys)) (hn : ys.length = n) :
    Own w B E (.slice (some ⟨g, 0, none⟩) n n) ys := by
  obtain ⟨cs, hh, hB, hs, hm, ht⟩ := h
  subst hn
  have e1 : (flat ys).take (ys.length * Enc.k α) = flat ys := List.take_of_length_le (by rw [flat_len]; omega)
  exact ⟨flat_len ys, .inr ⟨g, _, cs, rfl, hB, hh, Nat.le_refl _, hm, hs, by rw [ht, e1]⟩⟩
theorem Filling.start1 (w : World) (B E N : Nat) (z : Array Value) (ys : List Value) (hB : B ≤ w.heap.size) (hn : N ≤ maxLen) :
    Filling (w.alloc (.cells (madeCells z N) E)) B E 1 w.heap.size N 0 ys :=
  ⟨_, heap_alloc_new w _, hB, by simp [madeCells], hn, by simp⟩
theorem Filling.ownk {α : Type} [Enc α] {w : World} {B E g n N : Nat} {ys : List α} (h : Filling w B E 1 g N N (flat ys)) (hN : N = n * Enc.k α) (hn : ys.length = n) (hm : n ≤ maxLen) :
    Own w B E (.slice (some ⟨g, 0, none⟩) n n) ys := by
  obtain ⟨cs, hh, hB, hs, _, ht⟩ := h
  subst hn hN
  have e1 : (flat ys).take (ys.length * Enc.k α) = flat ys := List.take_of_length_le (by rw [flat_len]; omega)
  rw [Nat.mul_one] at ht hs
  exact ⟨flat_len ys, .inr ⟨g, _, cs, rfl, hB, hh, Nat.le_refl _, hm, hs, by rw [ht, e1]⟩⟩
theorem set_take {cs : List Value} {j m : Nat} (v : Value) (h : m ≤ j) : (cs.set j v).take m = cs.take m := by
  rw [List.take_set_of_le h]
theorem take_set_succ {cs ys : List Value} {j : Nat} {v : Value} (hj : j < cs.length) (hy : ys[j]? = some v) (h : cs.take j = ys.take j) : (cs.set j v).take (j + 1) = ys.take (j + 1) := by
  rw [List.take_add_one, List.take_add_one, hy, set_take v (Nat.le_refl _), h]
  simp [hj]
theorem Filling.set1 {w : World} {B E g n i : Nat} {ys : List Value} {v : Value} (h : Filling w B E 1 g n i ys) (hi : i < n) (hy : ys[i]? = some v) :
    Filling (w.setCell ⟨g, i, none⟩ v) B E 1 g n (i + 1) ys := by
  obtain ⟨cs, hh, hB, hs, hm, ht⟩ := h
  refine ⟨cs.setIfInBounds i v, heap_setCell_same w g i cs E v hh, hB, by simpa using hs, hm, ?_⟩
  rw [Nat.mul_one] at ht
  rw [Nat.mul_one, Array.toList_setIfInBounds]
  exact take_set_succ (by simp; omega) hy ht
end Go.Proofs.YtapllnlclgbbkaaDoor

/- Plain functions of the money chapter: lines, sums. No program in sight. -/
namespace Go.Proofs.YtapllnlclgbbkaaDoor
set_option maxRecDepth 10000
open Go.RowKit

structure Ln where
  o : Int
  k : Int
  a : Int
  t : Int

def LnOk (x : Ln) : Prop := InI x.o ∧ InI x.k ∧ InI x.a ∧ InI x.t

instance : Enc Ln where
  cells x := [I x.o, I x.k, I x.a, I x.t]
  k := 4
  len _ := rfl
  pos := by decide
  one := by simp [Value.oneCell', I]

theorem Rd.ln {w : World} {B : Nat} {A : Option Addr} {xs : List Ln} {i : Nat} {x : Ln} (h : Rd w B A xs) (hx : xs[i]? = some x) :
    ∃ b off, A = some ⟨b, off, none⟩ ∧ b < B ∧ w.cell? ⟨b, off + i * 4, none⟩ = some (I x.o) ∧ w.cell? ⟨b, off + i * 4 + 1, none⟩ = some (I x.k) ∧ w.cell? ⟨b, off + i * 4 + 2, none⟩ = some (I x.a) ∧ w.cell? ⟨b, off + i * 4 + 3, none⟩ = some (I x.t) := by
  obtain ⟨b, off, e, hb, hc⟩ := h.at_ hx
  exact ⟨b, off, e, hb, hc 0 _ rfl, hc 1 _ rfl, hc 2 _ rfl, hc 3 _ rfl⟩

instance : Inhabited Ln := ⟨⟨0, 0, 0, 0⟩⟩
def inB (n l h : Int) : Bool := decide (l ≤ n) && decide (n ≤ h)
def lineB (o k a t : Int) : Bool := inB o 1 9999 && inB k 1 3 && inB a 1 100000 && inB t 0 100000
def eqLn (x y : Ln) : Bool := x.o == y.o && x.k == y.k && x.a == y.a && x.t == y.t
theorem eqLn_iff {x y : Ln} : eqLn x y = true ↔ x = y := by
  cases x; cases y; simp [eqLn, and_assoc]
theorem eqLn_not {x y : Ln} (h : eqLn x y = false) : x ≠ y := by
  intro e
  rw [eqLn_iff.2 e] at h
  cases h
instance : DecidableEq Ln := fun _ _ => decidable_of_iff _ eqLn_iff
def sumStep (o k : Int) (s : Int) (x : Ln) : Int := if (x.o == o && x.k == k) = true then wrap64 (s + x.a) else s
def sumLn (xs : List Ln) (o k : Int) : Int := xs.foldl (sumStep o k) 0
def pctAt (xs : List Int) (j : Nat) : Bool := inB (xs.getD j 0) 0 100 && (decide (j = 0) || decide (xs.getD (j - 1) 0 ≤ xs.getD j 0))
def pctsB (xs : List Int) : Bool := allTo xs.length (pctAt xs) && inB xs.length 1 6
theorem pctAt_out {xs : List Int} {i : Nat} {x : Int} (hx : xs[i]? = some x) (h : inB x 0 100 = false) : pctAt xs i = false := by simp [pctAt, hx, h]
theorem pctAt_zero {xs : List Int} {i : Nat} {x : Int} (h0 : i ≤ 0) (hx : xs[i]? = some x) (h : inB x 0 100 = true) : pctAt xs i = true := by
  obtain rfl : i = 0 := by omega
  simp [pctAt, hx, h]
theorem pctAt_down {xs : List Int} {i : Nat} {x y : Int} (hy : xs[i]? = some y) (hx : xs[i + 1]? = some x) (h : x < y) : pctAt xs (i + 1) = false := by
  simp [pctAt, hx, hy]; omega
theorem pctAt_up {xs : List Int} {i : Nat} {x y : Int} (hy : xs[i]? = some y) (hx : xs[i + 1]? = some x) (hb : inB x 0 100 = true) (h : ¬ x < y) : pctAt xs (i + 1) = true := by
  simp [pctAt, hx, hy, hb]; omega
theorem pctsB_false {xs : List Int} {i : Nat} (hi : i < xs.length) (h : pctAt xs i = false) : pctsB xs = false := by simp [pctsB, allTo_false hi h]
theorem pctsB_len {xs : List Int} (h : allTo xs.length (pctAt xs) = true) : pctsB xs = inB xs.length 1 6 := by simp [pctsB, h]
theorem inB_true {n l h : Int} (e : inB n l h = true) : l ≤ n ∧ n ≤ h := by simpa [inB] using e
theorem inB_of {n l h : Int} (e : l ≤ n ∧ n ≤ h) : inB n l h = true := by simpa [inB] using e
theorem pcts_get {xs : List Int} (h : pctsB xs = true) : 1 ≤ xs.length ∧ xs.length ≤ 6 ∧ ∀ (i : Nat) (x : Int), xs[i]? = some x → 0 ≤ x ∧ x ≤ 100 := by
  simp only [pctsB, Bool.and_eq_true] at h
  have h2 := inB_true h.2
  refine ⟨by omega, by omega, fun i x hx => ?_⟩
  have h3 := allTo_iff.1 h.1 i (lt_of_get hx)
  simp [pctAt, hx] at h3
  exact inB_true h3.1
def pctOf (c x : Int) : Int := wrap64 ((wrap64 (c * x)).tdiv 100)
def refundOk (charge due ended : Int) (ps : List Int) : Bool := pctsB ps && inB charge 0 100000 && inB due 0 200000 && inB ended 0 200000 && !decide (ended ≤ due)
def refundAt (due ended : Int) (ps : List Int) : Nat := if (ended - due - 1) / 1440 < (ps.length : Int) then ((ended - due - 1) / 1440).toNat else ps.length - 1
def refundV (charge due ended : Int) (ps : List Int) : Int := if refundOk charge due ended ps then pctOf charge (ps.getD (refundAt due ended ps) 0) else 0

def cntStep (o k : Int) (s : Int) (x : Ln) : Int := if (x.o == o && x.k == k) = true then wrap64 (s + 1) else s
def cntLn (xs : List Ln) (o k : Int) : Int := xs.foldl (cntStep o k) 0
theorem cnt_sum_aux (o k : Int) : ∀ (b : List Ln) (c s : Int), (∀ x ∈ b, 1 ≤ x.a ∧ x.a ≤ 100000) → 0 ≤ c → c + b.length ≤ 200 → c ≤ s → s ≤ 100000 * c →
    0 ≤ b.foldl (cntStep o k) c ∧ b.foldl (cntStep o k) c ≤ c + b.length ∧ b.foldl (cntStep o k) c ≤ b.foldl (sumStep o k) s ∧ b.foldl (sumStep o k) s ≤ 100000 * b.foldl (cntStep o k) c
  | [], c, s, _, h0, hl, h1, h2 => ⟨h0, by simp, h1, h2⟩
  | x :: b, c, s, ha, h0, hl, h1, h2 => by
    have hx := ha x (by simp)
    simp only [List.length_cons] at hl
    have e1 : wrap64 (c + 1) = c + 1 := IntWalk.wrap64_in _ ⟨by omega, by omega⟩
    have e2 : wrap64 (s + x.a) = s + x.a := IntWalk.wrap64_in _ ⟨by omega, by omega⟩
    by_cases h : (x.o == o && x.k == k) = true
    · have r := cnt_sum_aux o k b (c + 1) (s + x.a) (fun y hy => ha y (by simp [hy])) (by omega) (by omega) (by omega) (by omega)
      simp only [List.foldl_cons, cntStep, sumStep, h, if_true, e1, e2] at r ⊢
      refine ⟨r.1, ?_, r.2.2.1, r.2.2.2⟩
      have := r.2.1
      simp only [List.length_cons]; omega
    · have r := cnt_sum_aux o k b c s (fun y hy => ha y (by simp [hy])) h0 (by omega) h1 h2
      simp only [List.foldl_cons, cntStep, sumStep, if_neg h] at r ⊢
      refine ⟨r.1, ?_, r.2.2.1, r.2.2.2⟩
      have := r.2.1
      simp only [List.length_cons]; omega
theorem cnt_sum {b : List Ln} (o k : Int) (ha : ∀ x ∈ b, 1 ≤ x.a ∧ x.a ≤ 100000) (hl : b.length ≤ 200) : 0 ≤ cntLn b o k ∧ cntLn b o k ≤ b.length ∧ cntLn b o k ≤ sumLn b o k ∧ sumLn b o k ≤ 100000 * cntLn b o k := by
  have r := cnt_sum_aux o k b 0 0 ha (by omega) (by omega) (by omega) (by omega)
  refine ⟨r.1, by have := r.2.1; unfold cntLn; omega, r.2.2.1, r.2.2.2⟩

/-! ### AreLines -/
/-- The line at i is no line, or is ahead of the one before it. -/
def badAt (xs : List Ln) (i : Nat) (x : Ln) : Bool := !(lineB x.o x.k x.a x.t) || (decide (0 < i) && decide (x.t < (xs.getD (i - 1) default).t))
/-- What the line at i must fit: b: the lines before it. -/
def fitB (b : List Ln) (x : Ln) : Bool :=
  if x.k = 1 then !decide (0 < sumLn b x.o 1)
  else if x.k = 2 then !decide (sumLn b x.o 1 < wrap64 (sumLn b x.o 2 + x.a))
  else !decide (0 < sumLn b x.o 3) && (sumLn b x.o 2 == sumLn b x.o 1) && !decide (sumLn b x.o 1 < x.a)
def lineAt (xs : List Ln) (i : Nat) : Bool := !(badAt xs i (xs.getD i default)) && fitB (xs.take i) (xs.getD i default)
def linesB (xs : List Ln) : Bool := decide (xs.length ≤ 200) && allTo xs.length (lineAt xs)
theorem linesB_long {xs : List Ln} (h : ¬ xs.length ≤ 200) : linesB xs = false := by simp [linesB, h]
theorem linesB_bad {xs : List Ln} {i : Nat} {x : Ln} (hx : xs[i]? = some x) (h : badAt xs i x = true) : linesB xs = false := by
  have : lineAt xs i = false := by simp [lineAt, hx, h]
  simp [linesB, allTo_false (lt_of_get hx) this]
theorem linesB_unfit {xs : List Ln} {i : Nat} {x : Ln} (hx : xs[i]? = some x) (h : fitB (xs.take i) x = false) : linesB xs = false := by
  have : lineAt xs i = false := by simp [lineAt, hx, h]
  simp [linesB, allTo_false (lt_of_get hx) this]
theorem lineAt_ok {xs : List Ln} {i : Nat} {x : Ln} (hx : xs[i]? = some x) (hb : badAt xs i x = false) (h : fitB (xs.take i) x = true) : lineAt xs i = true := by simp [lineAt, hx, h, hb]
theorem linesB_all {xs : List Ln} (h : xs.length ≤ 200) (ha : allTo xs.length (lineAt xs) = true) : linesB xs = true := by simp [linesB, h, ha]
theorem bad_line {xs : List Ln} {i : Nat} {x : Ln} (h : lineB x.o x.k x.a x.t = false) : badAt xs i x = true := by simp [badAt, h]
theorem bad_first {xs : List Ln} {i : Nat} {x : Ln} (h : lineB x.o x.k x.a x.t = true) (h0 : i ≤ 0) : badAt xs i x = false := by simp [badAt, h]; omega
theorem bad_next {xs : List Ln} {m : Nat} {x y : Ln} (h : lineB x.o x.k x.a x.t = true) (hy : xs[m]? = some y) : badAt xs (m + 1) x = decide (x.t < y.t) := by simp [badAt, h, hy]
theorem line_of_bad {xs : List Ln} {i : Nat} {x : Ln} (h : badAt xs i x = false) : lineB x.o x.k x.a x.t = true := by
  simp only [badAt, Bool.or_eq_false_iff, Bool.not_eq_false'] at h; exact h.1
theorem fit1 {b : List Ln} {x : Ln} (hk : x.k = 1) : fitB b x = !decide (0 < sumLn b x.o 1) := by simp [fitB, hk]
theorem fit2 {b : List Ln} {x : Ln} (hk : x.k = 2) : fitB b x = !decide (sumLn b x.o 1 < wrap64 (sumLn b x.o 2 + x.a)) := by simp [fitB, hk]
theorem fit3 {b : List Ln} {x : Ln} (hk : x.k = 3) : fitB b x = (!decide (0 < sumLn b x.o 3) && (sumLn b x.o 2 == sumLn b x.o 1) && !decide (sumLn b x.o 1 < x.a)) := by simp [fitB, hk]
theorem amount_of {x : Ln} (h : lineB x.o x.k x.a x.t = true) : 1 ≤ x.a ∧ x.a ≤ 100000 := by
  simp only [lineB, Bool.and_eq_true] at h
  exact inB_true h.1.2
theorem take_amounts {xs : List Ln} {i : Nat} (h : allTo i (lineAt xs) = true) : ∀ x ∈ xs.take i, 1 ≤ x.a ∧ x.a ≤ 100000 := by
  intro x hx
  obtain ⟨j, hj⟩ := List.getElem?_of_mem hx
  rw [List.getElem?_take] at hj
  split at hj
  · rename_i hlt
    have h1 := allTo_iff.1 h j hlt
    simp only [lineAt, List.getD_eq_getElem?_getD, hj, Option.getD_some, Bool.and_eq_true, Bool.not_eq_true'] at h1
    exact amount_of (line_of_bad h1.1)
  · cases hj
theorem cnt_pos {xs : List Ln} {i : Nat} (o k : Int) (h : allTo i (lineAt xs) = true) (hl : i ≤ 200) : decide (0 < cntLn (xs.take i) o k) = decide (0 < sumLn (xs.take i) o k) := by
  have r := cnt_sum o k (take_amounts h) (by rw [List.length_take]; omega)
  rw [decide_eq_decide]
  omega
theorem kind_of {x : Ln} (h : lineB x.o x.k x.a x.t = true) : x.k = 1 ∨ x.k = 2 ∨ x.k = 3 := by
  simp only [lineB, Bool.and_eq_true] at h
  have := inB_true h.1.1.2
  omega

/-! ### what is owed, cash, charging, paying -/
def owedV (xs : List Ln) (o : Int) : Int := if linesB xs then wrap64 (sumLn xs o 1 - sumLn xs o 2) else 0
def cashStep (s : Int) (x : Ln) : Int := if (x.k == 2) = true then wrap64 (s + x.a) else if (x.k == 3) = true then wrap64 (s - x.a) else s
def cashLn (xs : List Ln) : Int := xs.foldl cashStep 0
def cashV (xs : List Ln) : Int := if linesB xs then cashLn xs else 0
theorem owedV_ok {xs : List Ln} {o : Int} (h : linesB xs = true) : owedV xs o = wrap64 (sumLn xs o 1 - sumLn xs o 2) := by simp [owedV, h]
theorem owedV_no {xs : List Ln} {o : Int} (h : linesB xs = false) : owedV xs o = 0 := by simp [owedV, h]
theorem cashV_ok {xs : List Ln} (h : linesB xs = true) : cashV xs = cashLn xs := by simp [cashV, h]
theorem cashV_no {xs : List Ln} (h : linesB xs = false) : cashV xs = 0 := by simp [cashV, h]
def postV (xs : List Ln) (x : Ln) : List Ln × Int := if 200 ≤ xs.length then (xs, 5) else if linesB (xs ++ [x]) = true then (xs ++ [x], 0) else (xs, 1)
theorem postV_full {xs : List Ln} {x : Ln} (h : 200 ≤ xs.length) : postV xs x = (xs, 5) := by simp [postV, h]
theorem postV_ok {xs : List Ln} {x : Ln} (h : ¬ 200 ≤ xs.length) (h1 : linesB (xs ++ [x]) = true) : postV xs x = (xs ++ [x], 0) := by simp [postV, h, h1]
theorem postV_bad {xs : List Ln} {x : Ln} (h : ¬ 200 ≤ xs.length) (h1 : linesB (xs ++ [x]) = false) : postV xs x = (xs, 1) := by simp [postV, h, h1]
def chargeV (xs : List Ln) (o a t : Int) : List Ln × Int :=
  if linesB xs = false then (xs, 1) else if lineB o 1 a t = false then (xs, 1) else if decide (0 < sumLn xs o 1) = true then (xs, 2) else postV xs ⟨o, 1, a, t⟩
def payV (xs : List Ln) (o a t : Int) : List Ln × Int :=
  if linesB xs = false then (xs, 1) else if lineB o 2 a t = false then (xs, 1) else if (sumLn xs o 1 == 0) = true then (xs, 3) else if decide (owedV xs o < a) = true then (xs, 4) else postV xs ⟨o, 2, a, t⟩
def refundO (xs : List Ln) (o du en : Int) (ps : List Int) (t : Int) : List Ln × Int :=
  if linesB xs = false then (xs, 1) else if pctsB ps = false then (xs, 1) else if inB o 1 9999 = false then (xs, 1) else if inB t 0 100000 = false then (xs, 1)
  else if (sumLn xs o 1 == 0) = true then (xs, 3) else if decide (0 < owedV xs o) = true then (xs, 3) else if decide (0 < sumLn xs o 3) = true then (xs, 2)
  else if (refundV (sumLn xs o 1) du en ps == 0) = true then (xs, 4) else postV xs ⟨o, 3, refundV (sumLn xs o 1) du en ps, t⟩
theorem cnt_pos' {xs : List Ln} (o k : Int) (h : linesB xs = true) : decide (0 < cntLn xs o k) = decide (0 < sumLn xs o k) := by
  simp only [linesB, Bool.and_eq_true, decide_eq_true_eq] at h
  have := cnt_pos (xs := xs) (i := xs.length) o k h.2 h.1
  rwa [List.take_length] at this

def markL (n : Nat) : List Ln := (List.range n).map fun i : Nat => ⟨1 + 4 * i, 1 + 4 * i + 1, 1 + 4 * i + 1 + 1, 1 + 4 * i + 1 + 1 + 1⟩
theorem markL_len (n : Nat) : (markL n).length = n := by simp [markL]
theorem markL_get {n i : Nat} (h : i < n) : (markL n)[i]? = some ⟨1 + 4 * i, 1 + 4 * i + 1, 1 + 4 * i + 1 + 1, 1 + 4 * i + 1 + 1 + 1⟩ := by simp [markL, h]
theorem flat_ln {xs : List Ln} {i : Nat} {x : Ln} (hx : xs[i]? = some x) : (flat xs)[i * 4]? = some (I x.o) ∧ (flat xs)[i * 4 + 1]? = some (I x.k) ∧ (flat xs)[i * 4 + 2]? = some (I x.a) ∧ (flat xs)[i * 4 + 3]? = some (I x.t) :=
  ⟨flat_at hx (j := 0) rfl, flat_at hx (j := 1) rfl, flat_at hx (j := 2) rfl, flat_at hx (j := 3) rfl⟩
end Go.Proofs.YtapllnlclgbbkaaDoor

namespace Go.Proofs.YtapllnlclgbbkaaDoor
set_option maxRecDepth 10000
open Go.RowKit
theorem within_any (n l h : Int) (w : World) : Calls Tryd.prog 38 #[.int .i64 n, .int .i64 l, .int .i64 h] w fun e w' => e = .returned (.bool (inB n l h)) ∧ w = w' := by
  by_cases h1 : l ≤ n
  · go_enter Tryd.func38, Tryd.ntmps38
    go_wp2
    go_ret
    exact ⟨by simp [h1, inB], rfl⟩
  · go_enter Tryd.func38, Tryd.ntmps38
    go_wp2
    go_ret
    exact ⟨by simp [inB]; omega, rfl⟩
theorem l1In_any (n l h : Int) (w : World) : Calls Tryd.prog 35 #[.int .i64 n, .int .i64 l, .int .i64 h] w fun e w' => e = .returned (.bool (inB n l h)) ∧ w = w' := by
  by_cases h1 : l ≤ n
  · go_enter Tryd.func35, Tryd.ntmps35
    go_wp2
    go_ret
    exact ⟨by simp [h1, inB], rfl⟩
  · go_enter Tryd.func35, Tryd.ntmps35
    go_wp2
    go_ret
    exact ⟨by simp [inB]; omega, rfl⟩
end Go.Proofs.YtapllnlclgbbkaaDoor

namespace Go.Proofs.YtapllnlclgbbkaaDoor
set_option maxRecDepth 10000
open Go.RowKit
theorem isLine_impl (o k a t : Int) (w : World) : Calls Tryd.prog 37 #[.agg #[.int .i64 o, .int .i64 k, .int .i64 a, .int .i64 t]] w fun e w' => e = .returned (.bool (lineB o k a t)) ∧ Below w.heap.size w w' := by
  go_enter Tryd.func37, Tryd.ntmps37
  go_wp2_with (go_at_call 38; refine (within_any _ _ _ _).mono ?_; rintro e w' ⟨rfl, rfl⟩)
  all_goals go_ret
  all_goals exact ⟨by simp [lineB, *], (Below.refl _ _).alloc (Nat.le_refl _) _⟩
theorem isLine_spec (o k a t : Int) (w : World) : Calls Tryd.prog 30 #[.agg #[.int .i64 o, .int .i64 k, .int .i64 a, .int .i64 t]] w fun e w' => e = .returned (.bool (lineB o k a t)) ∧ Below w.heap.size w w' := by
  go_enter Tryd.func30, Tryd.ntmps30
  go_wp2_with (go_at_call 35; refine (l1In_any _ _ _ _).mono ?_; rintro e w' ⟨rfl, rfl⟩)
  all_goals go_ret
  all_goals exact ⟨by simp [lineB, *], (Below.refl _ _).alloc (Nat.le_refl _) _⟩
theorem toLine_any (o k a t : Int) (w : World) : Calls Tryd.prog 23 #[.agg #[.int .i64 o, .int .i64 k, .int .i64 a, .int .i64 t]] w fun e w' => e = .returned (.agg #[.int .i64 o, .int .i64 k, .int .i64 a, .int .i64 t]) ∧ Below w.heap.size w w' := by
  go_enter Tryd.func23, Tryd.ntmps23
  go_wp2
  exact bodyPost_ret (v := .agg #[.int .i64 o, .int .i64 k, .int .i64 a, .int .i64 t]) (by simp [results, Tryd.results23, go_sem]) rfl ⟨rfl, by (repeat (first | exact Up.rfl' _ | (refine Up.al _ ?_) | (refine Up.dr _ ?_) | (refine Up.dr1 ?_) | (refine Up.sc ?_ (by first | exact Nat.le_refl _ | (simp; done) | omega) _) | (refine Up.step (by assumption) ?_)))⟩
end Go.Proofs.YtapllnlclgbbkaaDoor

namespace Go.Proofs.YtapllnlclgbbkaaDoor
set_option maxRecDepth 10000
open Go.RowKit
theorem sumOf_impl (A : Option Addr) (xs : List Ln) (c : Nat) (o k : Int) (w : World) (hr : Rd w w.heap.size A xs) (hn : xs.length ≤ 2000000)
  : Calls Tryd.prog 14 #[.slice A xs.length c, .int .i64 o, .int .i64 k] w fun e w' => e = .returned (.int .i64 (sumLn xs o k)) ∧ Up w w' := by
  go_enter Tryd.func14, Tryd.ntmps14
  go_wp2
  go_loopw [7, 12] (fun n7 i wr => ∃ j : Nat, j ≤ xs.length ∧ i = .int .i64 j ∧ n7 = .int .i64 (sumLn (xs.take j) o k) ∧ Up w wr) (fun _ i _ => xs.length - (intOf i).toNat)
  case atStart => exact ⟨0, by omega, rfl, rfl, Below.refl _ _⟩
  case round =>
    obtain ⟨i, hi, rfl, rfl, hb⟩ := hrel
    by_cases hlt : i < xs.length
    · obtain ⟨x, hx⟩ := get_of_lt hlt
      obtain ⟨b, off, rfl, hbb, c0, c1, c2, c3⟩ := (hr.below hb).ln hx
      have hbs := hb.size
      have S : Hid (sumLn (xs.take (i+1)) o k = sumStep o k (sumLn (xs.take i) o k) x) := foldl_snoc hx _ _
      clear hr hx
      go_wp2
      all_goals exact ⟨⟨i + 1, by omega, by go_num, by rw [S.out]; simp [sumStep, *], by (repeat (first | exact Up.rfl' _ | (refine Up.al _ ?_) | (refine Up.dr _ ?_) | (refine Up.dr1 ?_) | (refine Up.sc ?_ (by first | exact Nat.le_refl _ | (simp; done) | omega) _) | (refine Up.step (by assumption) ?_)))⟩, by simp [intOf]; omega⟩
    · go_wp2
      go_ret
      obtain rfl : i = xs.length := by omega
      exact ⟨by simp, hb⟩
theorem sumOf_spec (A : Option Addr) (xs : List Ln) (c : Nat) (o k : Int) (w : World) (hr : Rd w w.heap.size A xs) (hn : xs.length ≤ 2000000)
  : Calls Tryd.prog 31 #[.slice A xs.length c, .int .i64 o, .int .i64 k] w fun e w' => e = .returned (.int .i64 (sumLn xs o k)) ∧ Up w w' := by
  go_enter Tryd.func31, Tryd.ntmps31
  go_wp2
  go_loopw [7, 8] (fun n7 i wr => ∃ j : Nat, j ≤ xs.length ∧ i = .int .i64 j ∧ n7 = .int .i64 (sumLn (xs.take j) o k) ∧ Up w wr) (fun _ i _ => xs.length - (intOf i).toNat)
  case atStart => exact ⟨0, by omega, rfl, rfl, Below.refl _ _⟩
  case round =>
    obtain ⟨i, hi, rfl, rfl, hb⟩ := hrel
    by_cases hlt : i < xs.length
    · obtain ⟨x, hx⟩ := get_of_lt hlt
      obtain ⟨b, off, rfl, hbb, c0, c1, c2, c3⟩ := (hr.below hb).ln hx
      have hbs := hb.size
      have S : Hid (sumLn (xs.take (i+1)) o k = sumStep o k (sumLn (xs.take i) o k) x) := foldl_snoc hx _ _
      clear hr hx
      go_wp2
      all_goals exact ⟨⟨i + 1, by omega, by go_num, by rw [S.out]; simp [sumStep, *], by (repeat (first | exact Up.rfl' _ | (refine Up.al _ ?_) | (refine Up.dr _ ?_) | (refine Up.dr1 ?_) | (refine Up.sc ?_ (by first | exact Nat.le_refl _ | (simp; done) | omega) _) | (refine Up.step (by assumption) ?_)))⟩, by simp [intOf]; omega⟩
    · go_wp2
      go_ret
      obtain rfl : i = xs.length := by omega
      exact ⟨by simp, hb⟩
end Go.Proofs.YtapllnlclgbbkaaDoor

/- A region that draws its order, whose operations read old memory or call functions that leave old memory as_ it was: ONE walk of the text's order serves (Derived/Deep/Quiet.lean's theorem, at the class of the worlds above w). -/
namespace Go.Proofs.YtapllnlclgbbkaaDoor
set_option maxRecDepth 10000
open Go.RowKit
/-- The worlds that leave w's memory as_ it was. -/
def Ups (w : World) : Type := {w' : World // Up w w'}
instance (w : World) : Nonempty (Ups w) := ⟨⟨w, Up.rfl' w⟩⟩
def Ups.val {w : World} (x : Ups w) : World := x.1
theorem Ups.up {w : World} (x : Ups w) : Up w x.val := x.2
theorem Ups.cell {w : World} {b o : Nat} {v : Value} (h : w.cell? ⟨b, o, none⟩ = some v) : ∀ x : Ups w, x.val.cell? ⟨b, o, none⟩ = some v :=
  fun x => (x.2.cell (p := ⟨b, o, none⟩) (World.block_lt_of_cell? w ⟨b, o, none⟩ h)).trans h
theorem cellUp {w w' : World} {b o : Nat} {v : Value} (h : w.cell? ⟨b, o, none⟩ = some v) (hu : Up w w') : w'.cell? ⟨b, o, none⟩ = some v := Ups.cell h ⟨w', hu⟩
theorem Ups.rd {α : Type} [Enc α] {w : World} {A : Option Addr} {xs : List α} (h : Rd w w.heap.size A xs) (x : Ups w) : Rd x.val x.val.heap.size A xs := h.up x.2
theorem Ups.call {P : Program} {f : FuncId} {args : Array Value} {w : World} {x : Ups w} {v : Value} (h : Calls P f args x.val fun e w' => e = .returned v ∧ Up x.val w') :
    Calls P f args x.val fun e w'' => e = .returned v ∧ ∃ y : Ups w, w'' = y.val :=
  h.mono fun _ v2 ⟨he, hu⟩ => ⟨he, ⟨v2, Up.step hu x.2⟩, rfl⟩
theorem Ups.calls {P : Program} {f : FuncId} {args : Array Value} {w : World} {x : Ups w} {v : Value} (h : Calls P f args x.val fun e w' => e = .returned v ∧ x.val = w') :
    Calls P f args x.val fun e w'' => e = .returned v ∧ ∃ y : Ups w, w'' = y.val :=
  h.mono fun _ _ ⟨he, hu⟩ => ⟨he, x, hu.symm⟩
theorem wp_region_up {P : Program} {id : Nat} {Q : Exit → Act → World → Prop} {a : Act} {w : World} {l : List Oper} (hm : P.follows .mixedOrders = true) (hB : Region.lexB .any l.toArray = true)
    (h : wpQuiet P l.toArray (fun w' => ∃ x : Ups w, w' = x.val) (fun a' => ∀ w', Up w w' → Q .normal a' w') l a) : (Code.region id l.toArray true).wp P Q a w := by
  refine wp_region_quiet (C := fun w' => ∃ x : Ups w, w' = x.val) hm hB ⟨⟨_, Up.dr1 (Up.rfl' w)⟩, rfl⟩ ?_
  have e : (fun a' => ∀ w', (∃ x : Ups w, w' = x.val) → Q .normal a' w') = (fun a' => ∀ w', Up w w' → Q .normal a' w') := by
    funext a'
    refine propext ⟨fun h w' hu => h w' ⟨⟨w', hu⟩, rfl⟩, fun h w' hx => ?_⟩
    obtain ⟨x, rfl⟩ := hx
    exact h _ x.2
  rw [e]
  simpa using h
end Go.Proofs.YtapllnlclgbbkaaDoor

namespace Go.Proofs.YtapllnlclgbbkaaDoor
set_option maxRecDepth 10000
open Go.RowKit
theorem sumOf_impl_n (A : Option Addr) (xs : List Ln) (n c : Nat) (o k : Int) (w : World) (hr : Rd w w.heap.size A xs) (hl : n = xs.length) (hn : n ≤ 2000000)
  : Calls Tryd.prog 14 #[.slice A n c, .int .i64 o, .int .i64 k] w fun e w' => e = .returned (.int .i64 (sumLn xs o k)) ∧ Up w w' := by
  subst hl; exact sumOf_impl A xs c o k w hr hn
set_option maxHeartbeats 1600000 in
theorem areLines_impl (A : Option Addr) (xs : List Ln) (c : Nat) (w : World) (hr : Rd w w.heap.size A xs) (hc : xs.length ≤ c) (hn : xs.length ≤ 2000000)
  : Calls Tryd.prog 24 #[.slice A xs.length c] w fun e w' => e = .returned (.bool (linesB xs)) ∧ Up w w' := by
  by_cases h200 : xs.length ≤ 200
  · go_enter Tryd.func24, Tryd.ntmps24
    go_wp2
    go_loopw [12] (fun i wr => ∃ j : Nat, j ≤ xs.length ∧ i = .int .i64 j ∧ Hid (allTo j (lineAt xs) = true) ∧ Up w wr) (fun i _ => xs.length - (intOf i).toNat)
    case atStart => exact ⟨0, by omega, rfl, allTo_zero _, by (repeat (first | exact Up.rfl' _ | (refine Up.al _ ?_) | (refine Up.dr _ ?_) | (refine Up.dr1 ?_) | (refine Up.sc ?_ (by first | exact Nat.le_refl _ | (simp; done) | omega) _) | (refine Up.step (by assumption) ?_)))⟩
    case round =>
      obtain ⟨i, hi, rfl, he, hb⟩ := hrel
      by_cases hlt : i < xs.length
      · obtain ⟨x, gx⟩ := get_of_lt hlt
        obtain ⟨b, off, rfl, hbb, c0, c1, c2, c3⟩ := (hr.below hb).ln gx
        have Gx := Lib.hid gx
        clear gx
        go_wp2
        generalize hwb : wr.alloc (.cells #[I x.o, I x.k, I x.a, I x.t] 34) = wb
        have d0 : wb.cell? ⟨wr.heap.size, 0, none⟩ = some (I x.o) := by rw [← hwb]; simp [go_sem]
        have d1 : wb.cell? ⟨wr.heap.size, 1, none⟩ = some (I x.k) := by rw [← hwb]; simp [go_sem]
        have d2 : wb.cell? ⟨wr.heap.size, 2, none⟩ = some (I x.a) := by rw [← hwb]; simp [go_sem]
        have d3 : wb.cell? ⟨wr.heap.size, 3, none⟩ = some (I x.t) := by rw [← hwb]; simp [go_sem]
        have hub : Up wr wb := by rw [← hwb]; (repeat (first | exact Up.rfl' _ | (refine Up.al _ ?_) | (refine Up.dr _ ?_) | (refine Up.dr1 ?_) | (refine Up.sc ?_ (by first | exact Nat.le_refl _ | (simp; done) | omega) _) | (refine Up.step (by assumption) ?_)))
        clear hwb c0 c1 c2 c3
        go_cut [12, 34] (fun s12 s34 wx => s12 = .int .i64 i ∧ s34 = .bool (badAt xs i x) ∧ Up wb wx)
        case first =>
          cases hL : lineB x.o x.k x.a x.t with
          | false =>
            have HB := Lib.hid (bad_line (xs := xs) (i := i) hL)
            (have Ed0 := Ups.cell d0; have Ed1 := Ups.cell d1; have Ed2 := Ups.cell d2; have Ed3 := Ups.cell d3; refine wp_region_up (by kernel_rfl) (by kernel_rfl) ?_; (repeat (go_big_quiet_step ((go_at_call 37; exact Ups.call (isLine_impl _ _ _ _ _))))); refine wpQuiet_nil ?_; intro wq1 hq1; clear Ed0 Ed1 Ed2 Ed3; replace d0 := cellUp d0 hq1; replace d1 := cellUp d1 hq1; replace d2 := cellUp d2 hq1; replace d3 := cellUp d3 hq1)
            go_wp2
            go_meet
            exact ⟨rfl, by rw [HB.out], by (repeat (first | exact Up.rfl' _ | (refine Up.al _ ?_) | (refine Up.dr _ ?_) | (refine Up.dr1 ?_) | (refine Up.sc ?_ (by first | exact Nat.le_refl _ | (simp; done) | omega) _) | (refine Up.step (by assumption) ?_)))⟩
          | true =>
            rcases Nat.eq_zero_or_pos i with h0' | h0
            · have h0 : i ≤ 0 := by omega
              clear h0'
              have HB := Lib.hid (bad_first (xs := xs) hL h0)
              have t0 : decide ((0 : Int) < (i : Int)) = false := decide_eq_false (by omega)
              have t1 : decide (0 < i) = false := decide_eq_false (by omega)
              (have Ed0 := Ups.cell d0; have Ed1 := Ups.cell d1; have Ed2 := Ups.cell d2; have Ed3 := Ups.cell d3; refine wp_region_up (by kernel_rfl) (by kernel_rfl) ?_; (repeat (go_big_quiet_step ((go_at_call 37; exact Ups.call (isLine_impl _ _ _ _ _))))); refine wpQuiet_nil ?_; intro wq1 hq1; clear Ed0 Ed1 Ed2 Ed3; replace d0 := cellUp d0 hq1; replace d1 := cellUp d1 hq1; replace d2 := cellUp d2 hq1; replace d3 := cellUp d3 hq1)
              go_wp2
              go_meet
              exact ⟨rfl, by rw [HB.out], by (repeat (first | exact Up.rfl' _ | (refine Up.al _ ?_) | (refine Up.dr _ ?_) | (refine Up.dr1 ?_) | (refine Up.sc ?_ (by first | exact Nat.le_refl _ | (simp; done) | omega) _) | (refine Up.step (by assumption) ?_)))⟩
            · obtain ⟨m, rfl⟩ : ∃ m, i = m + 1 := ⟨i - 1, by omega⟩
              obtain ⟨y, gy⟩ := get_of_lt (xs := xs) (i := m) (by omega)
              obtain ⟨b', off', hA, _, _, _, _, p3⟩ := ((hr.up hb).up hub).ln gy
              obtain ⟨rfl, rfl⟩ : b = b' ∧ off = off' := by simpa using hA
              have HB := Lib.hid (bad_next (x := x) hL gy)
              clear hA gy hr
              have t0 : decide ((0 : Int) < (m : Int) + 1) = true := decide_eq_true (by omega)
              have t1 : decide (0 < m + 1) = true := by simp
              have wm : IntKind.i64.wrap (m : Int) = m := IntWalk.i64_in _ (by omega)
              have wm1 : IntKind.i64.wrap ((m : Int) + 1 - 1) = m := by rw [IntWalk.i64_in _ (by omega)]; omega
              have bm0 : (0 : Int) ≤ (m : Int) := by omega
              have bm1 : (m : Int) < (xs.length : Int) := by omega
              (have Ed0 := Ups.cell d0; have Ed1 := Ups.cell d1; have Ed2 := Ups.cell d2; have Ed3 := Ups.cell d3; have Ep3 := Ups.cell p3; refine wp_region_up (by kernel_rfl) (by kernel_rfl) ?_; (repeat (go_big_quiet_step ((go_at_call 37; exact Ups.call (isLine_impl _ _ _ _ _))))); refine wpQuiet_nil ?_; intro wq1 hq1; clear Ed0 Ed1 Ed2 Ed3 Ep3; replace d0 := cellUp d0 hq1; replace d1 := cellUp d1 hq1; replace d2 := cellUp d2 hq1; replace d3 := cellUp d3 hq1; replace p3 := cellUp p3 hq1)
              go_wp2
              go_meet
              exact ⟨by go_num, by rw [HB.out], by (repeat (first | exact Up.rfl' _ | (refine Up.al _ ?_) | (refine Up.dr _ ?_) | (refine Up.dr1 ?_) | (refine Up.sc ?_ (by first | exact Nat.le_refl _ | (simp; done) | omega) _) | (refine Up.step (by assumption) ?_)))⟩
        case rest =>
          obtain ⟨rfl, rfl, hbc⟩ := hcut
          replace d0 := cellUp d0 hbc
          replace d1 := cellUp d1 hbc
          replace d2 := cellUp d2 hbc
          replace d3 := cellUp d3 hbc
          cases hbad : badAt xs i x with
          | true =>
            have HR := Lib.hid (linesB_bad Gx.out hbad)
            go_wp2
            go_ret
            exact ⟨retb HR.out.symm, by (repeat (first | exact Up.rfl' _ | (refine Up.al _ ?_) | (refine Up.dr _ ?_) | (refine Up.dr1 ?_) | (refine Up.sc ?_ (by first | exact Nat.le_refl _ | (simp; done) | omega) _) | (refine Up.step (by assumption) ?_)))⟩
          | false =>
            have bi0 : (0 : Int) ≤ (i : Int) := by omega
            have bi1 : (i : Int) ≤ (c : Int) := by omega
            have bc0 : ¬ c = 0 := by omega
            have hrc := (hr.up (show Up w wc by (repeat (first | exact Up.rfl' _ | (refine Up.al _ ?_) | (refine Up.dr _ ?_) | (refine Up.dr1 ?_) | (refine Up.sc ?_ (by first | exact Nat.le_refl _ | (simp; done) | omega) _) | (refine Up.step (by assumption) ?_))))).take_ i
            have hli : i = (xs.take i).length := by simp; omega
            have HR := Lib.hid hrc
            have HL := Lib.hid hli
            have HK := Lib.hid (kind_of (line_of_bad hbad))
            have HBad := Lib.hid hbad
            clear hrc hli hr hbad
            go_wp2
            (have Ed0 := Ups.cell d0; have Ed1 := Ups.cell d1; have Ed2 := Ups.cell d2; have Ed3 := Ups.cell d3; refine wp_region_up (by kernel_rfl) (by kernel_rfl) ?_; (repeat (go_big_quiet_step ((go_at_call 14; exact Ups.call (sumOf_impl_n _ (xs.take i) _ _ _ _ _ (HR.out.up (Up.step (Ups.up _) (by (repeat (first | exact Up.rfl' _ | (refine Up.al _ ?_) | (refine Up.dr _ ?_) | (refine Up.dr1 ?_) | (refine Up.sc ?_ (by first | exact Nat.le_refl _ | (simp; done) | omega) _) | (refine Up.step (by assumption) ?_)))))) HL.out (by omega)))))); refine wpQuiet_nil ?_; intro wq1 hq1; clear Ed0 Ed1 Ed2 Ed3; replace d0 := cellUp d0 hq1; replace d1 := cellUp d1 hq1; replace d2 := cellUp d2 hq1; replace d3 := cellUp d3 hq1)
            go_wp2
            (have Ed0 := Ups.cell d0; have Ed1 := Ups.cell d1; have Ed2 := Ups.cell d2; have Ed3 := Ups.cell d3; refine wp_region_up (by kernel_rfl) (by kernel_rfl) ?_; (repeat (go_big_quiet_step ((go_at_call 14; exact Ups.call (sumOf_impl_n _ (xs.take i) _ _ _ _ _ (HR.out.up (Up.step (Ups.up _) (by (repeat (first | exact Up.rfl' _ | (refine Up.al _ ?_) | (refine Up.dr _ ?_) | (refine Up.dr1 ?_) | (refine Up.sc ?_ (by first | exact Nat.le_refl _ | (simp; done) | omega) _) | (refine Up.step (by assumption) ?_)))))) HL.out (by omega)))))); refine wpQuiet_nil ?_; intro wq2 hq2; clear Ed0 Ed1 Ed2 Ed3; replace d0 := cellUp d0 hq2; replace d1 := cellUp d1 hq2; replace d2 := cellUp d2 hq2; replace d3 := cellUp d3 hq2)
            rcases HK.out with hk | hk | hk
            · have k1 : (x.k == 1) = true := by simp [hk]
              have hfit := fit1 (b := xs.take i) hk
              clear hk
              cases h1 : decide (0 < sumLn (xs.take i) x.o 1) with
              | true =>
                have HF := Lib.hid (linesB_unfit Gx.out (hfit.trans (by rw [h1]; rfl)))
                clear hfit
                go_wp2
                go_ret
                exact ⟨retb HF.out.symm, by (repeat (first | exact Up.rfl' _ | (refine Up.al _ ?_) | (refine Up.dr _ ?_) | (refine Up.dr1 ?_) | (refine Up.sc ?_ (by first | exact Nat.le_refl _ | (simp; done) | omega) _) | (refine Up.step (by assumption) ?_)))⟩
              | false =>
                have HF := Lib.hid (lineAt_ok Gx.out HBad.out (hfit.trans (by rw [h1]; rfl)))
                clear hfit
                go_wp2
                exact ⟨⟨i + 1, by omega, by go_num, allTo_succ he.out HF.out, by (repeat (first | exact Up.rfl' _ | (refine Up.al _ ?_) | (refine Up.dr _ ?_) | (refine Up.dr1 ?_) | (refine Up.sc ?_ (by first | exact Nat.le_refl _ | (simp; done) | omega) _) | (refine Up.step (by assumption) ?_)))⟩, by simp [intOf]; omega⟩
            · have k1 : (x.k == 1) = false := by simp [hk]
              have k2 : (x.k == 2) = true := by simp [hk]
              have hfit := fit2 (b := xs.take i) hk
              clear hk
              cases h1 : decide (sumLn (xs.take i) x.o 1 < wrap64 (sumLn (xs.take i) x.o 2 + x.a)) with
              | true =>
                have HF := Lib.hid (linesB_unfit Gx.out (hfit.trans (by rw [h1]; rfl)))
                clear hfit
                go_wp2
                go_ret
                exact ⟨retb HF.out.symm, by (repeat (first | exact Up.rfl' _ | (refine Up.al _ ?_) | (refine Up.dr _ ?_) | (refine Up.dr1 ?_) | (refine Up.sc ?_ (by first | exact Nat.le_refl _ | (simp; done) | omega) _) | (refine Up.step (by assumption) ?_)))⟩
              | false =>
                have HF := Lib.hid (lineAt_ok Gx.out HBad.out (hfit.trans (by rw [h1]; rfl)))
                clear hfit
                go_wp2
                exact ⟨⟨i + 1, by omega, by go_num, allTo_succ he.out HF.out, by (repeat (first | exact Up.rfl' _ | (refine Up.al _ ?_) | (refine Up.dr _ ?_) | (refine Up.dr1 ?_) | (refine Up.sc ?_ (by first | exact Nat.le_refl _ | (simp; done) | omega) _) | (refine Up.step (by assumption) ?_)))⟩, by simp [intOf]; omega⟩
            · have k1 : (x.k == 1) = false := by simp [hk]
              have k2 : (x.k == 2) = false := by simp [hk]
              have k3 : (x.k == 3) = true := by simp [hk]
              have hfit := fit3 (b := xs.take i) hk
              clear hk
              cases h1 : decide (0 < sumLn (xs.take i) x.o 3) with
              | true =>
                have HF := Lib.hid (linesB_unfit Gx.out (hfit.trans (by rw [h1]; rfl)))
                clear hfit
                go_wp2
                (have Ed0 := Ups.cell d0; have Ed1 := Ups.cell d1; have Ed2 := Ups.cell d2; have Ed3 := Ups.cell d3; refine wp_region_up (by kernel_rfl) (by kernel_rfl) ?_; (repeat (go_big_quiet_step ((go_at_call 14; exact Ups.call (sumOf_impl_n _ (xs.take i) _ _ _ _ _ (HR.out.up (Up.step (Ups.up _) (by (repeat (first | exact Up.rfl' _ | (refine Up.al _ ?_) | (refine Up.dr _ ?_) | (refine Up.dr1 ?_) | (refine Up.sc ?_ (by first | exact Nat.le_refl _ | (simp; done) | omega) _) | (refine Up.step (by assumption) ?_)))))) HL.out (by omega)))))); refine wpQuiet_nil ?_; intro wq3 hq3; clear Ed0 Ed1 Ed2 Ed3; replace d0 := cellUp d0 hq3; replace d1 := cellUp d1 hq3; replace d2 := cellUp d2 hq3; replace d3 := cellUp d3 hq3)
                go_wp2
                go_ret
                exact ⟨retb HF.out.symm, by (repeat (first | exact Up.rfl' _ | (refine Up.al _ ?_) | (refine Up.dr _ ?_) | (refine Up.dr1 ?_) | (refine Up.sc ?_ (by first | exact Nat.le_refl _ | (simp; done) | omega) _) | (refine Up.step (by assumption) ?_)))⟩
              | false =>
              cases h2 : (sumLn (xs.take i) x.o 2 != sumLn (xs.take i) x.o 1) with
              | true =>
                have HF := Lib.hid (linesB_unfit Gx.out (hfit.trans (by rw [h1]; simp at h2; simp [h2])))
                clear hfit
                go_wp2
                (have Ed0 := Ups.cell d0; have Ed1 := Ups.cell d1; have Ed2 := Ups.cell d2; have Ed3 := Ups.cell d3; refine wp_region_up (by kernel_rfl) (by kernel_rfl) ?_; (repeat (go_big_quiet_step ((go_at_call 14; exact Ups.call (sumOf_impl_n _ (xs.take i) _ _ _ _ _ (HR.out.up (Up.step (Ups.up _) (by (repeat (first | exact Up.rfl' _ | (refine Up.al _ ?_) | (refine Up.dr _ ?_) | (refine Up.dr1 ?_) | (refine Up.sc ?_ (by first | exact Nat.le_refl _ | (simp; done) | omega) _) | (refine Up.step (by assumption) ?_)))))) HL.out (by omega)))))); refine wpQuiet_nil ?_; intro wq3 hq3; clear Ed0 Ed1 Ed2 Ed3; replace d0 := cellUp d0 hq3; replace d1 := cellUp d1 hq3; replace d2 := cellUp d2 hq3; replace d3 := cellUp d3 hq3)
                go_wp2
                go_ret
                exact ⟨retb HF.out.symm, by (repeat (first | exact Up.rfl' _ | (refine Up.al _ ?_) | (refine Up.dr _ ?_) | (refine Up.dr1 ?_) | (refine Up.sc ?_ (by first | exact Nat.le_refl _ | (simp; done) | omega) _) | (refine Up.step (by assumption) ?_)))⟩
              | false =>
              cases h3 : decide (sumLn (xs.take i) x.o 1 < x.a) with
              | true =>
                have HF := Lib.hid (linesB_unfit Gx.out (hfit.trans (by rw [h1, h3]; simp)))
                clear hfit
                go_wp2
                (have Ed0 := Ups.cell d0; have Ed1 := Ups.cell d1; have Ed2 := Ups.cell d2; have Ed3 := Ups.cell d3; refine wp_region_up (by kernel_rfl) (by kernel_rfl) ?_; (repeat (go_big_quiet_step ((go_at_call 14; exact Ups.call (sumOf_impl_n _ (xs.take i) _ _ _ _ _ (HR.out.up (Up.step (Ups.up _) (by (repeat (first | exact Up.rfl' _ | (refine Up.al _ ?_) | (refine Up.dr _ ?_) | (refine Up.dr1 ?_) | (refine Up.sc ?_ (by first | exact Nat.le_refl _ | (simp; done) | omega) _) | (refine Up.step (by assumption) ?_)))))) HL.out (by omega)))))); refine wpQuiet_nil ?_; intro wq3 hq3; clear Ed0 Ed1 Ed2 Ed3; replace d0 := cellUp d0 hq3; replace d1 := cellUp d1 hq3; replace d2 := cellUp d2 hq3; replace d3 := cellUp d3 hq3)
                go_wp2
                go_ret
                exact ⟨retb HF.out.symm, by (repeat (first | exact Up.rfl' _ | (refine Up.al _ ?_) | (refine Up.dr _ ?_) | (refine Up.dr1 ?_) | (refine Up.sc ?_ (by first | exact Nat.le_refl _ | (simp; done) | omega) _) | (refine Up.step (by assumption) ?_)))⟩
              | false =>
                have HF := Lib.hid (lineAt_ok Gx.out HBad.out (hfit.trans (by rw [h1, h3]; simp at h2; simp [h2])))
                clear hfit
                go_wp2
                (have Ed0 := Ups.cell d0; have Ed1 := Ups.cell d1; have Ed2 := Ups.cell d2; have Ed3 := Ups.cell d3; refine wp_region_up (by kernel_rfl) (by kernel_rfl) ?_; (repeat (go_big_quiet_step ((go_at_call 14; exact Ups.call (sumOf_impl_n _ (xs.take i) _ _ _ _ _ (HR.out.up (Up.step (Ups.up _) (by (repeat (first | exact Up.rfl' _ | (refine Up.al _ ?_) | (refine Up.dr _ ?_) | (refine Up.dr1 ?_) | (refine Up.sc ?_ (by first | exact Nat.le_refl _ | (simp; done) | omega) _) | (refine Up.step (by assumption) ?_)))))) HL.out (by omega)))))); refine wpQuiet_nil ?_; intro wq3 hq3; clear Ed0 Ed1 Ed2 Ed3; replace d0 := cellUp d0 hq3; replace d1 := cellUp d1 hq3; replace d2 := cellUp d2 hq3; replace d3 := cellUp d3 hq3)
                go_wp2
                exact ⟨⟨i + 1, by omega, by go_num, allTo_succ he.out HF.out, by (repeat (first | exact Up.rfl' _ | (refine Up.al _ ?_) | (refine Up.dr _ ?_) | (refine Up.dr1 ?_) | (refine Up.sc ?_ (by first | exact Nat.le_refl _ | (simp; done) | omega) _) | (refine Up.step (by assumption) ?_)))⟩, by simp [intOf]; omega⟩
      · obtain rfl : i = xs.length := by omega
        have HR := Lib.hid (linesB_all h200 he.out)
        go_wp2
        go_ret
        exact ⟨retb HR.out.symm, by (repeat (first | exact Up.rfl' _ | (refine Up.al _ ?_) | (refine Up.dr _ ?_) | (refine Up.dr1 ?_) | (refine Up.sc ?_ (by first | exact Nat.le_refl _ | (simp; done) | omega) _) | (refine Up.step (by assumption) ?_)))⟩
  · have HR := Lib.hid (linesB_long h200)
    go_enter Tryd.func24, Tryd.ntmps24
    go_wp2
    go_ret
    exact ⟨retb HR.out.symm, by (repeat (first | exact Up.rfl' _ | (refine Up.al _ ?_) | (refine Up.dr _ ?_) | (refine Up.dr1 ?_) | (refine Up.sc ?_ (by first | exact Nat.le_refl _ | (simp; done) | omega) _) | (refine Up.step (by assumption) ?_)))⟩
end Go.Proofs.YtapllnlclgbbkaaDoor

namespace Go.Proofs.YtapllnlclgbbkaaDoor
set_option maxRecDepth 10000
open Go.RowKit
theorem sumOf_spec_n (A : Option Addr) (xs : List Ln) (n c : Nat) (o k : Int) (w : World) (hr : Rd w w.heap.size A xs) (hl : n = xs.length) (hn : n ≤ 2000000)
  : Calls Tryd.prog 31 #[.slice A n c, .int .i64 o, .int .i64 k] w fun e w' => e = .returned (.int .i64 (sumLn xs o k)) ∧ Up w w' := by
  subst hl; exact sumOf_spec A xs c o k w hr hn
theorem l11Count_any (A : Option Addr) (xs : List Ln) (c : Nat) (o k : Int) (w : World) (hr : Rd w w.heap.size A xs) (hn : xs.length ≤ 2000000)
  : Calls Tryd.prog 32 #[.slice A xs.length c, .int .i64 o, .int .i64 k] w fun e w' => e = .returned (.int .i64 (cntLn xs o k)) ∧ Up w w' := by
  go_enter Tryd.func32, Tryd.ntmps32
  go_wp2
  go_loopw [7, 8] (fun n7 i wr => ∃ j : Nat, j ≤ xs.length ∧ i = .int .i64 j ∧ n7 = .int .i64 (cntLn (xs.take j) o k) ∧ Up w wr) (fun _ i _ => xs.length - (intOf i).toNat)
  case atStart => exact ⟨0, by omega, rfl, rfl, Below.refl _ _⟩
  case round =>
    obtain ⟨i, hi, rfl, rfl, hb⟩ := hrel
    by_cases hlt : i < xs.length
    · obtain ⟨x, hx⟩ := get_of_lt hlt
      obtain ⟨b, off, rfl, hbb, c0, c1, c2, c3⟩ := (hr.below hb).ln hx
      have S : Hid (cntLn (xs.take (i+1)) o k = cntStep o k (cntLn (xs.take i) o k) x) := foldl_snoc hx _ _
      clear hr hx
      go_wp2
      all_goals exact ⟨⟨i + 1, by omega, by go_num, by rw [S.out]; simp [cntStep, *], by (repeat (first | exact Up.rfl' _ | (refine Up.al _ ?_) | (refine Up.dr _ ?_) | (refine Up.dr1 ?_) | (refine Up.sc ?_ (by first | exact Nat.le_refl _ | (simp; done) | omega) _) | (refine Up.step (by assumption) ?_)))⟩, by simp [intOf]; omega⟩
    · go_wp2
      go_ret
      obtain rfl : i = xs.length := by omega
      exact ⟨by simp, hb⟩
theorem l11Count_n (A : Option Addr) (xs : List Ln) (n c : Nat) (o k : Int) (w : World) (hr : Rd w w.heap.size A xs) (hl : n = xs.length) (hn : n ≤ 2000000)
  : Calls Tryd.prog 32 #[.slice A n c, .int .i64 o, .int .i64 k] w fun e w' => e = .returned (.int .i64 (cntLn xs o k)) ∧ Up w w' := by
  subst hl; exact l11Count_any A xs c o k w hr hn
set_option maxHeartbeats 1600000 in
theorem areLines_spec (A : Option Addr) (xs : List Ln) (c : Nat) (w : World) (hr : Rd w w.heap.size A xs) (hc : xs.length ≤ c) (hn : xs.length ≤ 2000000)
  : Calls Tryd.prog 16 #[.slice A xs.length c] w fun e w' => e = .returned (.bool (linesB xs)) ∧ Up w w' := by
  by_cases h200 : xs.length ≤ 200
  · go_enter Tryd.func16, Tryd.ntmps16
    go_wp2
    go_loopw [3] (fun i wr => ∃ j : Nat, j ≤ xs.length ∧ i = .int .i64 j ∧ Hid (allTo j (lineAt xs) = true) ∧ Up w wr) (fun i _ => xs.length - (intOf i).toNat)
    case atStart => exact ⟨0, by omega, rfl, allTo_zero _, by (repeat (first | exact Up.rfl' _ | (refine Up.al _ ?_) | (refine Up.dr _ ?_) | (refine Up.dr1 ?_) | (refine Up.sc ?_ (by first | exact Nat.le_refl _ | (simp; done) | omega) _) | (refine Up.step (by assumption) ?_)))⟩
    case round =>
      obtain ⟨i, hi, rfl, he, hb⟩ := hrel
      by_cases hlt : i < xs.length
      · obtain ⟨x, gx⟩ := get_of_lt hlt
        obtain ⟨b, off, rfl, hbb, c0, c1, c2, c3⟩ := (hr.below hb).ln gx
        have Gx := Lib.hid gx
        clear gx
        go_wp2
        generalize hwb : wr.alloc (.cells #[I x.o, I x.k, I x.a, I x.t] 34) = wb
        have d0 : wb.cell? ⟨wr.heap.size, 0, none⟩ = some (I x.o) := by rw [← hwb]; simp [go_sem]
        have d1 : wb.cell? ⟨wr.heap.size, 1, none⟩ = some (I x.k) := by rw [← hwb]; simp [go_sem]
        have d2 : wb.cell? ⟨wr.heap.size, 2, none⟩ = some (I x.a) := by rw [← hwb]; simp [go_sem]
        have d3 : wb.cell? ⟨wr.heap.size, 3, none⟩ = some (I x.t) := by rw [← hwb]; simp [go_sem]
        have hub : Up wr wb := by rw [← hwb]; (repeat (first | exact Up.rfl' _ | (refine Up.al _ ?_) | (refine Up.dr _ ?_) | (refine Up.dr1 ?_) | (refine Up.sc ?_ (by first | exact Nat.le_refl _ | (simp; done) | omega) _) | (refine Up.step (by assumption) ?_)))
        clear hwb c0 c1 c2 c3
        go_cut [3, 37] (fun s12 s34 wx => s12 = .int .i64 i ∧ s34 = .bool (badAt xs i x) ∧ Up wb wx)
        case first =>
          cases hL : lineB x.o x.k x.a x.t with
          | false =>
            have HB := Lib.hid (bad_line (xs := xs) (i := i) hL)
            (have Ed0 := Ups.cell d0; have Ed1 := Ups.cell d1; have Ed2 := Ups.cell d2; have Ed3 := Ups.cell d3; refine wp_region_up (by kernel_rfl) (by kernel_rfl) ?_; (repeat (go_big_quiet_step ((go_at_call 30; exact Ups.call (isLine_spec _ _ _ _ _))))); refine wpQuiet_nil ?_; intro wq1 hq1; clear Ed0 Ed1 Ed2 Ed3; replace d0 := cellUp d0 hq1; replace d1 := cellUp d1 hq1; replace d2 := cellUp d2 hq1; replace d3 := cellUp d3 hq1)
            go_wp2
            go_meet
            exact ⟨rfl, by rw [HB.out], by (repeat (first | exact Up.rfl' _ | (refine Up.al _ ?_) | (refine Up.dr _ ?_) | (refine Up.dr1 ?_) | (refine Up.sc ?_ (by first | exact Nat.le_refl _ | (simp; done) | omega) _) | (refine Up.step (by assumption) ?_)))⟩
          | true =>
            rcases Nat.eq_zero_or_pos i with h0' | h0
            · have h0 : i ≤ 0 := by omega
              clear h0'
              have HB := Lib.hid (bad_first (xs := xs) hL h0)
              have t0 : decide ((0 : Int) < (i : Int)) = false := decide_eq_false (by omega)
              have t1 : decide (0 < i) = false := decide_eq_false (by omega)
              (have Ed0 := Ups.cell d0; have Ed1 := Ups.cell d1; have Ed2 := Ups.cell d2; have Ed3 := Ups.cell d3; refine wp_region_up (by kernel_rfl) (by kernel_rfl) ?_; (repeat (go_big_quiet_step ((go_at_call 30; exact Ups.call (isLine_spec _ _ _ _ _))))); refine wpQuiet_nil ?_; intro wq1 hq1; clear Ed0 Ed1 Ed2 Ed3; replace d0 := cellUp d0 hq1; replace d1 := cellUp d1 hq1; replace d2 := cellUp d2 hq1; replace d3 := cellUp d3 hq1)
              go_wp2
              go_meet
              exact ⟨rfl, by rw [HB.out], by (repeat (first | exact Up.rfl' _ | (refine Up.al _ ?_) | (refine Up.dr _ ?_) | (refine Up.dr1 ?_) | (refine Up.sc ?_ (by first | exact Nat.le_refl _ | (simp; done) | omega) _) | (refine Up.step (by assumption) ?_)))⟩
            · obtain ⟨m, rfl⟩ : ∃ m, i = m + 1 := ⟨i - 1, by omega⟩
              obtain ⟨y, gy⟩ := get_of_lt (xs := xs) (i := m) (by omega)
              obtain ⟨b', off', hA, _, _, _, _, p3⟩ := ((hr.up hb).up hub).ln gy
              obtain ⟨rfl, rfl⟩ : b = b' ∧ off = off' := by simpa using hA
              have HB := Lib.hid (bad_next (x := x) hL gy)
              clear hA gy hr
              have t0 : decide ((0 : Int) < (m : Int) + 1) = true := decide_eq_true (by omega)
              have t1 : decide (0 < m + 1) = true := by simp
              have wm : IntKind.i64.wrap (m : Int) = m := IntWalk.i64_in _ (by omega)
              have wm1 : IntKind.i64.wrap ((m : Int) + 1 - 1) = m := by rw [IntWalk.i64_in _ (by omega)]; omega
              have bm0 : (0 : Int) ≤ (m : Int) := by omega
              have bm1 : (m : Int) < (xs.length : Int) := by omega
              (have Ed0 := Ups.cell d0; have Ed1 := Ups.cell d1; have Ed2 := Ups.cell d2; have Ed3 := Ups.cell d3; have Ep3 := Ups.cell p3; refine wp_region_up (by kernel_rfl) (by kernel_rfl) ?_; (repeat (go_big_quiet_step ((go_at_call 30; exact Ups.call (isLine_spec _ _ _ _ _))))); refine wpQuiet_nil ?_; intro wq1 hq1; clear Ed0 Ed1 Ed2 Ed3 Ep3; replace d0 := cellUp d0 hq1; replace d1 := cellUp d1 hq1; replace d2 := cellUp d2 hq1; replace d3 := cellUp d3 hq1; replace p3 := cellUp p3 hq1)
              go_wp2
              go_meet
              exact ⟨by go_num, by rw [HB.out], by (repeat (first | exact Up.rfl' _ | (refine Up.al _ ?_) | (refine Up.dr _ ?_) | (refine Up.dr1 ?_) | (refine Up.sc ?_ (by first | exact Nat.le_refl _ | (simp; done) | omega) _) | (refine Up.step (by assumption) ?_)))⟩
        case rest =>
          obtain ⟨rfl, rfl, hbc⟩ := hcut
          replace d0 := cellUp d0 hbc
          replace d1 := cellUp d1 hbc
          replace d2 := cellUp d2 hbc
          replace d3 := cellUp d3 hbc
          cases hbad : badAt xs i x with
          | true =>
            have HR := Lib.hid (linesB_bad Gx.out hbad)
            go_wp2
            go_ret
            exact ⟨retb HR.out.symm, by (repeat (first | exact Up.rfl' _ | (refine Up.al _ ?_) | (refine Up.dr _ ?_) | (refine Up.dr1 ?_) | (refine Up.sc ?_ (by first | exact Nat.le_refl _ | (simp; done) | omega) _) | (refine Up.step (by assumption) ?_)))⟩
          | false =>
            have bi0 : (0 : Int) ≤ (i : Int) := by omega
            have bi1 : (i : Int) ≤ (c : Int) := by omega
            have bc0 : ¬ c = 0 := by omega
            have hrc := (hr.up (show Up w wc by (repeat (first | exact Up.rfl' _ | (refine Up.al _ ?_) | (refine Up.dr _ ?_) | (refine Up.dr1 ?_) | (refine Up.sc ?_ (by first | exact Nat.le_refl _ | (simp; done) | omega) _) | (refine Up.step (by assumption) ?_))))).take_ i
            have hli : i = (xs.take i).length := by simp; omega
            have HR := Lib.hid hrc
            have HL := Lib.hid hli
            have HK := Lib.hid (kind_of (line_of_bad hbad))
            have HBad := Lib.hid hbad
            clear hrc hli hr hbad
            rcases HK.out with hk | hk | hk
            · have k1 : (x.k == 1) = true := by simp [hk]
              have hfit := fit1 (b := xs.take i) hk
              clear hk
              cases h1 : decide (0 < sumLn (xs.take i) x.o 1) with
              | true =>
                have HF := Lib.hid (linesB_unfit Gx.out (hfit.trans (by rw [h1]; rfl)))
                clear hfit
                go_wp2_with (go_at_call 31; refine (sumOf_spec_n _ (xs.take i) _ _ _ _ _ (HR.out.up (by (repeat (first | exact Up.rfl' _ | (refine Up.al _ ?_) | (refine Up.dr _ ?_) | (refine Up.dr1 ?_) | (refine Up.sc ?_ (by first | exact Nat.le_refl _ | (simp; done) | omega) _) | (refine Up.step (by assumption) ?_))))) HL.out (by omega)).mono ?_; rintro e w1 ⟨rfl, hb1⟩; replace d0 := cellUp d0 hb1; replace d1 := cellUp d1 hb1; replace d2 := cellUp d2 hb1; replace d3 := cellUp d3 hb1)
                go_ret
                exact ⟨retb HF.out.symm, by (repeat (first | exact Up.rfl' _ | (refine Up.al _ ?_) | (refine Up.dr _ ?_) | (refine Up.dr1 ?_) | (refine Up.sc ?_ (by first | exact Nat.le_refl _ | (simp; done) | omega) _) | (refine Up.step (by assumption) ?_)))⟩
              | false =>
                have HF := Lib.hid (lineAt_ok Gx.out HBad.out (hfit.trans (by rw [h1]; rfl)))
                clear hfit
                go_wp2_with (go_at_call 31; refine (sumOf_spec_n _ (xs.take i) _ _ _ _ _ (HR.out.up (by (repeat (first | exact Up.rfl' _ | (refine Up.al _ ?_) | (refine Up.dr _ ?_) | (refine Up.dr1 ?_) | (refine Up.sc ?_ (by first | exact Nat.le_refl _ | (simp; done) | omega) _) | (refine Up.step (by assumption) ?_))))) HL.out (by omega)).mono ?_; rintro e w1 ⟨rfl, hb1⟩; replace d0 := cellUp d0 hb1; replace d1 := cellUp d1 hb1; replace d2 := cellUp d2 hb1; replace d3 := cellUp d3 hb1)
                exact ⟨⟨i + 1, by omega, by go_num, allTo_succ he.out HF.out, by (repeat (first | exact Up.rfl' _ | (refine Up.al _ ?_) | (refine Up.dr _ ?_) | (refine Up.dr1 ?_) | (refine Up.sc ?_ (by first | exact Nat.le_refl _ | (simp; done) | omega) _) | (refine Up.step (by assumption) ?_)))⟩, by simp [intOf]; omega⟩
            · have k1 : (x.k == 1) = false := by simp [hk]
              have k2 : (x.k == 2) = true := by simp [hk]
              have hfit := fit2 (b := xs.take i) hk
              clear hk
              cases h1 : decide (sumLn (xs.take i) x.o 1 < wrap64 (sumLn (xs.take i) x.o 2 + x.a)) with
              | true =>
                have HF := Lib.hid (linesB_unfit Gx.out (hfit.trans (by rw [h1]; rfl)))
                clear hfit
                go_wp2_with (go_at_call 31; refine (sumOf_spec_n _ (xs.take i) _ _ _ _ _ (HR.out.up (by (repeat (first | exact Up.rfl' _ | (refine Up.al _ ?_) | (refine Up.dr _ ?_) | (refine Up.dr1 ?_) | (refine Up.sc ?_ (by first | exact Nat.le_refl _ | (simp; done) | omega) _) | (refine Up.step (by assumption) ?_))))) HL.out (by omega)).mono ?_; rintro e w1 ⟨rfl, hb1⟩; replace d0 := cellUp d0 hb1; replace d1 := cellUp d1 hb1; replace d2 := cellUp d2 hb1; replace d3 := cellUp d3 hb1)
                (have Ed0 := Ups.cell d0; have Ed1 := Ups.cell d1; have Ed2 := Ups.cell d2; have Ed3 := Ups.cell d3; refine wp_region_up (by kernel_rfl) (by kernel_rfl) ?_; (repeat (go_big_quiet_step ((go_at_call 31; exact Ups.call (sumOf_spec_n _ (xs.take i) _ _ _ _ _ (HR.out.up (Up.step (Ups.up _) (by (repeat (first | exact Up.rfl' _ | (refine Up.al _ ?_) | (refine Up.dr _ ?_) | (refine Up.dr1 ?_) | (refine Up.sc ?_ (by first | exact Nat.le_refl _ | (simp; done) | omega) _) | (refine Up.step (by assumption) ?_)))))) HL.out (by omega)))))); refine wpQuiet_nil ?_; intro wq3 hq3; clear Ed0 Ed1 Ed2 Ed3; replace d0 := cellUp d0 hq3; replace d1 := cellUp d1 hq3; replace d2 := cellUp d2 hq3; replace d3 := cellUp d3 hq3)
                go_wp2
                go_ret
                exact ⟨retb HF.out.symm, by (repeat (first | exact Up.rfl' _ | (refine Up.al _ ?_) | (refine Up.dr _ ?_) | (refine Up.dr1 ?_) | (refine Up.sc ?_ (by first | exact Nat.le_refl _ | (simp; done) | omega) _) | (refine Up.step (by assumption) ?_)))⟩
              | false =>
                have HF := Lib.hid (lineAt_ok Gx.out HBad.out (hfit.trans (by rw [h1]; rfl)))
                clear hfit
                go_wp2_with (go_at_call 31; refine (sumOf_spec_n _ (xs.take i) _ _ _ _ _ (HR.out.up (by (repeat (first | exact Up.rfl' _ | (refine Up.al _ ?_) | (refine Up.dr _ ?_) | (refine Up.dr1 ?_) | (refine Up.sc ?_ (by first | exact Nat.le_refl _ | (simp; done) | omega) _) | (refine Up.step (by assumption) ?_))))) HL.out (by omega)).mono ?_; rintro e w1 ⟨rfl, hb1⟩; replace d0 := cellUp d0 hb1; replace d1 := cellUp d1 hb1; replace d2 := cellUp d2 hb1; replace d3 := cellUp d3 hb1)
                (have Ed0 := Ups.cell d0; have Ed1 := Ups.cell d1; have Ed2 := Ups.cell d2; have Ed3 := Ups.cell d3; refine wp_region_up (by kernel_rfl) (by kernel_rfl) ?_; (repeat (go_big_quiet_step ((go_at_call 31; exact Ups.call (sumOf_spec_n _ (xs.take i) _ _ _ _ _ (HR.out.up (Up.step (Ups.up _) (by (repeat (first | exact Up.rfl' _ | (refine Up.al _ ?_) | (refine Up.dr _ ?_) | (refine Up.dr1 ?_) | (refine Up.sc ?_ (by first | exact Nat.le_refl _ | (simp; done) | omega) _) | (refine Up.step (by assumption) ?_)))))) HL.out (by omega)))))); refine wpQuiet_nil ?_; intro wq3 hq3; clear Ed0 Ed1 Ed2 Ed3; replace d0 := cellUp d0 hq3; replace d1 := cellUp d1 hq3; replace d2 := cellUp d2 hq3; replace d3 := cellUp d3 hq3)
                go_wp2
                exact ⟨⟨i + 1, by omega, by go_num, allTo_succ he.out HF.out, by (repeat (first | exact Up.rfl' _ | (refine Up.al _ ?_) | (refine Up.dr _ ?_) | (refine Up.dr1 ?_) | (refine Up.sc ?_ (by first | exact Nat.le_refl _ | (simp; done) | omega) _) | (refine Up.step (by assumption) ?_)))⟩, by simp [intOf]; omega⟩
            · have k1 : (x.k == 1) = false := by simp [hk]
              have k2 : (x.k == 2) = false := by simp [hk]
              have k3 : (x.k == 3) = true := by simp [hk]
              have hfit := fit3 (b := xs.take i) hk
              clear hk
              have hcs := cnt_pos x.o 3 he.out (by omega)
              cases h1 : decide (0 < sumLn (xs.take i) x.o 3) with
              | true =>
                have HF := Lib.hid (linesB_unfit Gx.out (hfit.trans (by rw [h1]; rfl)))
                have h4 := hcs.trans h1
                clear hcs h1
                clear hfit
                go_wp2_with (first | (go_at_call 32; refine (l11Count_n _ (xs.take i) _ _ _ _ _ (HR.out.up (by (repeat (first | exact Up.rfl' _ | (refine Up.al _ ?_) | (refine Up.dr _ ?_) | (refine Up.dr1 ?_) | (refine Up.sc ?_ (by first | exact Nat.le_refl _ | (simp; done) | omega) _) | (refine Up.step (by assumption) ?_))))) HL.out (by omega)).mono ?_; rintro e w9 ⟨rfl, hb9⟩; replace d0 := cellUp d0 hb9; replace d1 := cellUp d1 hb9; replace d2 := cellUp d2 hb9; replace d3 := cellUp d3 hb9) | (go_at_call 31; refine (sumOf_spec_n _ (xs.take i) _ _ _ _ _ (HR.out.up (by (repeat (first | exact Up.rfl' _ | (refine Up.al _ ?_) | (refine Up.dr _ ?_) | (refine Up.dr1 ?_) | (refine Up.sc ?_ (by first | exact Nat.le_refl _ | (simp; done) | omega) _) | (refine Up.step (by assumption) ?_))))) HL.out (by omega)).mono ?_; rintro e w8 ⟨rfl, hb8⟩; replace d0 := cellUp d0 hb8; replace d1 := cellUp d1 hb8; replace d2 := cellUp d2 hb8; replace d3 := cellUp d3 hb8))
                go_ret
                exact ⟨retb HF.out.symm, by (repeat (first | exact Up.rfl' _ | (refine Up.al _ ?_) | (refine Up.dr _ ?_) | (refine Up.dr1 ?_) | (refine Up.sc ?_ (by first | exact Nat.le_refl _ | (simp; done) | omega) _) | (refine Up.step (by assumption) ?_)))⟩
              | false =>
              cases h2 : (sumLn (xs.take i) x.o 2 != sumLn (xs.take i) x.o 1) with
              | true =>
                cases h3 : decide (sumLn (xs.take i) x.o 1 < x.a) with
                | true =>
                    have HF := Lib.hid (linesB_unfit Gx.out (hfit.trans (by rw [h1]; simp at h2; simp [h2])))
                    have h4 := hcs.trans h1
                    clear hcs h1
                    clear hfit
                    go_wp2_with (first | (go_at_call 32; refine (l11Count_n _ (xs.take i) _ _ _ _ _ (HR.out.up (by (repeat (first | exact Up.rfl' _ | (refine Up.al _ ?_) | (refine Up.dr _ ?_) | (refine Up.dr1 ?_) | (refine Up.sc ?_ (by first | exact Nat.le_refl _ | (simp; done) | omega) _) | (refine Up.step (by assumption) ?_))))) HL.out (by omega)).mono ?_; rintro e w9 ⟨rfl, hb9⟩; replace d0 := cellUp d0 hb9; replace d1 := cellUp d1 hb9; replace d2 := cellUp d2 hb9; replace d3 := cellUp d3 hb9) | (go_at_call 31; refine (sumOf_spec_n _ (xs.take i) _ _ _ _ _ (HR.out.up (by (repeat (first | exact Up.rfl' _ | (refine Up.al _ ?_) | (refine Up.dr _ ?_) | (refine Up.dr1 ?_) | (refine Up.sc ?_ (by first | exact Nat.le_refl _ | (simp; done) | omega) _) | (refine Up.step (by assumption) ?_))))) HL.out (by omega)).mono ?_; rintro e w8 ⟨rfl, hb8⟩; replace d0 := cellUp d0 hb8; replace d1 := cellUp d1 hb8; replace d2 := cellUp d2 hb8; replace d3 := cellUp d3 hb8))
                    go_ret
                    exact ⟨retb HF.out.symm, by (repeat (first | exact Up.rfl' _ | (refine Up.al _ ?_) | (refine Up.dr _ ?_) | (refine Up.dr1 ?_) | (refine Up.sc ?_ (by first | exact Nat.le_refl _ | (simp; done) | omega) _) | (refine Up.step (by assumption) ?_)))⟩
                | false =>
                    have HF := Lib.hid (linesB_unfit Gx.out (hfit.trans (by rw [h1]; simp at h2; simp [h2])))
                    have h4 := hcs.trans h1
                    clear hcs h1
                    clear hfit
                    go_wp2_with (first | (go_at_call 32; refine (l11Count_n _ (xs.take i) _ _ _ _ _ (HR.out.up (by (repeat (first | exact Up.rfl' _ | (refine Up.al _ ?_) | (refine Up.dr _ ?_) | (refine Up.dr1 ?_) | (refine Up.sc ?_ (by first | exact Nat.le_refl _ | (simp; done) | omega) _) | (refine Up.step (by assumption) ?_))))) HL.out (by omega)).mono ?_; rintro e w9 ⟨rfl, hb9⟩; replace d0 := cellUp d0 hb9; replace d1 := cellUp d1 hb9; replace d2 := cellUp d2 hb9; replace d3 := cellUp d3 hb9) | (go_at_call 31; refine (sumOf_spec_n _ (xs.take i) _ _ _ _ _ (HR.out.up (by (repeat (first | exact Up.rfl' _ | (refine Up.al _ ?_) | (refine Up.dr _ ?_) | (refine Up.dr1 ?_) | (refine Up.sc ?_ (by first | exact Nat.le_refl _ | (simp; done) | omega) _) | (refine Up.step (by assumption) ?_))))) HL.out (by omega)).mono ?_; rintro e w8 ⟨rfl, hb8⟩; replace d0 := cellUp d0 hb8; replace d1 := cellUp d1 hb8; replace d2 := cellUp d2 hb8; replace d3 := cellUp d3 hb8))
                    go_ret
                    exact ⟨retb HF.out.symm, by (repeat (first | exact Up.rfl' _ | (refine Up.al _ ?_) | (refine Up.dr _ ?_) | (refine Up.dr1 ?_) | (refine Up.sc ?_ (by first | exact Nat.le_refl _ | (simp; done) | omega) _) | (refine Up.step (by assumption) ?_)))⟩
              | false =>
              cases h3 : decide (sumLn (xs.take i) x.o 1 < x.a) with
              | true =>
                have HF := Lib.hid (linesB_unfit Gx.out (hfit.trans (by rw [h1, h3]; simp)))
                have h4 := hcs.trans h1
                clear hcs h1
                clear hfit
                go_wp2_with (first | (go_at_call 32; refine (l11Count_n _ (xs.take i) _ _ _ _ _ (HR.out.up (by (repeat (first | exact Up.rfl' _ | (refine Up.al _ ?_) | (refine Up.dr _ ?_) | (refine Up.dr1 ?_) | (refine Up.sc ?_ (by first | exact Nat.le_refl _ | (simp; done) | omega) _) | (refine Up.step (by assumption) ?_))))) HL.out (by omega)).mono ?_; rintro e w9 ⟨rfl, hb9⟩; replace d0 := cellUp d0 hb9; replace d1 := cellUp d1 hb9; replace d2 := cellUp d2 hb9; replace d3 := cellUp d3 hb9) | (go_at_call 31; refine (sumOf_spec_n _ (xs.take i) _ _ _ _ _ (HR.out.up (by (repeat (first | exact Up.rfl' _ | (refine Up.al _ ?_) | (refine Up.dr _ ?_) | (refine Up.dr1 ?_) | (refine Up.sc ?_ (by first | exact Nat.le_refl _ | (simp; done) | omega) _) | (refine Up.step (by assumption) ?_))))) HL.out (by omega)).mono ?_; rintro e w8 ⟨rfl, hb8⟩; replace d0 := cellUp d0 hb8; replace d1 := cellUp d1 hb8; replace d2 := cellUp d2 hb8; replace d3 := cellUp d3 hb8))
                go_ret
                exact ⟨retb HF.out.symm, by (repeat (first | exact Up.rfl' _ | (refine Up.al _ ?_) | (refine Up.dr _ ?_) | (refine Up.dr1 ?_) | (refine Up.sc ?_ (by first | exact Nat.le_refl _ | (simp; done) | omega) _) | (refine Up.step (by assumption) ?_)))⟩
              | false =>
                have HF := Lib.hid (lineAt_ok Gx.out HBad.out (hfit.trans (by rw [h1, h3]; simp at h2; simp [h2])))
                have h4 := hcs.trans h1
                clear hcs h1
                clear hfit
                go_wp2_with (first | (go_at_call 32; refine (l11Count_n _ (xs.take i) _ _ _ _ _ (HR.out.up (by (repeat (first | exact Up.rfl' _ | (refine Up.al _ ?_) | (refine Up.dr _ ?_) | (refine Up.dr1 ?_) | (refine Up.sc ?_ (by first | exact Nat.le_refl _ | (simp; done) | omega) _) | (refine Up.step (by assumption) ?_))))) HL.out (by omega)).mono ?_; rintro e w9 ⟨rfl, hb9⟩; replace d0 := cellUp d0 hb9; replace d1 := cellUp d1 hb9; replace d2 := cellUp d2 hb9; replace d3 := cellUp d3 hb9) | (go_at_call 31; refine (sumOf_spec_n _ (xs.take i) _ _ _ _ _ (HR.out.up (by (repeat (first | exact Up.rfl' _ | (refine Up.al _ ?_) | (refine Up.dr _ ?_) | (refine Up.dr1 ?_) | (refine Up.sc ?_ (by first | exact Nat.le_refl _ | (simp; done) | omega) _) | (refine Up.step (by assumption) ?_))))) HL.out (by omega)).mono ?_; rintro e w8 ⟨rfl, hb8⟩; replace d0 := cellUp d0 hb8; replace d1 := cellUp d1 hb8; replace d2 := cellUp d2 hb8; replace d3 := cellUp d3 hb8))
                exact ⟨⟨i + 1, by omega, by go_num, allTo_succ he.out HF.out, by (repeat (first | exact Up.rfl' _ | (refine Up.al _ ?_) | (refine Up.dr _ ?_) | (refine Up.dr1 ?_) | (refine Up.sc ?_ (by first | exact Nat.le_refl _ | (simp; done) | omega) _) | (refine Up.step (by assumption) ?_)))⟩, by simp [intOf]; omega⟩
      · obtain rfl : i = xs.length := by omega
        have HR := Lib.hid (linesB_all h200 he.out)
        go_wp2
        go_ret
        exact ⟨retb HR.out.symm, by (repeat (first | exact Up.rfl' _ | (refine Up.al _ ?_) | (refine Up.dr _ ?_) | (refine Up.dr1 ?_) | (refine Up.sc ?_ (by first | exact Nat.le_refl _ | (simp; done) | omega) _) | (refine Up.step (by assumption) ?_)))⟩
  · have HR := Lib.hid (linesB_long h200)
    go_enter Tryd.func16, Tryd.ntmps16
    go_wp2
    go_ret
    exact ⟨retb HR.out.symm, by (repeat (first | exact Up.rfl' _ | (refine Up.al _ ?_) | (refine Up.dr _ ?_) | (refine Up.dr1 ?_) | (refine Up.sc ?_ (by first | exact Nat.le_refl _ | (simp; done) | omega) _) | (refine Up.step (by assumption) ?_)))⟩
end Go.Proofs.YtapllnlclgbbkaaDoor

/- append onto a slice of the call's own, the source any slice that reads as_ a list. No program in sight. -/
namespace Go.Proofs.YtapllnlclgbbkaaDoor
set_option maxRecDepth 10000
open Go.RowKit

/-- The facts on a slice type and its element type that append asks. -/
structure ElT (P : Program) (t e : TypeId) (k bytes : Nat) : Prop where
  ht : P.underlying t = some (.slice e)
  info : ∃ i z, P.info? e = some i ∧ i.zero = some z ∧ i.size = k ∧ i.bytes = bytes ∧ z.cells.size = k
theorem ElT.mk' {P : Program} {t e : TypeId} {k bytes : Nat} {z : Value} (ht : P.underlying t = some (.slice e)) (h : (P.info? e).map (fun i => (i.zero, i.size, i.bytes)) = some (some z, k, bytes)) (hz : z.cells.size = k) : ElT P t e k bytes := by
  obtain ⟨i, h1, h2, h3, h4⟩ := info_parts h
  exact ⟨ht, i, z, h1, h2, h3, h4, hz⟩

theorem Own.form {α : Type} [Enc α] {w : World} {B E : Nat} {v : Value} {xs : List α} (h : Own w B E v xs) : ∃ A c, v = .slice A xs.length c ∧ xs.length ≤ c ∧ c ≤ maxLen := by
  rcases h.2 with ⟨hv, h0⟩ | ⟨g, cap, cur, hv, _, _, hnc, hcm, _⟩
  · exact ⟨none, 0, by rw [hv, h0], by omega, by unfold maxLen; omega⟩
  · exact ⟨_, cap, hv, hnc, hcm⟩
theorem Own.nil_ {α : Type} [Enc α] (w : World) (B E : Nat) : Own w B E (.slice none 0 0) ([] : List α) := World.ownsRow_nil _ _ _ _
theorem Own.empty {α : Type} [Enc α] (w : World) (B E c : Nat) (cur : Array Value) (hB : B ≤ w.heap.size) (hm : c ≤ maxLen) (hs : cur.size = c * Enc.k α) :
    Own (w.alloc (.cells cur E)) B E (.slice (some ⟨w.heap.size, 0, none⟩) 0 c) ([] : List α) := World.ownsRow_made w cur c hB hm hs
theorem Own.more {α : Type} [Enc α] {w : World} {B B' E : Nat} {v : Value} {xs : List α} (h : Own w B E v xs) (hB : B' ≤ B) : Own w B' E v xs := by
  refine ⟨h.1, ?_⟩
  rcases h.2 with h2 | ⟨g, cap, cur, hv, hb, r⟩
  · exact .inl h2
  · exact .inr ⟨g, cap, cur, hv, by omega, r⟩
theorem Own.down {α : Type} [Enc α] {w0 W w : World} {E : Nat} {v : Value} {xs : List α} (h : Own w W.heap.size E v xs) (hu : Up w0 W) : Own w w0.heap.size E v xs := h.more hu.size
theorem Up.le {w0 w : World} (h : Up w0 w) : w0.heap.size ≤ w.heap.size := h.size
theorem Own.grown {α : Type} [Enc α] {w w' : World} {B E : Nat} {v : Value} {xs : List α} {row : Option Nat} (h : Own w B E v xs) (hg : w.grownBy w' row) (hne : v.ownBlock = none ∨ v.ownBlock ≠ row) : Own w' B E v xs :=
  World.ownsRow.kept h hg hne
/-- A fresh slice of one element, as_ append's last argument is laid. -/
theorem Rd.one {α : Type} [Enc α] (w : World) (T : TypeId) (x : α) (B : Nat) (hB : w.heap.size < B) : Rd (w.alloc (.cells (Enc.cells x).toArray T)) B (some ⟨w.heap.size, 0, none⟩) [x] := by
  intro _
  refine ⟨w.heap.size, 0, rfl, hB, fun j u hu => ?_⟩
  rw [flat_one] at hu
  rw [Nat.zero_add, cell_of_row _ _ j _ T (0, 0) (heap_alloc_new w _)]
  simpa using hu

/-- The row at a block, as_ a loop that writes into it sees it: its first m cells are ys's. -/
def Marking (w0 w : World) (B E k : Nat) (g n cap m : Nat) (ys : List Value) : Prop :=
  ∃ cs : List Value, w.ownsRow B E k (.slice (some ⟨g, 0, none⟩) n cap) n cs ∧ cs.take m = ys.take m ∧ w0.grownBy w (some g)
theorem Marking.start {w : World} {B E k g n cap : Nat} {cs ys : List Value} (h : w.ownsRow B E k (.slice (some ⟨g, 0, none⟩) n cap) n cs) : Marking w w B E k g n cap 0 ys :=
  ⟨cs, h, by simp, ⟨rfl, rfl, rfl, Nat.le_refl _, fun _ _ _ => rfl⟩⟩
theorem Marking.cell {w0 w : World} {B E k g n cap m : Nat} {ys : List Value} (h : Marking w0 w B E k g n cap m ys) {j : Nat} (hj : j < n * k) : ∃ u, w.cell? ⟨g, j, none⟩ = some u := by
  obtain ⟨cs, ho, _⟩ := h
  have hl : cs.length = n * k := ho.1
  exact ⟨cs[j]'(by omega), by rw [ho.cellAt j hj]; exact List.getElem?_eq_getElem _⟩
theorem Marking.frozen {w0 w : World} {B E k g n cap m : Nat} {ys : List Value} (h : Marking w0 w B E k g n cap m ys) (j : Nat) : w.frozen? ⟨g, j, none⟩ = false := by
  obtain ⟨cs, ho, _⟩ := h
  exact ho.frozenAt j
theorem grownBy_trans {a b c : World} {row : Option Nat} (h : a.grownBy b row) (k : b.grownBy c row) : a.grownBy c row :=
  ⟨k.os.trans h.os, k.tape.trans h.tape, k.output.trans h.output, Nat.le_trans h.size k.size, fun i hi hne => (k.block i (Nat.lt_of_lt_of_le hi h.size) hne).trans (h.block i hi hne)⟩
theorem Marking.set1 {w0 w : World} {B E k g n cap m : Nat} {ys : List Value} {v : Value} (h : Marking w0 w B E k g n cap m ys) (hm : m < n * k) (hy : ys[m]? = some v) :
    Marking w0 (w.setCell ⟨g, m, none⟩ v) B E k g n cap (m + 1) ys := by
  obtain ⟨cs, ho, ht, hg⟩ := h
  have hl : cs.length = n * k := ho.1
  obtain ⟨h1, h2⟩ := ho.stored m v
  exact ⟨cs.set m v, h1, take_set_succ (by omega) hy ht, grownBy_trans hg h2⟩
theorem Marking.drewN {w0 w : World} {B E k g n cap m : Nat} {ys : List Value} (h : Marking w0 w B E k g n cap m ys) (q : Nat) : Marking w0 (w.drewN q) B E k g n cap m ys := by
  obtain ⟨cs, ho, ht, hg⟩ := h
  exact ⟨cs, ho, ht, ⟨hg.os, hg.tape, hg.output, hg.size, hg.block⟩⟩
theorem Marking.own {α : Type} [Enc α] {w0 w : World} {B E g n cap : Nat} {ys : List α} (h : Marking w0 w B E (Enc.k α) g n cap (n * Enc.k α) (flat ys)) (hn : ys.length = n) : Own w B E (.slice (some ⟨g, 0, none⟩) n cap) ys ∧ w0.grownBy w (some g) := by
  obtain ⟨cs, ho, ht, hg⟩ := h
  have hl : cs.length = n * Enc.k α := ho.1
  have e1 : (flat ys).take (n * Enc.k α) = flat ys := List.take_of_length_le (by rw [flat_len, hn]; exact Nat.le_refl _)
  rw [e1, List.take_of_length_le (by omega)] at ht
  subst ht
  refine ⟨?_, hg⟩
  unfold Own
  rw [hn]
  exact ho
theorem Own.sep1 {α β : Type} [Enc α] [Enc β] {w w' we : World} {B E Bx Ex : Nat} {v vx : Value} {xs : List α} {ys : List β} (hv : Own w B E v xs) (hx : Own we Bx Ex vx ys) (hle : we.heap.size ≤ B) (hg : w.grownBy w' vx.ownBlock) : Own w' B E v xs := by
  refine hv.grown hg ?_
  cases hb : v.ownBlock with
  | none => exact .inl rfl
  | some k =>
    refine .inr fun e => ?_
    have h1 := (World.ownsRow.lt hv k hb).1
    have h2 := (World.ownsRow.lt hx k e.symm).2
    omega
theorem Own.sep2 {α β : Type} [Enc α] [Enc β] {w w' we : World} {B B' E Bx Ex : Nat} {v vx : Value} {xs xs' : List α} {ys : List β} (hv : Own w B E v xs) (hv0 : Own we B' E v xs') (hx : Own w Bx Ex vx ys) (hle : we.heap.size ≤ Bx) (hg : w.grownBy w' vx.ownBlock) : Own w' B E v xs := by
  refine hv.grown hg ?_
  cases hb : v.ownBlock with
  | none => exact .inl rfl
  | some k =>
    refine .inr fun e => ?_
    have h1 := (World.ownsRow.lt hv0 k hb).2
    have h2 := (World.ownsRow.lt hx k e.symm).1
    omega
theorem addr_add (b o j : Nat) : (⟨b, o, none⟩ : Addr).add j = ⟨b, o + j, none⟩ := by unfold Addr.add; split <;> simp_all

theorem run_append_nil_src {α : Type} [Enc α] {P : Program} (w : World) {t ty e : Nat} {i : TypeInfo} (ht : P.underlying t = some (.slice e)) (hi : P.info? e = some i) {base : Nat} {v : Value} {ys : List α} (hown : Own w base e v ys) (c : Nat) :
    (Builtin.append_ #[t, t] ty #[v, .slice none 0 c]).run P w = .ok v w := by
  rcases hown.2 with ⟨rfl, h0⟩ | ⟨g, cap, cur, rfl, _, _, hnc, _⟩
  · simp [Builtin.append_, run_underlying ht, sizeOf, typeInfo, hi, Builtin.lenOf, Builtin.firstCells]
  · simp [Builtin.append_, run_underlying ht, sizeOf, typeInfo, hi, Builtin.lenOf, Builtin.firstCells, hnc, storeCells]
theorem run_append_rd {α : Type} [Enc α] {P : Program} (w : World) {t ty e bytes : Nat} (T : ElT P t e (Enc.k α) bytes) {base : Nat} {v : Value} {ys : List α} (hown : Own w base e v ys)
    {B : Nat} {A : Option Addr} {c : Nat} {xs : List α} (hr : Rd w B A xs) (hbytes : (ys.length + xs.length) * bytes ≤ 140737488355328) (h63 : ys.length + xs.length ≤ maxLen) (hbase : base ≤ w.heap.size) :
    ∃ v' w', (Builtin.append_ #[t, t] ty #[v, .slice A xs.length c]).run P w = .ok v' w' ∧ Own w' base e v' (ys ++ xs) ∧ w.grownBy w' v.ownBlock ∧ (v'.ownBlock = v.ownBlock ∨ v'.ownBlock = some w.heap.size) := by
  obtain ⟨i, z, hi, hz, hs, hb, hzs⟩ := T.info
  cases A with
  | none =>
    have hx : xs = [] := by
      rcases Classical.em (xs = []) with h | h
      · exact h
      · obtain ⟨_, _, h', _⟩ := hr h
        cases h'
    subst hx
    have hrun := run_append_nil_src (P := P) w (ty := ty) T.ht hi hown c
    exact ⟨v, w, by simpa using hrun, by simpa using hown, ⟨rfl, rfl, rfl, Nat.le_refl _, fun _ _ _ => rfl⟩, .inl rfl⟩
  | some ad =>
    have hnews : ∀ j u, (flat xs)[j]? = some u → w.cell? (ad.add j) = some u := by
      intro j u hu
      have hne : xs ≠ [] := by rintro rfl; simp [flat] at hu
      obtain ⟨b, off, hA', _, hc⟩ := hr hne
      injection hA' with hA'
      subst hA'
      rw [addr_add]
      exact hc j u hu
    obtain ⟨v', w', hrun, h2, h3, _, h5⟩ := run_append_own_at (P := P) w base t ty e i z (Enc.k α) bytes T.ht hi hz hs hb hzs Enc.pos v ys.length (flat ys) hown ad xs.length c (flat xs) (flat_len xs) hnews (flat_oneCell xs) h63 hbytes hbase
    refine ⟨v', w', hrun, ?_, h3, h5⟩
    have e1 : (ys ++ xs).length = ys.length + xs.length := List.length_append
    unfold Own
    rw [e1, flat_append]
    exact h2

theorem Up.grown' {α : Type} [Enc α] {w0 w w' : World} {base e : Nat} {v : Value} {ys : List α} (h : Up w0 w) (hg : w.grownBy w' v.ownBlock) (hown : Own w base e v ys) (hb : w0.heap.size ≤ base) : Up w0 w' :=
  Below.grown h hg h.size (fun k hk => Nat.le_trans hb (World.ownsRow.lt hown k hk).1)

theorem wp_append_rd {α : Type} [Enc α] {P : Program} {w : World} {o : Oper} {a : Act} {K : Act → World → Prop} {Q : Exit → Act → World → Prop} {t e bytes : Nat} (T : ElT P t e (Enc.k α) bytes)
    (s x : Operand) (ho : o.op = .call { callee := .builtin .append, args := #[s, x], argTypes := #[t, t] })
    {base : Nat} {v : Value} {ys : List α} (hs : a.eval s = v) (hown : Own w base e v ys)
    {B : Nat} {A : Option Addr} {c : Nat} {xs : List α} (n : Nat) (hx : a.eval x = .slice A n c) (hn : n = xs.length) (hr : Rd w B A xs)
    (hbytes : (ys.length + xs.length) * bytes ≤ 140737488355328) (h63 : ys.length + xs.length ≤ maxLen) (hbase : base ≤ w.heap.size)
    (h : ∀ v' w', Own w' base e v' (ys ++ xs) → w.grownBy w' v.ownBlock → (v'.ownBlock = v.ownBlock ∨ v'.ownBlock = some w.heap.size) → (∀ w0, w0.heap.size ≤ base → Up w0 w → Up w0 w') → K (a.put o.dst v') w') :
    o.wp P a w K Q := by
  subst hn
  obtain ⟨v', w', hrun, h2, h3, h4⟩ := run_append_rd (P := P) w (ty := o.type) (c := c) T hown hr hbytes h63 hbase
  unfold Oper.wp execOp
  simp only [ho, resolve, invoke, builtin, Sem.run_bind, Sem.run_pure, Result.andThen_ok, List.map_toArray, List.map_cons, List.map_nil, hs, hx, hrun]
  exact h v' w' h2 h3 h4 fun w0 hb hu => Up.grown' hu h3 hown hb
theorem wpList_append_rd {α : Type} [Enc α] {P : Program} {w : World} {ops : Array Oper} {rest : List Oper} {o : Oper} {a : Act} {Q : Exit → Act → World → Prop} {t e bytes : Nat} (T : ElT P t e (Enc.k α) bytes)
    (hgd : o.guard = none) (s x : Operand) (ho : o.op = .call { callee := .builtin .append, args := #[s, x], argTypes := #[t, t] })
    {base : Nat} {v : Value} {ys : List α} (hs : a.eval s = v) (hown : Own w base e v ys)
    {B : Nat} {A : Option Addr} {c : Nat} {xs : List α} (n : Nat) (hx : a.eval x = .slice A n c) (hn : n = xs.length) (hr : Rd w B A xs)
    (hbytes : (ys.length + xs.length) * bytes ≤ 140737488355328) (h63 : ys.length + xs.length ≤ maxLen) (hbase : base ≤ w.heap.size)
    (h : ∀ v' w', Own w' base e v' (ys ++ xs) → w.grownBy w' v.ownBlock → (v'.ownBlock = v.ownBlock ∨ v'.ownBlock = some w.heap.size) → (∀ w0, w0.heap.size ≤ base → Up w0 w → Up w0 w') → wpList P ops Q rest (a.put o.dst v') w') :
    wpList P ops Q (o :: rest) a w :=
  wpList_plain hgd fun _ hK => wp_append_rd T s x ho hs hown n hx hn hr hbytes h63 hbase fun v' w' h2 h3 h4 h5 => hK _ _ (h v' w' h2 h3 h4 h5)
theorem step_append_rd {α : Type} [Enc α] {P : Program} {w : World} {ops : Array Oper} {o : Oper} {a : Act} {K : Act → World → Prop} {Q : Exit → Act → World → Prop} {E : Prop} {t e bytes : Nat} (T : ElT P t e (Enc.k α) bytes)
    (hgd : o.guard = none) (s x : Operand) (ho : o.op = .call { callee := .builtin .append, args := #[s, x], argTypes := #[t, t] })
    {base : Nat} {v : Value} {ys : List α} (hs : a.eval s = v) (hown : Own w base e v ys)
    {B : Nat} {A : Option Addr} {c : Nat} {xs : List α} (n : Nat) (hx : a.eval x = .slice A n c) (hn : n = xs.length) (hr : Rd w B A xs)
    (hbytes : (ys.length + xs.length) * bytes ≤ 140737488355328) (h63 : ys.length + xs.length ≤ maxLen) (hbase : base ≤ w.heap.size)
    (h : ∀ v' w', Own w' base e v' (ys ++ xs) → w.grownBy w' v.ownBlock → (v'.ownBlock = v.ownBlock ∨ v'.ownBlock = some w.heap.size) → (∀ w0, w0.heap.size ≤ base → Up w0 w → Up w0 w') → K (a.put o.dst v') w') :
    if Region.wanted o (yielded ops a.tmps) = true then Oper.wp P o a w K Q else E := by
  rw [if_pos (by simp [Region.wanted, hgd])]
  exact wp_append_rd T s x ho hs hown n hx hn hr hbytes h63 hbase h
end Go.Proofs.YtapllnlclgbbkaaDoor

namespace Go.Proofs.YtapllnlclgbbkaaDoor
set_option maxRecDepth 10000
open Go.RowKit
theorem szLineS_any (A : Option Addr) (n c : Nat) (l : Int) (w : World) (hn : n ≤ 9223372036854775807) (h0 : 0 ≤ l) (h1 : l ≤ 1048576) :
    Calls Tryd.prog 5 #[.slice A n c, .int .i64 l] w fun e w' => e = .returned (.int .i64 (szTo l n)) ∧ Up w w' := by
  by_cases h : l < n
  · have HR := Lib.hid (szTo_neg h)
    go_enter Tryd.func5, Tryd.ntmps5
    go_wp2
    go_ret
    exact ⟨reti HR.out.symm, by (repeat (first | exact Up.rfl' _ | (refine Up.al _ ?_) | (refine Up.dr _ ?_) | (refine Up.dr1 ?_) | (refine Up.sc ?_ (by first | exact Nat.le_refl _ | (simp; done) | omega) _) | (refine Up.step (by assumption) ?_)))⟩
  · have HR := Lib.hid (szTo_pos h)
    go_enter Tryd.func5, Tryd.ntmps5
    go_wp2
    go_ret
    exact ⟨reti HR.out.symm, by (repeat (first | exact Up.rfl' _ | (refine Up.al _ ?_) | (refine Up.dr _ ?_) | (refine Up.dr1 ?_) | (refine Up.sc ?_ (by first | exact Nat.le_refl _ | (simp; done) | omega) _) | (refine Up.step (by assumption) ?_)))⟩
theorem eqLine_any (x y : Ln) (w : World) : Calls Tryd.prog 27 #[.agg #[I x.o, I x.k, I x.a, I x.t], .agg #[I y.o, I y.k, I y.a, I y.t]] w fun e w' => e = .returned (.bool (eqLn x y)) ∧ Up w w' := by
  go_enter Tryd.func27, Tryd.ntmps27
  go_wp2
  all_goals go_ret
  all_goals exact ⟨retb (by simp_all [eqLn]), by (repeat (first | exact Up.rfl' _ | (refine Up.al _ ?_) | (refine Up.dr _ ?_) | (refine Up.dr1 ?_) | (refine Up.sc ?_ (by first | exact Nat.le_refl _ | (simp; done) | omega) _) | (refine Up.step (by assumption) ?_)))⟩
theorem eqLineS_any (A A' : Option Addr) (c c' : Nat) (xs ys : List Ln) (w : World) (hx : Rd w w.heap.size A xs) (hy : Rd w w.heap.size A' ys) (hn : xs.length ≤ 2000000) (_hn : ys.length ≤ 2000000) :
    Calls Tryd.prog 9 #[.slice A xs.length c, .slice A' ys.length c'] w fun e w' => e = .returned (.bool (decide (xs = ys))) ∧ Up w w' := by
  by_cases hl : xs.length = ys.length
  · have hL : ((xs.length : Int) != (ys.length : Int)) = false := by simp [hl]
    have HL := Lib.hid hl
    clear hl
    go_enter Tryd.func9, Tryd.ntmps9
    go_wp2
    clear hL
    go_loopw [5] (fun i wr => ∃ j : Nat, j ≤ xs.length ∧ i = .int .i64 j ∧ Hid (xs.take j = ys.take j) ∧ Up w wr) (fun i _ => xs.length - (intOf i).toNat)
    case atStart => exact ⟨0, by omega, rfl, rfl, Below.refl _ _⟩
    case round =>
      obtain ⟨i, hi, rfl, he, hb⟩ := hrel
      by_cases hlt : i < xs.length
      · obtain ⟨x, gx⟩ := get_of_lt hlt
        obtain ⟨y, gy⟩ := get_of_lt (xs := ys) (i := i) (by rw [← HL.out]; exact hlt)
        obtain ⟨b, off, rfl, hbb, c0, c1, c2, c3⟩ := (hx.below hb).ln gx
        obtain ⟨b', off', rfl, hbb', c0', c1', c2', c3'⟩ := (hy.below hb).ln gy
        have hlt' : i < ys.length := lt_of_get gy
        have Gx := Lib.hid gx
        have Gy := Lib.hid gy
        clear gx gy hx hy
        cases hE : eqLn x y with
        | false =>
          have HE := Lib.hid (eqLn_not hE)
          go_wp2
          go_still_tail 8, (by kernel_rfl)
          change wpList _ _ _ _ _ wr.drew
          go_wp2_with (go_at_call 27; refine (eqLine_any x y _).mono ?_; rintro e w1 ⟨rfl, hb1⟩)
          go_ret
          exact ⟨retF (ne_of_get Gx.out Gy.out HE.out), by (repeat (first | exact Up.rfl' _ | (refine Up.al _ ?_) | (refine Up.dr _ ?_) | (refine Up.dr1 ?_) | (refine Up.sc ?_ (by first | exact Nat.le_refl _ | (simp; done) | omega) _) | (refine Up.step (by assumption) ?_)))⟩
        | true =>
          have HE := Lib.hid (eqLn_iff.1 hE)
          go_wp2
          go_still_tail 8, (by kernel_rfl)
          change wpList _ _ _ _ _ wr.drew
          go_wp2_with (go_at_call 27; refine (eqLine_any x y _).mono ?_; rintro e w1 ⟨rfl, hb1⟩)
          exact ⟨⟨i + 1, by omega, by go_num, take_snoc_eq he.out Gx.out Gy.out HE.out, by (repeat (first | exact Up.rfl' _ | (refine Up.al _ ?_) | (refine Up.dr _ ?_) | (refine Up.dr1 ?_) | (refine Up.sc ?_ (by first | exact Nat.le_refl _ | (simp; done) | omega) _) | (refine Up.step (by assumption) ?_)))⟩, by simp [intOf]; omega⟩
      · go_wp2
        go_ret
        exact ⟨retT (eq_of_take he.out (by omega) (by have := HL.out; omega)), hb⟩
  · have hL : ((xs.length : Int) != (ys.length : Int)) = true := by simp; omega
    have hE := Lib.hid (ne_of_len hl)
    clear hl
    go_enter Tryd.func9, Tryd.ntmps9
    go_wp2
    go_ret
    exact ⟨retF hE.out, Below.refl _ _⟩
end Go.Proofs.YtapllnlclgbbkaaDoor

namespace Go.Proofs.YtapllnlclgbbkaaDoor
set_option maxRecDepth 10000
open Go.RowKit
theorem info_implLine : (Tryd.prog.info? 34).map (fun i => (i.zero, i.size, i.bytes)) = some (some (.agg #[.int .i64 0, .int .i64 0, .int .i64 0, .int .i64 0]), 4, 32) := by kernel_rfl
theorem toLineS_any (A : Option Addr) (c : Nat) (xs : List Ln) (w : World) (hx : Rd w w.heap.size A xs) (hn : xs.length ≤ 2000000) :
    Calls Tryd.prog 7 #[.slice A xs.length c] w fun e w' => ∃ g, e = .returned (.slice (some ⟨g, 0, none⟩) xs.length xs.length) ∧ Own w' w.heap.size 34 (.slice (some ⟨g, 0, none⟩) xs.length xs.length) xs ∧ Up w w' := by
  obtain ⟨i0, hi0, hz0, hz1, hz2⟩ := info_parts info_implLine
  have hmk := run_mk (P := Tryd.prog) 25 34 i0 _ Tryd.underlying25 hi0 hz0 xs.length (by rw [hz2]; omega) (by omega)
  rw [hz1] at hmk
  have HX := Lib.hid hx
  clear hi0 hz0 hz1 hz2 hx
  go_enter Tryd.func7, Tryd.ntmps7
  go_wp2
  go_loopw [4] (fun i wr => ∃ j : Nat, j ≤ xs.length ∧ i = .int .i64 j ∧ Filling wr w.heap.size 34 1 w.heap.size (xs.length * 4) (j * 4) (flat xs) ∧ Up w wr) (fun i _ => xs.length - (intOf i).toNat)
  case atStart => exact ⟨0, by omega, rfl, Filling.start1 w _ _ _ _ _ (Nat.le_refl _) (by unfold maxLen; omega), by (repeat (first | exact Up.rfl' _ | (refine Up.al _ ?_) | (refine Up.dr _ ?_) | (refine Up.dr1 ?_) | (refine Up.sc ?_ (by first | exact Nat.le_refl _ | (simp; done) | omega) _) | (refine Up.step (by assumption) ?_)))⟩
  case round =>
    obtain ⟨i, hi, rfl, hF, hb⟩ := hrel
    clear hmk
    by_cases hlt : i < xs.length
    · obtain ⟨x, gx⟩ := get_of_lt hlt
      obtain ⟨b, off, rfl, hbb, c0, c1, c2, c3⟩ := (HX.out.below hb).ln gx
      obtain ⟨y0, y1, y2, y3⟩ := flat_ln gx
      have H0 := Lib.hid y0
      have H1 := Lib.hid y1
      have H2 := Lib.hid y2
      have H3 := Lib.hid y3
      have HF := Lib.hid hF
      clear y0 y1 y2 y3 gx hF
      go_wp2_with (go_at_call 23; refine (toLine_any _ _ _ _ _).mono ?_; rintro e w1 ⟨rfl, hb1⟩; have hF1 := HF.out.kept hb1; obtain ⟨u0, d0⟩ := hF1.cell (j := i * 4) (by omega); obtain ⟨u1, d1⟩ := hF1.cell (j := i * 4 + 1) (by omega); obtain ⟨u2, d2⟩ := hF1.cell (j := i * 4 + 2) (by omega); obtain ⟨u3, d3⟩ := hF1.cell (j := i * 4 + 3) (by omega); have f0 := hF1.frozen (i * 4); have f1 := hF1.frozen (i * 4 + 1); have f2 := hF1.frozen (i * 4 + 2); have f3 := hF1.frozen (i * 4 + 3); have HF1 := Lib.hid hF1; clear hF1)
      have hF4 := (((HF1.out.set1 (by omega) H0.out).set1 (by omega) H1.out).set1 (by omega) H2.out).set1 (by omega) H3.out
      exact ⟨⟨i + 1, by omega, by go_num, (by have e : (i + 1) * 4 = i * 4 + 1 + 1 + 1 + 1 := by omega
                                              rw [e]; exact hF4), by (repeat (first | exact Up.rfl' _ | (refine Up.al _ ?_) | (refine Up.dr _ ?_) | (refine Up.dr1 ?_) | (refine Up.sc ?_ (by first | exact Nat.le_refl _ | (simp; done) | omega) _) | (refine Up.step (by assumption) ?_)))⟩, by simp [intOf]; omega⟩
    · go_wp2
      go_ret
      obtain rfl : i = xs.length := by omega
      exact ⟨_, rfl, hF.ownk rfl rfl (by unfold maxLen; omega), hb⟩
end Go.Proofs.YtapllnlclgbbkaaDoor

namespace Go.Proofs.YtapllnlclgbbkaaDoor
set_option maxRecDepth 10000
open Go.RowKit
end Go.Proofs.YtapllnlclgbbkaaDoor

namespace Go.Proofs.YtapllnlclgbbkaaDoor
set_option maxRecDepth 10000
open Go.RowKit
theorem el_line : ElT Tryd.prog 25 34 (Enc.k Ln) 32 := ElT.mk' Tryd.underlying25 info_implLine rfl
theorem areLines_impl_n (A : Option Addr) (xs : List Ln) (n c : Nat) (w : World) (hr : Rd w w.heap.size A xs) (hl : n = xs.length) (hc : xs.length ≤ c) (hn : n ≤ 2000000)
  : Calls Tryd.prog 24 #[.slice A n c] w fun e w' => e = .returned (.bool (linesB xs)) ∧ Up w w' := by
  subst hl; exact areLines_impl A xs c w hr hc hn
theorem areLines_spec_n (A : Option Addr) (xs : List Ln) (n c : Nat) (w : World) (hr : Rd w w.heap.size A xs) (hl : n = xs.length) (hc : xs.length ≤ c) (hn : n ≤ 2000000)
  : Calls Tryd.prog 16 #[.slice A n c] w fun e w' => e = .returned (.bool (linesB xs)) ∧ Up w w' := by
  subst hl; exact areLines_spec A xs c w hr hc hn
theorem l11Copy_any (A : Option Addr) (xs : List Ln) (n c : Nat) (w : World) (hr : Rd w w.heap.size A xs) (hl : n = xs.length) (hn : n ≤ 2000000) :
    Calls Tryd.prog 59 #[.slice A n c] w fun e w' => ∃ v, e = .returned v ∧ Own w' w.heap.size 34 v xs ∧ Up w w' := by
  go_enter Tryd.func59, Tryd.ntmps59
  go_wp2_with (at_builtin; refine wpList_append_rd el_line rfl (.tmp 3) (.tmp 4) rfl (base := w.heap.size) (ys := []) (by rfl) (Own.empty w _ _ 0 _ (Nat.le_refl _) (by unfold maxLen; omega) rfl) n (by rfl) hl (hr.up (by (repeat (first | exact Up.rfl' _ | (refine Up.al _ ?_) | (refine Up.dr _ ?_) | (refine Up.dr1 ?_) | (refine Up.sc ?_ (by first | exact Nat.le_refl _ | (simp; done) | omega) _) | (refine Up.step (by assumption) ?_))))) (by simp; omega) (by unfold maxLen; simp; omega) (by first | (simp; done) | (simp; omega) | (have h_ := hB.size; omega) | (have h_ := hB.size; simp; omega)) ?_; intro v' w1 ho1 hg1 _ hu1)
  go_ret
  exact ⟨v', rfl, by simpa using ho1, hu1 _ (Nat.le_refl _) (by (repeat (first | exact Up.rfl' _ | (refine Up.al _ ?_) | (refine Up.dr _ ?_) | (refine Up.dr1 ?_) | (refine Up.sc ?_ (by first | exact Nat.le_refl _ | (simp; done) | omega) _) | (refine Up.step (by assumption) ?_))))⟩
theorem owedFor_impl (A : Option Addr) (xs : List Ln) (n c : Nat) (o : Int) (w : World) (hr : Rd w w.heap.size A xs) (hl : n = xs.length) (hc : xs.length ≤ c) (hn : n ≤ 2000000) :
    Calls Tryd.prog 15 #[.slice A n c, .int .i64 o] w fun e w' => e = .returned (.int .i64 (owedV xs o)) ∧ Up w w' := by
  subst hl
  cases hL : linesB xs with
  | false =>
    have HR := Lib.hid (owedV_no (o := o) hL)
    go_enter Tryd.func15, Tryd.ntmps15
    go_wp2_with (go_at_call 24; refine (areLines_impl _ xs _ _ hr hc hn).mono ?_; rintro e w1 ⟨rfl, hb1⟩)
    go_ret
    exact ⟨reti HR.out.symm, by (repeat (first | exact Up.rfl' _ | (refine Up.al _ ?_) | (refine Up.dr _ ?_) | (refine Up.dr1 ?_) | (refine Up.sc ?_ (by first | exact Nat.le_refl _ | (simp; done) | omega) _) | (refine Up.step (by assumption) ?_)))⟩
  | true =>
    have HR := Lib.hid (owedV_ok (o := o) hL)
    go_enter Tryd.func15, Tryd.ntmps15
    go_wp2_with (first
      | (go_at_call 24; refine (areLines_impl _ xs _ _ hr hc hn).mono ?_; rintro e w1 ⟨rfl, hb1⟩)
      | (go_at_call 14; refine (sumOf_impl _ xs _ _ _ _ (hr.up (by (repeat (first | exact Up.rfl' _ | (refine Up.al _ ?_) | (refine Up.dr _ ?_) | (refine Up.dr1 ?_) | (refine Up.sc ?_ (by first | exact Nat.le_refl _ | (simp; done) | omega) _) | (refine Up.step (by assumption) ?_))))) hn).mono ?_; rintro e w1 ⟨rfl, hb1⟩))
    go_ret
    exact ⟨reti HR.out.symm, by (repeat (first | exact Up.rfl' _ | (refine Up.al _ ?_) | (refine Up.dr _ ?_) | (refine Up.dr1 ?_) | (refine Up.sc ?_ (by first | exact Nat.le_refl _ | (simp; done) | omega) _) | (refine Up.step (by assumption) ?_)))⟩
theorem owedFor_spec (A : Option Addr) (xs : List Ln) (n c : Nat) (o : Int) (w : World) (hr : Rd w w.heap.size A xs) (hl : n = xs.length) (hc : xs.length ≤ c) (hn : n ≤ 2000000) :
    Calls Tryd.prog 22 #[.slice A n c, .int .i64 o] w fun e w' => e = .returned (.int .i64 (owedV xs o)) ∧ Up w w' := by
  subst hl
  cases hL : linesB xs with
  | false =>
    have HR := Lib.hid (owedV_no (o := o) hL)
    go_enter Tryd.func22, Tryd.ntmps22
    go_wp2_with (go_at_call 16; refine (areLines_spec _ xs _ _ hr hc hn).mono ?_; rintro e w1 ⟨rfl, hb1⟩)
    go_ret
    exact ⟨reti HR.out.symm, by (repeat (first | exact Up.rfl' _ | (refine Up.al _ ?_) | (refine Up.dr _ ?_) | (refine Up.dr1 ?_) | (refine Up.sc ?_ (by first | exact Nat.le_refl _ | (simp; done) | omega) _) | (refine Up.step (by assumption) ?_)))⟩
  | true =>
    have HR := Lib.hid (owedV_ok (o := o) hL)
    go_enter Tryd.func22, Tryd.ntmps22
    go_wp2_with (first
      | (go_at_call 16; refine (areLines_spec _ xs _ _ hr hc hn).mono ?_; rintro e w1 ⟨rfl, hb1⟩)
      | (go_at_call 31; refine (sumOf_spec _ xs _ _ _ _ (hr.up (by (repeat (first | exact Up.rfl' _ | (refine Up.al _ ?_) | (refine Up.dr _ ?_) | (refine Up.dr1 ?_) | (refine Up.sc ?_ (by first | exact Nat.le_refl _ | (simp; done) | omega) _) | (refine Up.step (by assumption) ?_))))) hn).mono ?_; rintro e w1 ⟨rfl, hb1⟩))
    go_ret
    exact ⟨reti HR.out.symm, by (repeat (first | exact Up.rfl' _ | (refine Up.al _ ?_) | (refine Up.dr _ ?_) | (refine Up.dr1 ?_) | (refine Up.sc ?_ (by first | exact Nat.le_refl _ | (simp; done) | omega) _) | (refine Up.step (by assumption) ?_)))⟩
theorem cashOf_impl (A : Option Addr) (xs : List Ln) (n c : Nat) (w : World) (hr : Rd w w.heap.size A xs) (hl : n = xs.length) (hc : xs.length ≤ c) (hn : n ≤ 2000000) :
    Calls Tryd.prog 17 #[.slice A n c] w fun e w' => e = .returned (.int .i64 (cashV xs)) ∧ Up w w' := by
  subst hl
  cases hL : linesB xs with
  | false =>
    have HR := Lib.hid (cashV_no hL)
    go_enter Tryd.func17, Tryd.ntmps17
    go_wp2_with (go_at_call 24; refine (areLines_impl _ xs _ _ hr hc hn).mono ?_; rintro e w1 ⟨rfl, hb1⟩)
    go_ret
    exact ⟨reti HR.out.symm, by (repeat (first | exact Up.rfl' _ | (refine Up.al _ ?_) | (refine Up.dr _ ?_) | (refine Up.dr1 ?_) | (refine Up.sc ?_ (by first | exact Nat.le_refl _ | (simp; done) | omega) _) | (refine Up.step (by assumption) ?_)))⟩
  | true =>
    have HR := Lib.hid (cashV_ok hL)
    go_enter Tryd.func17, Tryd.ntmps17
    go_wp2_with (go_at_call 24; refine (areLines_impl _ xs _ _ hr hc hn).mono ?_; rintro e w1 ⟨rfl, hb1⟩)
    clear hL
    go_loopw [3, 11] (fun n7 i wr => ∃ j : Nat, j ≤ xs.length ∧ i = .int .i64 j ∧ n7 = .int .i64 (cashLn (xs.take j)) ∧ Up w wr) (fun _ i _ => xs.length - (intOf i).toNat)
    case atStart => exact ⟨0, by omega, rfl, rfl, by (repeat (first | exact Up.rfl' _ | (refine Up.al _ ?_) | (refine Up.dr _ ?_) | (refine Up.dr1 ?_) | (refine Up.sc ?_ (by first | exact Nat.le_refl _ | (simp; done) | omega) _) | (refine Up.step (by assumption) ?_)))⟩
    case round =>
      obtain ⟨i, hi, rfl, rfl, hb⟩ := hrel
      by_cases hlt : i < xs.length
      · obtain ⟨x, hx⟩ := get_of_lt hlt
        obtain ⟨b, off, rfl, hbb, c0, c1, c2, c3⟩ := (hr.below hb).ln hx
        have S : Hid (cashLn (xs.take (i+1)) = cashStep (cashLn (xs.take i)) x) := foldl_snoc hx _ _
        clear hr hx
        cases k2 : (x.k == 2) with
        | true =>
          go_wp2
          exact ⟨⟨i + 1, by omega, by go_num, by rw [S.out]; simp [cashStep, k2], by (repeat (first | exact Up.rfl' _ | (refine Up.al _ ?_) | (refine Up.dr _ ?_) | (refine Up.dr1 ?_) | (refine Up.sc ?_ (by first | exact Nat.le_refl _ | (simp; done) | omega) _) | (refine Up.step (by assumption) ?_)))⟩, by simp [intOf]; omega⟩
        | false =>
          cases k3 : (x.k == 3) with
          | true =>
            go_wp2
            exact ⟨⟨i + 1, by omega, by go_num, by rw [S.out]; simp [cashStep, k2, k3], by (repeat (first | exact Up.rfl' _ | (refine Up.al _ ?_) | (refine Up.dr _ ?_) | (refine Up.dr1 ?_) | (refine Up.sc ?_ (by first | exact Nat.le_refl _ | (simp; done) | omega) _) | (refine Up.step (by assumption) ?_)))⟩, by simp [intOf]; omega⟩
          | false =>
            go_wp2
            exact ⟨⟨i + 1, by omega, by go_num, by rw [S.out]; simp [cashStep, k2, k3], by (repeat (first | exact Up.rfl' _ | (refine Up.al _ ?_) | (refine Up.dr _ ?_) | (refine Up.dr1 ?_) | (refine Up.sc ?_ (by first | exact Nat.le_refl _ | (simp; done) | omega) _) | (refine Up.step (by assumption) ?_)))⟩, by simp [intOf]; omega⟩
      · go_wp2
        go_ret
        obtain rfl : i = xs.length := by omega
        exact ⟨reti (by rw [HR.out]; simp), by (repeat (first | exact Up.rfl' _ | (refine Up.al _ ?_) | (refine Up.dr _ ?_) | (refine Up.dr1 ?_) | (refine Up.sc ?_ (by first | exact Nat.le_refl _ | (simp; done) | omega) _) | (refine Up.step (by assumption) ?_)))⟩
end Go.Proofs.YtapllnlclgbbkaaDoor

namespace Go.Proofs.YtapllnlclgbbkaaDoor
set_option maxRecDepth 10000
open Go.RowKit
set_option maxHeartbeats 1000000 in
theorem l11Post_any (A : Option Addr) (xs : List Ln) (n c : Nat) (x : Ln) (w : World) (hr : Rd w w.heap.size A xs) (hl : n = xs.length) (hn : n ≤ 2000000) :
    Calls Tryd.prog 60 #[.slice A n c, .agg #[I x.o, I x.k, I x.a, I x.t]] w fun e w' => ∃ v, e = .returned (.tuple #[v, .int .i64 (postV xs x).2]) ∧ Own w' w.heap.size 34 v (postV xs x).1 ∧ Up w w' := by
  subst hl
  · go_enter Tryd.func60, Tryd.ntmps60
    go_wp2
    generalize hwb : w.alloc (.cells #[I x.o, I x.k, I x.a, I x.t] 34) = wb
    have d0 : wb.cell? ⟨w.heap.size, 0, none⟩ = some (I x.o) := by rw [← hwb]; simp [go_sem]
    have d1 : wb.cell? ⟨w.heap.size, 1, none⟩ = some (I x.k) := by rw [← hwb]; simp [go_sem]
    have d2 : wb.cell? ⟨w.heap.size, 2, none⟩ = some (I x.a) := by rw [← hwb]; simp [go_sem]
    have d3 : wb.cell? ⟨w.heap.size, 3, none⟩ = some (I x.t) := by rw [← hwb]; simp [go_sem]
    have hub : Up w wb := by rw [← hwb]; (repeat (first | exact Up.rfl' _ | (refine Up.al _ ?_) | (refine Up.dr _ ?_) | (refine Up.dr1 ?_) | (refine Up.sc ?_ (by first | exact Nat.le_refl _ | (simp; done) | omega) _) | (refine Up.step (by assumption) ?_)))
    have hzb : w.heap.size < wb.heap.size := by rw [← hwb]; simp
    clear hwb
    have z0 : wb.heap.size ≠ w.heap.size := by omega
    go_cut [6] (fun s6 wx => Own wx wb.heap.size 34 s6 (xs ++ [x]) ∧ Up wb wx)
    case first =>
      go_region_held3 (fun w' => w'.cell? ⟨w.heap.size, 0, none⟩ = some (I x.o) ∧ w'.cell? ⟨w.heap.size, 1, none⟩ = some (I x.k) ∧ w'.cell? ⟨w.heap.size, 2, none⟩ = some (I x.a) ∧ w'.cell? ⟨w.heap.size, 3, none⟩ = some (I x.t))
        (first | go_keep | exact ⟨cellUp d0 (by (repeat (first | exact Up.rfl' _ | (refine Up.al _ ?_) | (refine Up.dr _ ?_) | (refine Up.dr1 ?_) | (refine Up.sc ?_ (by first | exact Nat.le_refl _ | (simp; done) | omega) _) | (refine Up.step (by assumption) ?_)))), cellUp d1 (by (repeat (first | exact Up.rfl' _ | (refine Up.al _ ?_) | (refine Up.dr _ ?_) | (refine Up.dr1 ?_) | (refine Up.sc ?_ (by first | exact Nat.le_refl _ | (simp; done) | omega) _) | (refine Up.step (by assumption) ?_)))), cellUp d2 (by (repeat (first | exact Up.rfl' _ | (refine Up.al _ ?_) | (refine Up.dr _ ?_) | (refine Up.dr1 ?_) | (refine Up.sc ?_ (by first | exact Nat.le_refl _ | (simp; done) | omega) _) | (refine Up.step (by assumption) ?_)))), cellUp d3 (by (repeat (first | exact Up.rfl' _ | (refine Up.al _ ?_) | (refine Up.dr _ ?_) | (refine Up.dr1 ?_) | (refine Up.sc ?_ (by first | exact Nat.le_refl _ | (simp; done) | omega) _) | (refine Up.step (by assumption) ?_))))⟩)
        (first
          | (go_at_call 59; refine (l11Copy_any _ xs _ _ _ (hr.up (by (repeat (first | exact Up.rfl' _ | (refine Up.al _ ?_) | (refine Up.dr _ ?_) | (refine Up.dr1 ?_) | (refine Up.sc ?_ (by first | exact Nat.le_refl _ | (simp; done) | omega) _) | (refine Up.step (by assumption) ?_))))) rfl hn).mono ?_; rintro e w1 ⟨v1, rfl, ho1, hb1⟩)
          | (have h_ := ho1; refine step_append_rd el_line (by rfl) (.tmp 8) (.tmp 10) (by rfl) (base := wb.heap.size) (ys := xs) (xs := [x]) (by rfl) ((ho1.down (by (repeat (first | exact Up.rfl' _ | (refine Up.al _ ?_) | (refine Up.dr _ ?_) | (refine Up.dr1 ?_) | (refine Up.sc ?_ (by first | exact Nat.le_refl _ | (simp; done) | omega) _) | (refine Up.step (by assumption) ?_))))).up (by (repeat (first | exact Up.rfl' _ | (refine Up.al _ ?_) | (refine Up.dr _ ?_) | (refine Up.dr1 ?_) | (refine Up.sc ?_ (by first | exact Nat.le_refl _ | (simp; done) | omega) _) | (refine Up.step (by assumption) ?_))))) 1 (by rfl) rfl (by first | exact Rd.one _ _ x _ (Nat.lt_succ_self _) | exact (Rd.one _ _ x _ (by simp)).up (by (repeat (first | exact Up.rfl' _ | (refine Up.al _ ?_) | (refine Up.dr _ ?_) | (refine Up.dr1 ?_) | (refine Up.sc ?_ (by first | exact Nat.le_refl _ | (simp; done) | omega) _) | (refine Up.step (by assumption) ?_))))) (by simp; omega) (by unfold maxLen; simp; omega) (Up.le (by (repeat (first | exact Up.rfl' _ | (refine Up.al _ ?_) | (refine Up.dr _ ?_) | (refine Up.dr1 ?_) | (refine Up.sc ?_ (by first | exact Nat.le_refl _ | (simp; done) | omega) _) | (refine Up.step (by assumption) ?_))))) ?_; intro v' w2 ho2 hg2 _ hu2; have hb2 : Up wb w2 := hu2 wb (Nat.le_refl _) (by (repeat (first | exact Up.rfl' _ | (refine Up.al _ ?_) | (refine Up.dr _ ?_) | (refine Up.dr1 ?_) | (refine Up.sc ?_ (by first | exact Nat.le_refl _ | (simp; done) | omega) _) | (refine Up.step (by assumption) ?_))))))
      all_goals go_wp2
      all_goals go_meet
      all_goals exact ⟨ho2, hb2⟩
    case rest =>
      obtain ⟨ho2, hb2⟩ := hcut
      obtain ⟨A2, c2, rfl, hc2, _⟩ := ho2.form
      have hlen : xs.length + 1 = (xs ++ [x]).length := by simp
      rw [← hlen] at ho2 hc2
      have HL := Lib.hid hlen
      have HC := Lib.hid hc2
      clear hlen hc2
      by_cases hf : 200 ≤ xs.length
      · have HR := Lib.hid (postV_full (x := x) hf)
        go_wp2_with (go_at_call 59; refine (l11Copy_any _ xs _ _ _ (hr.up (by (repeat (first | exact Up.rfl' _ | (refine Up.al _ ?_) | (refine Up.dr _ ?_) | (refine Up.dr1 ?_) | (refine Up.sc ?_ (by first | exact Nat.le_refl _ | (simp; done) | omega) _) | (refine Up.step (by assumption) ?_))))) rfl hn).mono ?_; rintro e w4 ⟨v4, rfl, ho4, hb4⟩)
        go_ret2
        rw [HR.out]
        exact ⟨v4, rfl, ho4.down (by (repeat (first | exact Up.rfl' _ | (refine Up.al _ ?_) | (refine Up.dr _ ?_) | (refine Up.dr1 ?_) | (refine Up.sc ?_ (by first | exact Nat.le_refl _ | (simp; done) | omega) _) | (refine Up.step (by assumption) ?_)))), by (repeat (first | exact Up.rfl' _ | (refine Up.al _ ?_) | (refine Up.dr _ ?_) | (refine Up.dr1 ?_) | (refine Up.sc ?_ (by first | exact Nat.le_refl _ | (simp; done) | omega) _) | (refine Up.step (by assumption) ?_)))⟩
      · skip
        cases hL : linesB (xs ++ [x]) with
        | false =>
          have HR := Lib.hid (postV_bad hf hL)
          go_wp2_with (first
            | (go_at_call 16; refine (areLines_spec_n _ (xs ++ [x]) _ _ _ ho2.rd HL.out (by have h_ := HL.out; have h1_ := HC.out; omega) (by omega)).mono ?_; rintro e w3 ⟨rfl, hb3⟩)
            | (go_at_call 59; refine (l11Copy_any _ xs _ _ _ (hr.up (by (repeat (first | exact Up.rfl' _ | (refine Up.al _ ?_) | (refine Up.dr _ ?_) | (refine Up.dr1 ?_) | (refine Up.sc ?_ (by first | exact Nat.le_refl _ | (simp; done) | omega) _) | (refine Up.step (by assumption) ?_))))) rfl hn).mono ?_; rintro e w4 ⟨v4, rfl, ho4, hb4⟩))
          go_ret2
          rw [HR.out]
          exact ⟨v4, rfl, ho4.down (by (repeat (first | exact Up.rfl' _ | (refine Up.al _ ?_) | (refine Up.dr _ ?_) | (refine Up.dr1 ?_) | (refine Up.sc ?_ (by first | exact Nat.le_refl _ | (simp; done) | omega) _) | (refine Up.step (by assumption) ?_)))), by (repeat (first | exact Up.rfl' _ | (refine Up.al _ ?_) | (refine Up.dr _ ?_) | (refine Up.dr1 ?_) | (refine Up.sc ?_ (by first | exact Nat.le_refl _ | (simp; done) | omega) _) | (refine Up.step (by assumption) ?_)))⟩
        | true =>
          have HR := Lib.hid (postV_ok hf hL)
          go_wp2_with (go_at_call 16; refine (areLines_spec_n _ (xs ++ [x]) _ _ _ ho2.rd HL.out (by have h_ := HL.out; have h1_ := HC.out; omega) (by omega)).mono ?_; rintro e w3 ⟨rfl, hb3⟩)
          go_ret2
          rw [HR.out]
          have ho3 : Own w3 w.heap.size 34 (.slice A2 (xs.length + 1) c2) (xs ++ [x]) := (ho2.down hub).up hb3
          exact ⟨_, rfl, ho3, by (repeat (first | exact Up.rfl' _ | (refine Up.al _ ?_) | (refine Up.dr _ ?_) | (refine Up.dr1 ?_) | (refine Up.sc ?_ (by first | exact Nat.le_refl _ | (simp; done) | omega) _) | (refine Up.step (by assumption) ?_)))⟩
end Go.Proofs.YtapllnlclgbbkaaDoor

namespace Go.Proofs.YtapllnlclgbbkaaDoor
set_option maxRecDepth 10000
open Go.RowKit
theorem Rd.int {w : World} {B : Nat} {A : Option Addr} {xs : List Int} {i : Nat} {x : Int} (h : Rd w B A xs) (hx : xs[i]? = some x) :
    ∃ b off, A = some ⟨b, off, none⟩ ∧ b < B ∧ w.cell? ⟨b, off + i, none⟩ = some (I x) := by
  obtain ⟨b, off, e, hb, hc⟩ := h.at_ hx
  have h0 := hc 0 _ rfl
  have : off + i * Enc.k Int + 0 = off + i := by show off + i * 1 + 0 = off + i; omega
  rw [this] at h0
  exact ⟨b, off, e, hb, h0⟩

theorem info_int : (Tryd.prog.info? 3).map (fun i => (i.zero, i.size, i.bytes)) = some (some (.int .i64 0), 1, 8) := by kernel_rfl
theorem flat_int {xs : List Int} {i : Nat} {x : Int} (hx : xs[i]? = some x) : (flat xs)[i]? = some (I x) := by
  have h := flat_at hx (j := 0) (u := I x) rfl
  have : i * Enc.k Int + 0 = i := by show i * 1 + 0 = i; omega
  rwa [this] at h
end Go.Proofs.YtapllnlclgbbkaaDoor

namespace Go.Proofs.YtapllnlclgbbkaaDoor
set_option maxRecDepth 10000
open Go.RowKit
theorem arePercents_spec (A : Option Addr) (c : Nat) (xs : List Int) (w : World) (hx : Rd w w.heap.size A xs) (hn : xs.length ≤ 2000000) :
    Calls Tryd.prog 61 #[.slice A xs.length c] w fun e w' => e = .returned (.bool (pctsB xs)) ∧ Below w.heap.size w w' := by
  go_enter Tryd.func61, Tryd.ntmps61
  go_wp2
  go_loopw [3] (fun i wr => ∃ j : Nat, j ≤ xs.length ∧ i = .int .i64 j ∧ Hid (allTo j (pctAt xs) = true) ∧ Below w.heap.size w wr) (fun i _ => xs.length - (intOf i).toNat)
  case atStart => exact ⟨0, by omega, rfl, allTo_zero _, Below.refl _ _⟩
  case round =>
    obtain ⟨i, hi, rfl, he, hb⟩ := hrel
    by_cases hlt : i < xs.length
    · obtain ⟨x, gx⟩ := get_of_lt hlt
      cases hin : inB x 0 100 with
      | false =>
        obtain ⟨b, off, rfl, hbb, c0⟩ := (hx.below hb).int gx
        have HR := Lib.hid (pctsB_false hlt (pctAt_out gx hin))
        clear gx hx
        go_wp2
        go_quiet ((go_at_call 35; exact quietL (l1In_any _ _ _ _)))
        go_wp2
        go_ret
        exact ⟨retb HR.out.symm, belowD hb _⟩
      | true =>
        rcases Nat.eq_zero_or_pos i with h0' | h0
        · have h0 : i ≤ 0 := by omega
          clear h0'
          obtain ⟨b, off, rfl, hbb, c0⟩ := (hx.below hb).int gx
          have HR := Lib.hid (pctAt_zero h0 gx hin)
          clear gx hx
          have d0 : decide ((0 : Int) < (i : Int)) = false := by simp; omega
          have d1 : decide (0 < i) = false := by simp; omega
          go_wp2
          go_quiet ((go_at_call 35; exact quietL (l1In_any _ _ _ _)))
          go_wp2
          exact ⟨⟨i + 1, by omega, by go_num, allTo_succ he.out HR.out, belowD hb _⟩, by simp [intOf]; omega⟩
        · obtain ⟨m, rfl⟩ : ∃ m, i = m + 1 := ⟨i - 1, by omega⟩
          obtain ⟨y, gy⟩ := get_of_lt (xs := xs) (i := m) (by omega)
          obtain ⟨b, off, rfl, hbb, c0⟩ := (hx.below hb).int gx
          obtain ⟨b', off', hA, _, c1⟩ := (hx.below hb).int gy
          obtain ⟨rfl, rfl⟩ : b = b' ∧ off = off' := by simpa using hA
          clear hA
          by_cases hlt2 : x < y
          · have HR := Lib.hid (pctsB_false hlt (pctAt_down gy gx hlt2))
            clear gx hx gy
            go_wp2
            go_quiet ((go_at_call 35; exact quietL (l1In_any _ _ _ _)))
            go_wp2
            go_ret
            exact ⟨retb HR.out.symm, belowD hb _⟩
          · have HR := Lib.hid (pctAt_up gy gx hin hlt2)
            clear gx hx gy
            go_wp2
            go_quiet ((go_at_call 35; exact quietL (l1In_any _ _ _ _)))
            go_wp2
            exact ⟨⟨m + 2, by omega, by go_num, allTo_succ he.out HR.out, belowD hb _⟩, by simp [intOf]; omega⟩
    · obtain rfl : i = xs.length := by omega
      have HR := Lib.hid (pctsB_len he.out)
      clear hx
      go_wp2_with (go_at_call 35; refine (l1In_any _ _ _ _).mono ?_; rintro e w' ⟨rfl, rfl⟩)
      go_ret
      exact ⟨retb HR.out.symm, hb⟩
end Go.Proofs.YtapllnlclgbbkaaDoor

namespace Go.Proofs.YtapllnlclgbbkaaDoor
set_option maxRecDepth 10000
open Go.RowKit
end Go.Proofs.YtapllnlclgbbkaaDoor

namespace Go.Proofs.YtapllnlclgbbkaaDoor
set_option maxRecDepth 10000
open Go.RowKit
theorem refundFor_spec (A : Option Addr) (xs : List Int) (c : Nat) (ch du en : Int) (w : World) (hx : Rd w w.heap.size A xs) (hn : xs.length ≤ 2000000) :
    Calls Tryd.prog 62 #[.int .i64 ch, .int .i64 du, .int .i64 en, .slice A xs.length c] w fun e w' => e = .returned (.int .i64 (refundV ch du en xs)) ∧ Up w w' := by
  cases h1 : pctsB xs with
  | false =>
    have HR := Lib.hid (show refundV ch du en xs = 0 by simp [refundV, refundOk, h1])
    go_enter Tryd.func62, Tryd.ntmps62
    go_wp2_with (first | (go_at_call 35; refine (l1In_any _ _ _ _).mono ?_; rintro e w' ⟨rfl, rfl⟩) | (go_at_call 61; refine (arePercents_spec _ _ _ _ hx hn).mono ?_; rintro e w1 ⟨rfl, hb1⟩))
    go_ret
    exact ⟨reti HR.out.symm, by (repeat (first | exact Up.rfl' _ | (refine Up.al _ ?_) | (refine Up.dr _ ?_) | (refine Up.dr1 ?_) | (refine Up.sc ?_ (by first | exact Nat.le_refl _ | (simp; done) | omega) _) | (refine Up.step (by assumption) ?_)))⟩
  | true =>
  cases h2 : inB ch 0 100000 with
  | false =>
    have HR := Lib.hid (show refundV ch du en xs = 0 by simp [refundV, refundOk, h2])
    go_enter Tryd.func62, Tryd.ntmps62
    go_wp2_with (first | (go_at_call 35; refine (l1In_any _ _ _ _).mono ?_; rintro e w' ⟨rfl, rfl⟩) | (go_at_call 61; refine (arePercents_spec _ _ _ _ hx hn).mono ?_; rintro e w1 ⟨rfl, hb1⟩))
    go_ret
    exact ⟨reti HR.out.symm, by (repeat (first | exact Up.rfl' _ | (refine Up.al _ ?_) | (refine Up.dr _ ?_) | (refine Up.dr1 ?_) | (refine Up.sc ?_ (by first | exact Nat.le_refl _ | (simp; done) | omega) _) | (refine Up.step (by assumption) ?_)))⟩
  | true =>
  cases h3 : inB du 0 200000 with
  | false =>
    have HR := Lib.hid (show refundV ch du en xs = 0 by simp [refundV, refundOk, h3])
    go_enter Tryd.func62, Tryd.ntmps62
    go_wp2_with (first | (go_at_call 35; refine (l1In_any _ _ _ _).mono ?_; rintro e w' ⟨rfl, rfl⟩) | (go_at_call 61; refine (arePercents_spec _ _ _ _ hx hn).mono ?_; rintro e w1 ⟨rfl, hb1⟩))
    go_ret
    exact ⟨reti HR.out.symm, by (repeat (first | exact Up.rfl' _ | (refine Up.al _ ?_) | (refine Up.dr _ ?_) | (refine Up.dr1 ?_) | (refine Up.sc ?_ (by first | exact Nat.le_refl _ | (simp; done) | omega) _) | (refine Up.step (by assumption) ?_)))⟩
  | true =>
  cases h4 : inB en 0 200000 with
  | false =>
    have HR := Lib.hid (show refundV ch du en xs = 0 by simp [refundV, refundOk, h4])
    go_enter Tryd.func62, Tryd.ntmps62
    go_wp2_with (first | (go_at_call 35; refine (l1In_any _ _ _ _).mono ?_; rintro e w' ⟨rfl, rfl⟩) | (go_at_call 61; refine (arePercents_spec _ _ _ _ hx hn).mono ?_; rintro e w1 ⟨rfl, hb1⟩))
    go_ret
    exact ⟨reti HR.out.symm, by (repeat (first | exact Up.rfl' _ | (refine Up.al _ ?_) | (refine Up.dr _ ?_) | (refine Up.dr1 ?_) | (refine Up.sc ?_ (by first | exact Nat.le_refl _ | (simp; done) | omega) _) | (refine Up.step (by assumption) ?_)))⟩
  | true =>
  by_cases h5 : en ≤ du
  · have HR := Lib.hid (show refundV ch du en xs = 0 by simp [refundV, refundOk, h5])
    go_enter Tryd.func62, Tryd.ntmps62
    go_wp2_with (first | (go_at_call 35; refine (l1In_any _ _ _ _).mono ?_; rintro e w' ⟨rfl, rfl⟩) | (go_at_call 61; refine (arePercents_spec _ _ _ _ hx hn).mono ?_; rintro e w1 ⟨rfl, hb1⟩))
    go_ret
    exact ⟨reti HR.out.symm, by (repeat (first | exact Up.rfl' _ | (refine Up.al _ ?_) | (refine Up.dr _ ?_) | (refine Up.dr1 ?_) | (refine Up.sc ?_ (by first | exact Nat.le_refl _ | (simp; done) | omega) _) | (refine Up.step (by assumption) ?_)))⟩
  · have b2 := inB_true h2
    have b3 := inB_true h3
    have b4 := inB_true h4
    obtain ⟨l1, l2, hall⟩ := pcts_get h1
    have HA := Lib.hid hall
    clear hall
    have k0 : 0 ≤ (en - du - 1) / 1440 := by omega
    by_cases hk : (en - du - 1) / 1440 < (xs.length : Int)
    · obtain ⟨x, gx⟩ := get_of_lt (xs := xs) (i := ((en - du - 1) / 1440).toNat) (by omega)
      have bx := HA.out _ _ gx
      have HR := Lib.hid (show refundV ch du en xs = pctOf ch x by simp [refundV, refundOk, h1, h2, h3, h4, refundAt, hk, gx]; omega)
      have Gx := Lib.hid gx
      clear gx
      go_enter Tryd.func62, Tryd.ntmps62
      go_wp2_with (first | (go_at_call 35; refine (l1In_any _ _ _ _).mono ?_; rintro e w' ⟨rfl, rfl⟩) | (go_at_call 61; refine (arePercents_spec _ _ _ _ hx hn).mono ?_; rintro e w1 ⟨rfl, hb1⟩; obtain ⟨b, off, rfl, hbb, c0⟩ := (hx.below hb1).int Gx.out))
      go_ret
      exact ⟨reti HR.out.symm, by (repeat (first | exact Up.rfl' _ | (refine Up.al _ ?_) | (refine Up.dr _ ?_) | (refine Up.dr1 ?_) | (refine Up.sc ?_ (by first | exact Nat.le_refl _ | (simp; done) | omega) _) | (refine Up.step (by assumption) ?_)))⟩
    · obtain ⟨x, gx⟩ := get_of_lt (xs := xs) (i := xs.length - 1) (by omega)
      have HR := Lib.hid (show refundV ch du en xs = pctOf ch x by simp [refundV, refundOk, h1, h2, h3, h4, refundAt, hk, gx]; omega)
      have Gx := Lib.hid gx
      clear gx
      go_enter Tryd.func62, Tryd.ntmps62
      go_wp2_with (first | (go_at_call 35; refine (l1In_any _ _ _ _).mono ?_; rintro e w' ⟨rfl, rfl⟩) | (go_at_call 61; refine (arePercents_spec _ _ _ _ hx hn).mono ?_; rintro e w1 ⟨rfl, hb1⟩; obtain ⟨b, off, rfl, hbb, c0⟩ := (hx.below hb1).int Gx.out))
      go_ret
      exact ⟨reti HR.out.symm, by (repeat (first | exact Up.rfl' _ | (refine Up.al _ ?_) | (refine Up.dr _ ?_) | (refine Up.dr1 ?_) | (refine Up.sc ?_ (by first | exact Nat.le_refl _ | (simp; done) | omega) _) | (refine Up.step (by assumption) ?_)))⟩
end Go.Proofs.YtapllnlclgbbkaaDoor

namespace Go.Proofs.YtapllnlclgbbkaaDoor
set_option maxRecDepth 10000
open Go.RowKit
set_option maxHeartbeats 1000000 in
theorem chargeOrder_spec (A : Option Addr) (xs : List Ln) (n c : Nat) (o a t : Int) (w : World) (hr : Rd w w.heap.size A xs) (hl : n = xs.length) (hc : xs.length ≤ c) (hn : n ≤ 2000000) :
    Calls Tryd.prog 49 #[.slice A n c, .int .i64 o, .int .i64 a, .int .i64 t] w fun e w' => ∃ v, e = .returned (.tuple #[v, .int .i64 (chargeV xs o a t).2]) ∧ Own w' w.heap.size 34 v (chargeV xs o a t).1 ∧ Up w w' := by
  subst hl
  cases h0 : linesB xs with
  | false =>
    have HR := Lib.hid (show chargeV xs o a t = (xs, 1) by simp [chargeV, h0])
    go_enter Tryd.func49, Tryd.ntmps49
    go_wp2_with (first
        | (go_at_call 16; refine (areLines_spec_n _ xs _ _ _ (hr.up (by (repeat (first | exact Up.rfl' _ | (refine Up.al _ ?_) | (refine Up.dr _ ?_) | (refine Up.dr1 ?_) | (refine Up.sc ?_ (by first | exact Nat.le_refl _ | (simp; done) | omega) _) | (refine Up.step (by assumption) ?_))))) rfl hc hn).mono ?_; rintro e w1 ⟨rfl, hb1⟩)
        | (go_at_call 30; refine (isLine_spec _ _ _ _ _).mono ?_; rintro e w1 ⟨rfl, hb1⟩)
        | (go_at_call 31; refine (sumOf_spec_n _ xs _ _ _ _ _ (hr.up (by (repeat (first | exact Up.rfl' _ | (refine Up.al _ ?_) | (refine Up.dr _ ?_) | (refine Up.dr1 ?_) | (refine Up.sc ?_ (by first | exact Nat.le_refl _ | (simp; done) | omega) _) | (refine Up.step (by assumption) ?_))))) rfl hn).mono ?_; rintro e w1 ⟨rfl, hb1⟩)
        | (go_at_call 22; refine (owedFor_spec _ xs _ _ _ _ (hr.up (by (repeat (first | exact Up.rfl' _ | (refine Up.al _ ?_) | (refine Up.dr _ ?_) | (refine Up.dr1 ?_) | (refine Up.sc ?_ (by first | exact Nat.le_refl _ | (simp; done) | omega) _) | (refine Up.step (by assumption) ?_))))) rfl hc hn).mono ?_; rintro e w1 ⟨rfl, hb1⟩)
        | (go_at_call 59; refine (l11Copy_any _ xs _ _ _ (hr.up (by (repeat (first | exact Up.rfl' _ | (refine Up.al _ ?_) | (refine Up.dr _ ?_) | (refine Up.dr1 ?_) | (refine Up.sc ?_ (by first | exact Nat.le_refl _ | (simp; done) | omega) _) | (refine Up.step (by assumption) ?_))))) rfl hn).mono ?_; rintro e w2 ⟨v2, rfl, ho2, hb2⟩)
        | (go_at_call 60; refine (l11Post_any _ xs _ _ ⟨o, 1, a, t⟩ _ (hr.up (by (repeat (first | exact Up.rfl' _ | (refine Up.al _ ?_) | (refine Up.dr _ ?_) | (refine Up.dr1 ?_) | (refine Up.sc ?_ (by first | exact Nat.le_refl _ | (simp; done) | omega) _) | (refine Up.step (by assumption) ?_))))) rfl hn).mono ?_; rintro e w2 ⟨v2, rfl, ho2, hb2⟩))
    go_ret2
    rw [HR.out]
    exact ⟨v2, rfl, ho2.down (by (repeat (first | exact Up.rfl' _ | (refine Up.al _ ?_) | (refine Up.dr _ ?_) | (refine Up.dr1 ?_) | (refine Up.sc ?_ (by first | exact Nat.le_refl _ | (simp; done) | omega) _) | (refine Up.step (by assumption) ?_)))), by (repeat (first | exact Up.rfl' _ | (refine Up.al _ ?_) | (refine Up.dr _ ?_) | (refine Up.dr1 ?_) | (refine Up.sc ?_ (by first | exact Nat.le_refl _ | (simp; done) | omega) _) | (refine Up.step (by assumption) ?_)))⟩
  | true =>
  cases h1 : lineB o 1 a t with
  | false =>
    have HR := Lib.hid (show chargeV xs o a t = (xs, 1) by simp [chargeV, h0, h1])
    go_enter Tryd.func49, Tryd.ntmps49
    go_wp2_with (first
        | (go_at_call 16; refine (areLines_spec_n _ xs _ _ _ (hr.up (by (repeat (first | exact Up.rfl' _ | (refine Up.al _ ?_) | (refine Up.dr _ ?_) | (refine Up.dr1 ?_) | (refine Up.sc ?_ (by first | exact Nat.le_refl _ | (simp; done) | omega) _) | (refine Up.step (by assumption) ?_))))) rfl hc hn).mono ?_; rintro e w1 ⟨rfl, hb1⟩)
        | (go_at_call 30; refine (isLine_spec _ _ _ _ _).mono ?_; rintro e w1 ⟨rfl, hb1⟩)
        | (go_at_call 31; refine (sumOf_spec_n _ xs _ _ _ _ _ (hr.up (by (repeat (first | exact Up.rfl' _ | (refine Up.al _ ?_) | (refine Up.dr _ ?_) | (refine Up.dr1 ?_) | (refine Up.sc ?_ (by first | exact Nat.le_refl _ | (simp; done) | omega) _) | (refine Up.step (by assumption) ?_))))) rfl hn).mono ?_; rintro e w1 ⟨rfl, hb1⟩)
        | (go_at_call 22; refine (owedFor_spec _ xs _ _ _ _ (hr.up (by (repeat (first | exact Up.rfl' _ | (refine Up.al _ ?_) | (refine Up.dr _ ?_) | (refine Up.dr1 ?_) | (refine Up.sc ?_ (by first | exact Nat.le_refl _ | (simp; done) | omega) _) | (refine Up.step (by assumption) ?_))))) rfl hc hn).mono ?_; rintro e w1 ⟨rfl, hb1⟩)
        | (go_at_call 59; refine (l11Copy_any _ xs _ _ _ (hr.up (by (repeat (first | exact Up.rfl' _ | (refine Up.al _ ?_) | (refine Up.dr _ ?_) | (refine Up.dr1 ?_) | (refine Up.sc ?_ (by first | exact Nat.le_refl _ | (simp; done) | omega) _) | (refine Up.step (by assumption) ?_))))) rfl hn).mono ?_; rintro e w2 ⟨v2, rfl, ho2, hb2⟩)
        | (go_at_call 60; refine (l11Post_any _ xs _ _ ⟨o, 1, a, t⟩ _ (hr.up (by (repeat (first | exact Up.rfl' _ | (refine Up.al _ ?_) | (refine Up.dr _ ?_) | (refine Up.dr1 ?_) | (refine Up.sc ?_ (by first | exact Nat.le_refl _ | (simp; done) | omega) _) | (refine Up.step (by assumption) ?_))))) rfl hn).mono ?_; rintro e w2 ⟨v2, rfl, ho2, hb2⟩))
    go_ret2
    rw [HR.out]
    exact ⟨v2, rfl, ho2.down (by (repeat (first | exact Up.rfl' _ | (refine Up.al _ ?_) | (refine Up.dr _ ?_) | (refine Up.dr1 ?_) | (refine Up.sc ?_ (by first | exact Nat.le_refl _ | (simp; done) | omega) _) | (refine Up.step (by assumption) ?_)))), by (repeat (first | exact Up.rfl' _ | (refine Up.al _ ?_) | (refine Up.dr _ ?_) | (refine Up.dr1 ?_) | (refine Up.sc ?_ (by first | exact Nat.le_refl _ | (simp; done) | omega) _) | (refine Up.step (by assumption) ?_)))⟩
  | true =>
  cases h2 : decide (0 < sumLn xs o 1) with
  | true =>
    have HR := Lib.hid (show chargeV xs o a t = (xs, 2) by simp [chargeV, h0, h1, h2])
    go_enter Tryd.func49, Tryd.ntmps49
    go_wp2_with (first
        | (go_at_call 16; refine (areLines_spec_n _ xs _ _ _ (hr.up (by (repeat (first | exact Up.rfl' _ | (refine Up.al _ ?_) | (refine Up.dr _ ?_) | (refine Up.dr1 ?_) | (refine Up.sc ?_ (by first | exact Nat.le_refl _ | (simp; done) | omega) _) | (refine Up.step (by assumption) ?_))))) rfl hc hn).mono ?_; rintro e w1 ⟨rfl, hb1⟩)
        | (go_at_call 30; refine (isLine_spec _ _ _ _ _).mono ?_; rintro e w1 ⟨rfl, hb1⟩)
        | (go_at_call 31; refine (sumOf_spec_n _ xs _ _ _ _ _ (hr.up (by (repeat (first | exact Up.rfl' _ | (refine Up.al _ ?_) | (refine Up.dr _ ?_) | (refine Up.dr1 ?_) | (refine Up.sc ?_ (by first | exact Nat.le_refl _ | (simp; done) | omega) _) | (refine Up.step (by assumption) ?_))))) rfl hn).mono ?_; rintro e w1 ⟨rfl, hb1⟩)
        | (go_at_call 22; refine (owedFor_spec _ xs _ _ _ _ (hr.up (by (repeat (first | exact Up.rfl' _ | (refine Up.al _ ?_) | (refine Up.dr _ ?_) | (refine Up.dr1 ?_) | (refine Up.sc ?_ (by first | exact Nat.le_refl _ | (simp; done) | omega) _) | (refine Up.step (by assumption) ?_))))) rfl hc hn).mono ?_; rintro e w1 ⟨rfl, hb1⟩)
        | (go_at_call 59; refine (l11Copy_any _ xs _ _ _ (hr.up (by (repeat (first | exact Up.rfl' _ | (refine Up.al _ ?_) | (refine Up.dr _ ?_) | (refine Up.dr1 ?_) | (refine Up.sc ?_ (by first | exact Nat.le_refl _ | (simp; done) | omega) _) | (refine Up.step (by assumption) ?_))))) rfl hn).mono ?_; rintro e w2 ⟨v2, rfl, ho2, hb2⟩)
        | (go_at_call 60; refine (l11Post_any _ xs _ _ ⟨o, 1, a, t⟩ _ (hr.up (by (repeat (first | exact Up.rfl' _ | (refine Up.al _ ?_) | (refine Up.dr _ ?_) | (refine Up.dr1 ?_) | (refine Up.sc ?_ (by first | exact Nat.le_refl _ | (simp; done) | omega) _) | (refine Up.step (by assumption) ?_))))) rfl hn).mono ?_; rintro e w2 ⟨v2, rfl, ho2, hb2⟩))
    go_ret2
    rw [HR.out]
    exact ⟨v2, rfl, ho2.down (by (repeat (first | exact Up.rfl' _ | (refine Up.al _ ?_) | (refine Up.dr _ ?_) | (refine Up.dr1 ?_) | (refine Up.sc ?_ (by first | exact Nat.le_refl _ | (simp; done) | omega) _) | (refine Up.step (by assumption) ?_)))), by (repeat (first | exact Up.rfl' _ | (refine Up.al _ ?_) | (refine Up.dr _ ?_) | (refine Up.dr1 ?_) | (refine Up.sc ?_ (by first | exact Nat.le_refl _ | (simp; done) | omega) _) | (refine Up.step (by assumption) ?_)))⟩
  | false =>
  have HR := Lib.hid (show chargeV xs o a t = postV xs ⟨o, 1, a, t⟩ by simp [chargeV, h0, h1, h2])
  go_enter Tryd.func49, Tryd.ntmps49
  go_wp2_with (first
        | (go_at_call 16; refine (areLines_spec_n _ xs _ _ _ (hr.up (by (repeat (first | exact Up.rfl' _ | (refine Up.al _ ?_) | (refine Up.dr _ ?_) | (refine Up.dr1 ?_) | (refine Up.sc ?_ (by first | exact Nat.le_refl _ | (simp; done) | omega) _) | (refine Up.step (by assumption) ?_))))) rfl hc hn).mono ?_; rintro e w1 ⟨rfl, hb1⟩)
        | (go_at_call 30; refine (isLine_spec _ _ _ _ _).mono ?_; rintro e w1 ⟨rfl, hb1⟩)
        | (go_at_call 31; refine (sumOf_spec_n _ xs _ _ _ _ _ (hr.up (by (repeat (first | exact Up.rfl' _ | (refine Up.al _ ?_) | (refine Up.dr _ ?_) | (refine Up.dr1 ?_) | (refine Up.sc ?_ (by first | exact Nat.le_refl _ | (simp; done) | omega) _) | (refine Up.step (by assumption) ?_))))) rfl hn).mono ?_; rintro e w1 ⟨rfl, hb1⟩)
        | (go_at_call 22; refine (owedFor_spec _ xs _ _ _ _ (hr.up (by (repeat (first | exact Up.rfl' _ | (refine Up.al _ ?_) | (refine Up.dr _ ?_) | (refine Up.dr1 ?_) | (refine Up.sc ?_ (by first | exact Nat.le_refl _ | (simp; done) | omega) _) | (refine Up.step (by assumption) ?_))))) rfl hc hn).mono ?_; rintro e w1 ⟨rfl, hb1⟩)
        | (go_at_call 59; refine (l11Copy_any _ xs _ _ _ (hr.up (by (repeat (first | exact Up.rfl' _ | (refine Up.al _ ?_) | (refine Up.dr _ ?_) | (refine Up.dr1 ?_) | (refine Up.sc ?_ (by first | exact Nat.le_refl _ | (simp; done) | omega) _) | (refine Up.step (by assumption) ?_))))) rfl hn).mono ?_; rintro e w2 ⟨v2, rfl, ho2, hb2⟩)
        | (go_at_call 60; refine (l11Post_any _ xs _ _ ⟨o, 1, a, t⟩ _ (hr.up (by (repeat (first | exact Up.rfl' _ | (refine Up.al _ ?_) | (refine Up.dr _ ?_) | (refine Up.dr1 ?_) | (refine Up.sc ?_ (by first | exact Nat.le_refl _ | (simp; done) | omega) _) | (refine Up.step (by assumption) ?_))))) rfl hn).mono ?_; rintro e w2 ⟨v2, rfl, ho2, hb2⟩))
  go_ret2
  rw [HR.out]
  exact ⟨v2, rfl, ho2.down (by (repeat (first | exact Up.rfl' _ | (refine Up.al _ ?_) | (refine Up.dr _ ?_) | (refine Up.dr1 ?_) | (refine Up.sc ?_ (by first | exact Nat.le_refl _ | (simp; done) | omega) _) | (refine Up.step (by assumption) ?_)))), by (repeat (first | exact Up.rfl' _ | (refine Up.al _ ?_) | (refine Up.dr _ ?_) | (refine Up.dr1 ?_) | (refine Up.sc ?_ (by first | exact Nat.le_refl _ | (simp; done) | omega) _) | (refine Up.step (by assumption) ?_)))⟩
end Go.Proofs.YtapllnlclgbbkaaDoor

namespace Go.Proofs.YtapllnlclgbbkaaDoor
set_option maxRecDepth 10000
open Go.RowKit
set_option maxHeartbeats 1000000 in
theorem payOrder_spec (A : Option Addr) (xs : List Ln) (n c : Nat) (o a t : Int) (w : World) (hr : Rd w w.heap.size A xs) (hl : n = xs.length) (hc : xs.length ≤ c) (hn : n ≤ 2000000) :
    Calls Tryd.prog 50 #[.slice A n c, .int .i64 o, .int .i64 a, .int .i64 t] w fun e w' => ∃ v, e = .returned (.tuple #[v, .int .i64 (payV xs o a t).2]) ∧ Own w' w.heap.size 34 v (payV xs o a t).1 ∧ Up w w' := by
  subst hl
  cases h0 : linesB xs with
  | false =>
    have HR := Lib.hid (show payV xs o a t = (xs, 1) by simp [payV, h0])
    go_enter Tryd.func50, Tryd.ntmps50
    go_wp2_with (first
        | (go_at_call 16; refine (areLines_spec_n _ xs _ _ _ (hr.up (by (repeat (first | exact Up.rfl' _ | (refine Up.al _ ?_) | (refine Up.dr _ ?_) | (refine Up.dr1 ?_) | (refine Up.sc ?_ (by first | exact Nat.le_refl _ | (simp; done) | omega) _) | (refine Up.step (by assumption) ?_))))) rfl hc hn).mono ?_; rintro e w1 ⟨rfl, hb1⟩)
        | (go_at_call 30; refine (isLine_spec _ _ _ _ _).mono ?_; rintro e w1 ⟨rfl, hb1⟩)
        | (go_at_call 31; refine (sumOf_spec_n _ xs _ _ _ _ _ (hr.up (by (repeat (first | exact Up.rfl' _ | (refine Up.al _ ?_) | (refine Up.dr _ ?_) | (refine Up.dr1 ?_) | (refine Up.sc ?_ (by first | exact Nat.le_refl _ | (simp; done) | omega) _) | (refine Up.step (by assumption) ?_))))) rfl hn).mono ?_; rintro e w1 ⟨rfl, hb1⟩)
        | (go_at_call 22; refine (owedFor_spec _ xs _ _ _ _ (hr.up (by (repeat (first | exact Up.rfl' _ | (refine Up.al _ ?_) | (refine Up.dr _ ?_) | (refine Up.dr1 ?_) | (refine Up.sc ?_ (by first | exact Nat.le_refl _ | (simp; done) | omega) _) | (refine Up.step (by assumption) ?_))))) rfl hc hn).mono ?_; rintro e w1 ⟨rfl, hb1⟩)
        | (go_at_call 59; refine (l11Copy_any _ xs _ _ _ (hr.up (by (repeat (first | exact Up.rfl' _ | (refine Up.al _ ?_) | (refine Up.dr _ ?_) | (refine Up.dr1 ?_) | (refine Up.sc ?_ (by first | exact Nat.le_refl _ | (simp; done) | omega) _) | (refine Up.step (by assumption) ?_))))) rfl hn).mono ?_; rintro e w2 ⟨v2, rfl, ho2, hb2⟩)
        | (go_at_call 60; refine (l11Post_any _ xs _ _ ⟨o, 2, a, t⟩ _ (hr.up (by (repeat (first | exact Up.rfl' _ | (refine Up.al _ ?_) | (refine Up.dr _ ?_) | (refine Up.dr1 ?_) | (refine Up.sc ?_ (by first | exact Nat.le_refl _ | (simp; done) | omega) _) | (refine Up.step (by assumption) ?_))))) rfl hn).mono ?_; rintro e w2 ⟨v2, rfl, ho2, hb2⟩))
    go_ret2
    rw [HR.out]
    exact ⟨v2, rfl, ho2.down (by (repeat (first | exact Up.rfl' _ | (refine Up.al _ ?_) | (refine Up.dr _ ?_) | (refine Up.dr1 ?_) | (refine Up.sc ?_ (by first | exact Nat.le_refl _ | (simp; done) | omega) _) | (refine Up.step (by assumption) ?_)))), by (repeat (first | exact Up.rfl' _ | (refine Up.al _ ?_) | (refine Up.dr _ ?_) | (refine Up.dr1 ?_) | (refine Up.sc ?_ (by first | exact Nat.le_refl _ | (simp; done) | omega) _) | (refine Up.step (by assumption) ?_)))⟩
  | true =>
  cases h1 : lineB o 2 a t with
  | false =>
    have HR := Lib.hid (show payV xs o a t = (xs, 1) by simp [payV, h0, h1])
    go_enter Tryd.func50, Tryd.ntmps50
    go_wp2_with (first
        | (go_at_call 16; refine (areLines_spec_n _ xs _ _ _ (hr.up (by (repeat (first | exact Up.rfl' _ | (refine Up.al _ ?_) | (refine Up.dr _ ?_) | (refine Up.dr1 ?_) | (refine Up.sc ?_ (by first | exact Nat.le_refl _ | (simp; done) | omega) _) | (refine Up.step (by assumption) ?_))))) rfl hc hn).mono ?_; rintro e w1 ⟨rfl, hb1⟩)
        | (go_at_call 30; refine (isLine_spec _ _ _ _ _).mono ?_; rintro e w1 ⟨rfl, hb1⟩)
        | (go_at_call 31; refine (sumOf_spec_n _ xs _ _ _ _ _ (hr.up (by (repeat (first | exact Up.rfl' _ | (refine Up.al _ ?_) | (refine Up.dr _ ?_) | (refine Up.dr1 ?_) | (refine Up.sc ?_ (by first | exact Nat.le_refl _ | (simp; done) | omega) _) | (refine Up.step (by assumption) ?_))))) rfl hn).mono ?_; rintro e w1 ⟨rfl, hb1⟩)
        | (go_at_call 22; refine (owedFor_spec _ xs _ _ _ _ (hr.up (by (repeat (first | exact Up.rfl' _ | (refine Up.al _ ?_) | (refine Up.dr _ ?_) | (refine Up.dr1 ?_) | (refine Up.sc ?_ (by first | exact Nat.le_refl _ | (simp; done) | omega) _) | (refine Up.step (by assumption) ?_))))) rfl hc hn).mono ?_; rintro e w1 ⟨rfl, hb1⟩)
        | (go_at_call 59; refine (l11Copy_any _ xs _ _ _ (hr.up (by (repeat (first | exact Up.rfl' _ | (refine Up.al _ ?_) | (refine Up.dr _ ?_) | (refine Up.dr1 ?_) | (refine Up.sc ?_ (by first | exact Nat.le_refl _ | (simp; done) | omega) _) | (refine Up.step (by assumption) ?_))))) rfl hn).mono ?_; rintro e w2 ⟨v2, rfl, ho2, hb2⟩)
        | (go_at_call 60; refine (l11Post_any _ xs _ _ ⟨o, 2, a, t⟩ _ (hr.up (by (repeat (first | exact Up.rfl' _ | (refine Up.al _ ?_) | (refine Up.dr _ ?_) | (refine Up.dr1 ?_) | (refine Up.sc ?_ (by first | exact Nat.le_refl _ | (simp; done) | omega) _) | (refine Up.step (by assumption) ?_))))) rfl hn).mono ?_; rintro e w2 ⟨v2, rfl, ho2, hb2⟩))
    go_ret2
    rw [HR.out]
    exact ⟨v2, rfl, ho2.down (by (repeat (first | exact Up.rfl' _ | (refine Up.al _ ?_) | (refine Up.dr _ ?_) | (refine Up.dr1 ?_) | (refine Up.sc ?_ (by first | exact Nat.le_refl _ | (simp; done) | omega) _) | (refine Up.step (by assumption) ?_)))), by (repeat (first | exact Up.rfl' _ | (refine Up.al _ ?_) | (refine Up.dr _ ?_) | (refine Up.dr1 ?_) | (refine Up.sc ?_ (by first | exact Nat.le_refl _ | (simp; done) | omega) _) | (refine Up.step (by assumption) ?_)))⟩
  | true =>
  cases h2 : (sumLn xs o 1 == 0) with
  | true =>
    have HR := Lib.hid (show payV xs o a t = (xs, 3) by simp [payV, h0, h1, h2])
    go_enter Tryd.func50, Tryd.ntmps50
    go_wp2_with (first
        | (go_at_call 16; refine (areLines_spec_n _ xs _ _ _ (hr.up (by (repeat (first | exact Up.rfl' _ | (refine Up.al _ ?_) | (refine Up.dr _ ?_) | (refine Up.dr1 ?_) | (refine Up.sc ?_ (by first | exact Nat.le_refl _ | (simp; done) | omega) _) | (refine Up.step (by assumption) ?_))))) rfl hc hn).mono ?_; rintro e w1 ⟨rfl, hb1⟩)
        | (go_at_call 30; refine (isLine_spec _ _ _ _ _).mono ?_; rintro e w1 ⟨rfl, hb1⟩)
        | (go_at_call 31; refine (sumOf_spec_n _ xs _ _ _ _ _ (hr.up (by (repeat (first | exact Up.rfl' _ | (refine Up.al _ ?_) | (refine Up.dr _ ?_) | (refine Up.dr1 ?_) | (refine Up.sc ?_ (by first | exact Nat.le_refl _ | (simp; done) | omega) _) | (refine Up.step (by assumption) ?_))))) rfl hn).mono ?_; rintro e w1 ⟨rfl, hb1⟩)
        | (go_at_call 22; refine (owedFor_spec _ xs _ _ _ _ (hr.up (by (repeat (first | exact Up.rfl' _ | (refine Up.al _ ?_) | (refine Up.dr _ ?_) | (refine Up.dr1 ?_) | (refine Up.sc ?_ (by first | exact Nat.le_refl _ | (simp; done) | omega) _) | (refine Up.step (by assumption) ?_))))) rfl hc hn).mono ?_; rintro e w1 ⟨rfl, hb1⟩)
        | (go_at_call 59; refine (l11Copy_any _ xs _ _ _ (hr.up (by (repeat (first | exact Up.rfl' _ | (refine Up.al _ ?_) | (refine Up.dr _ ?_) | (refine Up.dr1 ?_) | (refine Up.sc ?_ (by first | exact Nat.le_refl _ | (simp; done) | omega) _) | (refine Up.step (by assumption) ?_))))) rfl hn).mono ?_; rintro e w2 ⟨v2, rfl, ho2, hb2⟩)
        | (go_at_call 60; refine (l11Post_any _ xs _ _ ⟨o, 2, a, t⟩ _ (hr.up (by (repeat (first | exact Up.rfl' _ | (refine Up.al _ ?_) | (refine Up.dr _ ?_) | (refine Up.dr1 ?_) | (refine Up.sc ?_ (by first | exact Nat.le_refl _ | (simp; done) | omega) _) | (refine Up.step (by assumption) ?_))))) rfl hn).mono ?_; rintro e w2 ⟨v2, rfl, ho2, hb2⟩))
    go_ret2
    rw [HR.out]
    exact ⟨v2, rfl, ho2.down (by (repeat (first | exact Up.rfl' _ | (refine Up.al _ ?_) | (refine Up.dr _ ?_) | (refine Up.dr1 ?_) | (refine Up.sc ?_ (by first | exact Nat.le_refl _ | (simp; done) | omega) _) | (refine Up.step (by assumption) ?_)))), by (repeat (first | exact Up.rfl' _ | (refine Up.al _ ?_) | (refine Up.dr _ ?_) | (refine Up.dr1 ?_) | (refine Up.sc ?_ (by first | exact Nat.le_refl _ | (simp; done) | omega) _) | (refine Up.step (by assumption) ?_)))⟩
  | false =>
  cases h3 : decide (owedV xs o < a) with
  | true =>
    have HR := Lib.hid (show payV xs o a t = (xs, 4) by simp [payV, h0, h1, h2, h3])
    go_enter Tryd.func50, Tryd.ntmps50
    go_wp2_with (first
        | (go_at_call 16; refine (areLines_spec_n _ xs _ _ _ (hr.up (by (repeat (first | exact Up.rfl' _ | (refine Up.al _ ?_) | (refine Up.dr _ ?_) | (refine Up.dr1 ?_) | (refine Up.sc ?_ (by first | exact Nat.le_refl _ | (simp; done) | omega) _) | (refine Up.step (by assumption) ?_))))) rfl hc hn).mono ?_; rintro e w1 ⟨rfl, hb1⟩)
        | (go_at_call 30; refine (isLine_spec _ _ _ _ _).mono ?_; rintro e w1 ⟨rfl, hb1⟩)
        | (go_at_call 31; refine (sumOf_spec_n _ xs _ _ _ _ _ (hr.up (by (repeat (first | exact Up.rfl' _ | (refine Up.al _ ?_) | (refine Up.dr _ ?_) | (refine Up.dr1 ?_) | (refine Up.sc ?_ (by first | exact Nat.le_refl _ | (simp; done) | omega) _) | (refine Up.step (by assumption) ?_))))) rfl hn).mono ?_; rintro e w1 ⟨rfl, hb1⟩)
        | (go_at_call 22; refine (owedFor_spec _ xs _ _ _ _ (hr.up (by (repeat (first | exact Up.rfl' _ | (refine Up.al _ ?_) | (refine Up.dr _ ?_) | (refine Up.dr1 ?_) | (refine Up.sc ?_ (by first | exact Nat.le_refl _ | (simp; done) | omega) _) | (refine Up.step (by assumption) ?_))))) rfl hc hn).mono ?_; rintro e w1 ⟨rfl, hb1⟩)
        | (go_at_call 59; refine (l11Copy_any _ xs _ _ _ (hr.up (by (repeat (first | exact Up.rfl' _ | (refine Up.al _ ?_) | (refine Up.dr _ ?_) | (refine Up.dr1 ?_) | (refine Up.sc ?_ (by first | exact Nat.le_refl _ | (simp; done) | omega) _) | (refine Up.step (by assumption) ?_))))) rfl hn).mono ?_; rintro e w2 ⟨v2, rfl, ho2, hb2⟩)
        | (go_at_call 60; refine (l11Post_any _ xs _ _ ⟨o, 2, a, t⟩ _ (hr.up (by (repeat (first | exact Up.rfl' _ | (refine Up.al _ ?_) | (refine Up.dr _ ?_) | (refine Up.dr1 ?_) | (refine Up.sc ?_ (by first | exact Nat.le_refl _ | (simp; done) | omega) _) | (refine Up.step (by assumption) ?_))))) rfl hn).mono ?_; rintro e w2 ⟨v2, rfl, ho2, hb2⟩))
    go_ret2
    rw [HR.out]
    exact ⟨v2, rfl, ho2.down (by (repeat (first | exact Up.rfl' _ | (refine Up.al _ ?_) | (refine Up.dr _ ?_) | (refine Up.dr1 ?_) | (refine Up.sc ?_ (by first | exact Nat.le_refl _ | (simp; done) | omega) _) | (refine Up.step (by assumption) ?_)))), by (repeat (first | exact Up.rfl' _ | (refine Up.al _ ?_) | (refine Up.dr _ ?_) | (refine Up.dr1 ?_) | (refine Up.sc ?_ (by first | exact Nat.le_refl _ | (simp; done) | omega) _) | (refine Up.step (by assumption) ?_)))⟩
  | false =>
  have HR := Lib.hid (show payV xs o a t = postV xs ⟨o, 2, a, t⟩ by simp [payV, h0, h1, h2, h3])
  go_enter Tryd.func50, Tryd.ntmps50
  go_wp2_with (first
        | (go_at_call 16; refine (areLines_spec_n _ xs _ _ _ (hr.up (by (repeat (first | exact Up.rfl' _ | (refine Up.al _ ?_) | (refine Up.dr _ ?_) | (refine Up.dr1 ?_) | (refine Up.sc ?_ (by first | exact Nat.le_refl _ | (simp; done) | omega) _) | (refine Up.step (by assumption) ?_))))) rfl hc hn).mono ?_; rintro e w1 ⟨rfl, hb1⟩)
        | (go_at_call 30; refine (isLine_spec _ _ _ _ _).mono ?_; rintro e w1 ⟨rfl, hb1⟩)
        | (go_at_call 31; refine (sumOf_spec_n _ xs _ _ _ _ _ (hr.up (by (repeat (first | exact Up.rfl' _ | (refine Up.al _ ?_) | (refine Up.dr _ ?_) | (refine Up.dr1 ?_) | (refine Up.sc ?_ (by first | exact Nat.le_refl _ | (simp; done) | omega) _) | (refine Up.step (by assumption) ?_))))) rfl hn).mono ?_; rintro e w1 ⟨rfl, hb1⟩)
        | (go_at_call 22; refine (owedFor_spec _ xs _ _ _ _ (hr.up (by (repeat (first | exact Up.rfl' _ | (refine Up.al _ ?_) | (refine Up.dr _ ?_) | (refine Up.dr1 ?_) | (refine Up.sc ?_ (by first | exact Nat.le_refl _ | (simp; done) | omega) _) | (refine Up.step (by assumption) ?_))))) rfl hc hn).mono ?_; rintro e w1 ⟨rfl, hb1⟩)
        | (go_at_call 59; refine (l11Copy_any _ xs _ _ _ (hr.up (by (repeat (first | exact Up.rfl' _ | (refine Up.al _ ?_) | (refine Up.dr _ ?_) | (refine Up.dr1 ?_) | (refine Up.sc ?_ (by first | exact Nat.le_refl _ | (simp; done) | omega) _) | (refine Up.step (by assumption) ?_))))) rfl hn).mono ?_; rintro e w2 ⟨v2, rfl, ho2, hb2⟩)
        | (go_at_call 60; refine (l11Post_any _ xs _ _ ⟨o, 2, a, t⟩ _ (hr.up (by (repeat (first | exact Up.rfl' _ | (refine Up.al _ ?_) | (refine Up.dr _ ?_) | (refine Up.dr1 ?_) | (refine Up.sc ?_ (by first | exact Nat.le_refl _ | (simp; done) | omega) _) | (refine Up.step (by assumption) ?_))))) rfl hn).mono ?_; rintro e w2 ⟨v2, rfl, ho2, hb2⟩))
  go_ret2
  rw [HR.out]
  exact ⟨v2, rfl, ho2.down (by (repeat (first | exact Up.rfl' _ | (refine Up.al _ ?_) | (refine Up.dr _ ?_) | (refine Up.dr1 ?_) | (refine Up.sc ?_ (by first | exact Nat.le_refl _ | (simp; done) | omega) _) | (refine Up.step (by assumption) ?_)))), by (repeat (first | exact Up.rfl' _ | (refine Up.al _ ?_) | (refine Up.dr _ ?_) | (refine Up.dr1 ?_) | (refine Up.sc ?_ (by first | exact Nat.le_refl _ | (simp; done) | omega) _) | (refine Up.step (by assumption) ?_)))⟩
end Go.Proofs.YtapllnlclgbbkaaDoor

namespace Go.Proofs.YtapllnlclgbbkaaDoor
set_option maxRecDepth 10000
open Go.RowKit
set_option maxHeartbeats 1000000 in
theorem refundOrder_spec (A : Option Addr) (xs : List Ln) (n c : Nat) (o du en : Int) (P : Option Addr) (ps : List Int) (pc : Nat) (t : Int) (w : World) (hr : Rd w w.heap.size A xs) (hl : n = xs.length) (hc : xs.length ≤ c) (hn : n ≤ 2000000) (hp : Rd w w.heap.size P ps) (hpn : ps.length ≤ 2000000) :
    Calls Tryd.prog 52 #[.slice A n c, .int .i64 o, .int .i64 du, .int .i64 en, .slice P ps.length pc, .int .i64 t] w fun e w' => ∃ v, e = .returned (.tuple #[v, .int .i64 (refundO xs o du en ps t).2]) ∧ Own w' w.heap.size 34 v (refundO xs o du en ps t).1 ∧ Up w w' := by
  subst hl
  cases h0 : linesB xs with
  | false =>
    have HR := Lib.hid (show refundO xs o du en ps t = (xs, 1) by simp [refundO, h0])
    go_enter Tryd.func52, Tryd.ntmps52
    go_wp2_with (first
        | (go_at_call 16; refine (areLines_spec_n _ xs _ _ _ (hr.up (by (repeat (first | exact Up.rfl' _ | (refine Up.al _ ?_) | (refine Up.dr _ ?_) | (refine Up.dr1 ?_) | (refine Up.sc ?_ (by first | exact Nat.le_refl _ | (simp; done) | omega) _) | (refine Up.step (by assumption) ?_))))) rfl hc hn).mono ?_; rintro e w1 ⟨rfl, hb1⟩)
        | (go_at_call 30; refine (isLine_spec _ _ _ _ _).mono ?_; rintro e w1 ⟨rfl, hb1⟩)
        | (go_at_call 31; refine (sumOf_spec_n _ xs _ _ _ _ _ (hr.up (by (repeat (first | exact Up.rfl' _ | (refine Up.al _ ?_) | (refine Up.dr _ ?_) | (refine Up.dr1 ?_) | (refine Up.sc ?_ (by first | exact Nat.le_refl _ | (simp; done) | omega) _) | (refine Up.step (by assumption) ?_))))) rfl hn).mono ?_; rintro e w1 ⟨rfl, hb1⟩)
        | (go_at_call 22; refine (owedFor_spec _ xs _ _ _ _ (hr.up (by (repeat (first | exact Up.rfl' _ | (refine Up.al _ ?_) | (refine Up.dr _ ?_) | (refine Up.dr1 ?_) | (refine Up.sc ?_ (by first | exact Nat.le_refl _ | (simp; done) | omega) _) | (refine Up.step (by assumption) ?_))))) rfl hc hn).mono ?_; rintro e w1 ⟨rfl, hb1⟩)
        | (go_at_call 59; refine (l11Copy_any _ xs _ _ _ (hr.up (by (repeat (first | exact Up.rfl' _ | (refine Up.al _ ?_) | (refine Up.dr _ ?_) | (refine Up.dr1 ?_) | (refine Up.sc ?_ (by first | exact Nat.le_refl _ | (simp; done) | omega) _) | (refine Up.step (by assumption) ?_))))) rfl hn).mono ?_; rintro e w2 ⟨v2, rfl, ho2, hb2⟩)
        | (go_at_call 60; refine (l11Post_any _ xs _ _ ⟨o, 3, refundV (sumLn xs o 1) du en ps, t⟩ _ (hr.up (by (repeat (first | exact Up.rfl' _ | (refine Up.al _ ?_) | (refine Up.dr _ ?_) | (refine Up.dr1 ?_) | (refine Up.sc ?_ (by first | exact Nat.le_refl _ | (simp; done) | omega) _) | (refine Up.step (by assumption) ?_))))) rfl hn).mono ?_; rintro e w2 ⟨v2, rfl, ho2, hb2⟩)
        | (go_at_call 61; refine (arePercents_spec _ _ ps _ (hp.up (by (repeat (first | exact Up.rfl' _ | (refine Up.al _ ?_) | (refine Up.dr _ ?_) | (refine Up.dr1 ?_) | (refine Up.sc ?_ (by first | exact Nat.le_refl _ | (simp; done) | omega) _) | (refine Up.step (by assumption) ?_))))) hpn).mono ?_; rintro e w1 ⟨rfl, hb1⟩)
        | (go_at_call 35; refine (l1In_any _ _ _ _).mono ?_; rintro e w' ⟨rfl, rfl⟩)
        | (go_at_call 62; refine (refundFor_spec _ ps _ _ _ _ _ (hp.up (by (repeat (first | exact Up.rfl' _ | (refine Up.al _ ?_) | (refine Up.dr _ ?_) | (refine Up.dr1 ?_) | (refine Up.sc ?_ (by first | exact Nat.le_refl _ | (simp; done) | omega) _) | (refine Up.step (by assumption) ?_))))) hpn).mono ?_; rintro e w1 ⟨rfl, hb1⟩)
        | (go_at_call 32; refine (l11Count_n _ xs _ _ _ _ _ (hr.up (by (repeat (first | exact Up.rfl' _ | (refine Up.al _ ?_) | (refine Up.dr _ ?_) | (refine Up.dr1 ?_) | (refine Up.sc ?_ (by first | exact Nat.le_refl _ | (simp; done) | omega) _) | (refine Up.step (by assumption) ?_))))) rfl hn).mono ?_; rintro e w1 ⟨rfl, hb1⟩))
    go_ret2
    rw [HR.out]
    exact ⟨v2, rfl, ho2.down (by (repeat (first | exact Up.rfl' _ | (refine Up.al _ ?_) | (refine Up.dr _ ?_) | (refine Up.dr1 ?_) | (refine Up.sc ?_ (by first | exact Nat.le_refl _ | (simp; done) | omega) _) | (refine Up.step (by assumption) ?_)))), by (repeat (first | exact Up.rfl' _ | (refine Up.al _ ?_) | (refine Up.dr _ ?_) | (refine Up.dr1 ?_) | (refine Up.sc ?_ (by first | exact Nat.le_refl _ | (simp; done) | omega) _) | (refine Up.step (by assumption) ?_)))⟩
  | true =>
  cases h1 : pctsB ps with
  | false =>
    have HR := Lib.hid (show refundO xs o du en ps t = (xs, 1) by simp [refundO, h0, h1])
    go_enter Tryd.func52, Tryd.ntmps52
    go_wp2_with (first
        | (go_at_call 16; refine (areLines_spec_n _ xs _ _ _ (hr.up (by (repeat (first | exact Up.rfl' _ | (refine Up.al _ ?_) | (refine Up.dr _ ?_) | (refine Up.dr1 ?_) | (refine Up.sc ?_ (by first | exact Nat.le_refl _ | (simp; done) | omega) _) | (refine Up.step (by assumption) ?_))))) rfl hc hn).mono ?_; rintro e w1 ⟨rfl, hb1⟩)
        | (go_at_call 30; refine (isLine_spec _ _ _ _ _).mono ?_; rintro e w1 ⟨rfl, hb1⟩)
        | (go_at_call 31; refine (sumOf_spec_n _ xs _ _ _ _ _ (hr.up (by (repeat (first | exact Up.rfl' _ | (refine Up.al _ ?_) | (refine Up.dr _ ?_) | (refine Up.dr1 ?_) | (refine Up.sc ?_ (by first | exact Nat.le_refl _ | (simp; done) | omega) _) | (refine Up.step (by assumption) ?_))))) rfl hn).mono ?_; rintro e w1 ⟨rfl, hb1⟩)
        | (go_at_call 22; refine (owedFor_spec _ xs _ _ _ _ (hr.up (by (repeat (first | exact Up.rfl' _ | (refine Up.al _ ?_) | (refine Up.dr _ ?_) | (refine Up.dr1 ?_) | (refine Up.sc ?_ (by first | exact Nat.le_refl _ | (simp; done) | omega) _) | (refine Up.step (by assumption) ?_))))) rfl hc hn).mono ?_; rintro e w1 ⟨rfl, hb1⟩)
        | (go_at_call 59; refine (l11Copy_any _ xs _ _ _ (hr.up (by (repeat (first | exact Up.rfl' _ | (refine Up.al _ ?_) | (refine Up.dr _ ?_) | (refine Up.dr1 ?_) | (refine Up.sc ?_ (by first | exact Nat.le_refl _ | (simp; done) | omega) _) | (refine Up.step (by assumption) ?_))))) rfl hn).mono ?_; rintro e w2 ⟨v2, rfl, ho2, hb2⟩)
        | (go_at_call 60; refine (l11Post_any _ xs _ _ ⟨o, 3, refundV (sumLn xs o 1) du en ps, t⟩ _ (hr.up (by (repeat (first | exact Up.rfl' _ | (refine Up.al _ ?_) | (refine Up.dr _ ?_) | (refine Up.dr1 ?_) | (refine Up.sc ?_ (by first | exact Nat.le_refl _ | (simp; done) | omega) _) | (refine Up.step (by assumption) ?_))))) rfl hn).mono ?_; rintro e w2 ⟨v2, rfl, ho2, hb2⟩)
        | (go_at_call 61; refine (arePercents_spec _ _ ps _ (hp.up (by (repeat (first | exact Up.rfl' _ | (refine Up.al _ ?_) | (refine Up.dr _ ?_) | (refine Up.dr1 ?_) | (refine Up.sc ?_ (by first | exact Nat.le_refl _ | (simp; done) | omega) _) | (refine Up.step (by assumption) ?_))))) hpn).mono ?_; rintro e w1 ⟨rfl, hb1⟩)
        | (go_at_call 35; refine (l1In_any _ _ _ _).mono ?_; rintro e w' ⟨rfl, rfl⟩)
        | (go_at_call 62; refine (refundFor_spec _ ps _ _ _ _ _ (hp.up (by (repeat (first | exact Up.rfl' _ | (refine Up.al _ ?_) | (refine Up.dr _ ?_) | (refine Up.dr1 ?_) | (refine Up.sc ?_ (by first | exact Nat.le_refl _ | (simp; done) | omega) _) | (refine Up.step (by assumption) ?_))))) hpn).mono ?_; rintro e w1 ⟨rfl, hb1⟩)
        | (go_at_call 32; refine (l11Count_n _ xs _ _ _ _ _ (hr.up (by (repeat (first | exact Up.rfl' _ | (refine Up.al _ ?_) | (refine Up.dr _ ?_) | (refine Up.dr1 ?_) | (refine Up.sc ?_ (by first | exact Nat.le_refl _ | (simp; done) | omega) _) | (refine Up.step (by assumption) ?_))))) rfl hn).mono ?_; rintro e w1 ⟨rfl, hb1⟩))
    go_ret2
    rw [HR.out]
    exact ⟨v2, rfl, ho2.down (by (repeat (first | exact Up.rfl' _ | (refine Up.al _ ?_) | (refine Up.dr _ ?_) | (refine Up.dr1 ?_) | (refine Up.sc ?_ (by first | exact Nat.le_refl _ | (simp; done) | omega) _) | (refine Up.step (by assumption) ?_)))), by (repeat (first | exact Up.rfl' _ | (refine Up.al _ ?_) | (refine Up.dr _ ?_) | (refine Up.dr1 ?_) | (refine Up.sc ?_ (by first | exact Nat.le_refl _ | (simp; done) | omega) _) | (refine Up.step (by assumption) ?_)))⟩
  | true =>
  cases h2 : inB o 1 9999 with
  | false =>
    have HR := Lib.hid (show refundO xs o du en ps t = (xs, 1) by simp [refundO, h0, h1, h2])
    go_enter Tryd.func52, Tryd.ntmps52
    go_wp2_with (first
        | (go_at_call 16; refine (areLines_spec_n _ xs _ _ _ (hr.up (by (repeat (first | exact Up.rfl' _ | (refine Up.al _ ?_) | (refine Up.dr _ ?_) | (refine Up.dr1 ?_) | (refine Up.sc ?_ (by first | exact Nat.le_refl _ | (simp; done) | omega) _) | (refine Up.step (by assumption) ?_))))) rfl hc hn).mono ?_; rintro e w1 ⟨rfl, hb1⟩)
        | (go_at_call 30; refine (isLine_spec _ _ _ _ _).mono ?_; rintro e w1 ⟨rfl, hb1⟩)
        | (go_at_call 31; refine (sumOf_spec_n _ xs _ _ _ _ _ (hr.up (by (repeat (first | exact Up.rfl' _ | (refine Up.al _ ?_) | (refine Up.dr _ ?_) | (refine Up.dr1 ?_) | (refine Up.sc ?_ (by first | exact Nat.le_refl _ | (simp; done) | omega) _) | (refine Up.step (by assumption) ?_))))) rfl hn).mono ?_; rintro e w1 ⟨rfl, hb1⟩)
        | (go_at_call 22; refine (owedFor_spec _ xs _ _ _ _ (hr.up (by (repeat (first | exact Up.rfl' _ | (refine Up.al _ ?_) | (refine Up.dr _ ?_) | (refine Up.dr1 ?_) | (refine Up.sc ?_ (by first | exact Nat.le_refl _ | (simp; done) | omega) _) | (refine Up.step (by assumption) ?_))))) rfl hc hn).mono ?_; rintro e w1 ⟨rfl, hb1⟩)
        | (go_at_call 59; refine (l11Copy_any _ xs _ _ _ (hr.up (by (repeat (first | exact Up.rfl' _ | (refine Up.al _ ?_) | (refine Up.dr _ ?_) | (refine Up.dr1 ?_) | (refine Up.sc ?_ (by first | exact Nat.le_refl _ | (simp; done) | omega) _) | (refine Up.step (by assumption) ?_))))) rfl hn).mono ?_; rintro e w2 ⟨v2, rfl, ho2, hb2⟩)
        | (go_at_call 60; refine (l11Post_any _ xs _ _ ⟨o, 3, refundV (sumLn xs o 1) du en ps, t⟩ _ (hr.up (by (repeat (first | exact Up.rfl' _ | (refine Up.al _ ?_) | (refine Up.dr _ ?_) | (refine Up.dr1 ?_) | (refine Up.sc ?_ (by first | exact Nat.le_refl _ | (simp; done) | omega) _) | (refine Up.step (by assumption) ?_))))) rfl hn).mono ?_; rintro e w2 ⟨v2, rfl, ho2, hb2⟩)
        | (go_at_call 61; refine (arePercents_spec _ _ ps _ (hp.up (by (repeat (first | exact Up.rfl' _ | (refine Up.al _ ?_) | (refine Up.dr _ ?_) | (refine Up.dr1 ?_) | (refine Up.sc ?_ (by first | exact Nat.le_refl _ | (simp; done) | omega) _) | (refine Up.step (by assumption) ?_))))) hpn).mono ?_; rintro e w1 ⟨rfl, hb1⟩)
        | (go_at_call 35; refine (l1In_any _ _ _ _).mono ?_; rintro e w' ⟨rfl, rfl⟩)
        | (go_at_call 62; refine (refundFor_spec _ ps _ _ _ _ _ (hp.up (by (repeat (first | exact Up.rfl' _ | (refine Up.al _ ?_) | (refine Up.dr _ ?_) | (refine Up.dr1 ?_) | (refine Up.sc ?_ (by first | exact Nat.le_refl _ | (simp; done) | omega) _) | (refine Up.step (by assumption) ?_))))) hpn).mono ?_; rintro e w1 ⟨rfl, hb1⟩)
        | (go_at_call 32; refine (l11Count_n _ xs _ _ _ _ _ (hr.up (by (repeat (first | exact Up.rfl' _ | (refine Up.al _ ?_) | (refine Up.dr _ ?_) | (refine Up.dr1 ?_) | (refine Up.sc ?_ (by first | exact Nat.le_refl _ | (simp; done) | omega) _) | (refine Up.step (by assumption) ?_))))) rfl hn).mono ?_; rintro e w1 ⟨rfl, hb1⟩))
    go_ret2
    rw [HR.out]
    exact ⟨v2, rfl, ho2.down (by (repeat (first | exact Up.rfl' _ | (refine Up.al _ ?_) | (refine Up.dr _ ?_) | (refine Up.dr1 ?_) | (refine Up.sc ?_ (by first | exact Nat.le_refl _ | (simp; done) | omega) _) | (refine Up.step (by assumption) ?_)))), by (repeat (first | exact Up.rfl' _ | (refine Up.al _ ?_) | (refine Up.dr _ ?_) | (refine Up.dr1 ?_) | (refine Up.sc ?_ (by first | exact Nat.le_refl _ | (simp; done) | omega) _) | (refine Up.step (by assumption) ?_)))⟩
  | true =>
  cases h3 : inB t 0 100000 with
  | false =>
    have HR := Lib.hid (show refundO xs o du en ps t = (xs, 1) by simp [refundO, h0, h1, h2, h3])
    go_enter Tryd.func52, Tryd.ntmps52
    go_wp2_with (first
        | (go_at_call 16; refine (areLines_spec_n _ xs _ _ _ (hr.up (by (repeat (first | exact Up.rfl' _ | (refine Up.al _ ?_) | (refine Up.dr _ ?_) | (refine Up.dr1 ?_) | (refine Up.sc ?_ (by first | exact Nat.le_refl _ | (simp; done) | omega) _) | (refine Up.step (by assumption) ?_))))) rfl hc hn).mono ?_; rintro e w1 ⟨rfl, hb1⟩)
        | (go_at_call 30; refine (isLine_spec _ _ _ _ _).mono ?_; rintro e w1 ⟨rfl, hb1⟩)
        | (go_at_call 31; refine (sumOf_spec_n _ xs _ _ _ _ _ (hr.up (by (repeat (first | exact Up.rfl' _ | (refine Up.al _ ?_) | (refine Up.dr _ ?_) | (refine Up.dr1 ?_) | (refine Up.sc ?_ (by first | exact Nat.le_refl _ | (simp; done) | omega) _) | (refine Up.step (by assumption) ?_))))) rfl hn).mono ?_; rintro e w1 ⟨rfl, hb1⟩)
        | (go_at_call 22; refine (owedFor_spec _ xs _ _ _ _ (hr.up (by (repeat (first | exact Up.rfl' _ | (refine Up.al _ ?_) | (refine Up.dr _ ?_) | (refine Up.dr1 ?_) | (refine Up.sc ?_ (by first | exact Nat.le_refl _ | (simp; done) | omega) _) | (refine Up.step (by assumption) ?_))))) rfl hc hn).mono ?_; rintro e w1 ⟨rfl, hb1⟩)
        | (go_at_call 59; refine (l11Copy_any _ xs _ _ _ (hr.up (by (repeat (first | exact Up.rfl' _ | (refine Up.al _ ?_) | (refine Up.dr _ ?_) | (refine Up.dr1 ?_) | (refine Up.sc ?_ (by first | exact Nat.le_refl _ | (simp; done) | omega) _) | (refine Up.step (by assumption) ?_))))) rfl hn).mono ?_; rintro e w2 ⟨v2, rfl, ho2, hb2⟩)
        | (go_at_call 60; refine (l11Post_any _ xs _ _ ⟨o, 3, refundV (sumLn xs o 1) du en ps, t⟩ _ (hr.up (by (repeat (first | exact Up.rfl' _ | (refine Up.al _ ?_) | (refine Up.dr _ ?_) | (refine Up.dr1 ?_) | (refine Up.sc ?_ (by first | exact Nat.le_refl _ | (simp; done) | omega) _) | (refine Up.step (by assumption) ?_))))) rfl hn).mono ?_; rintro e w2 ⟨v2, rfl, ho2, hb2⟩)
        | (go_at_call 61; refine (arePercents_spec _ _ ps _ (hp.up (by (repeat (first | exact Up.rfl' _ | (refine Up.al _ ?_) | (refine Up.dr _ ?_) | (refine Up.dr1 ?_) | (refine Up.sc ?_ (by first | exact Nat.le_refl _ | (simp; done) | omega) _) | (refine Up.step (by assumption) ?_))))) hpn).mono ?_; rintro e w1 ⟨rfl, hb1⟩)
        | (go_at_call 35; refine (l1In_any _ _ _ _).mono ?_; rintro e w' ⟨rfl, rfl⟩)
        | (go_at_call 62; refine (refundFor_spec _ ps _ _ _ _ _ (hp.up (by (repeat (first | exact Up.rfl' _ | (refine Up.al _ ?_) | (refine Up.dr _ ?_) | (refine Up.dr1 ?_) | (refine Up.sc ?_ (by first | exact Nat.le_refl _ | (simp; done) | omega) _) | (refine Up.step (by assumption) ?_))))) hpn).mono ?_; rintro e w1 ⟨rfl, hb1⟩)
        | (go_at_call 32; refine (l11Count_n _ xs _ _ _ _ _ (hr.up (by (repeat (first | exact Up.rfl' _ | (refine Up.al _ ?_) | (refine Up.dr _ ?_) | (refine Up.dr1 ?_) | (refine Up.sc ?_ (by first | exact Nat.le_refl _ | (simp; done) | omega) _) | (refine Up.step (by assumption) ?_))))) rfl hn).mono ?_; rintro e w1 ⟨rfl, hb1⟩))
    go_ret2
    rw [HR.out]
    exact ⟨v2, rfl, ho2.down (by (repeat (first | exact Up.rfl' _ | (refine Up.al _ ?_) | (refine Up.dr _ ?_) | (refine Up.dr1 ?_) | (refine Up.sc ?_ (by first | exact Nat.le_refl _ | (simp; done) | omega) _) | (refine Up.step (by assumption) ?_)))), by (repeat (first | exact Up.rfl' _ | (refine Up.al _ ?_) | (refine Up.dr _ ?_) | (refine Up.dr1 ?_) | (refine Up.sc ?_ (by first | exact Nat.le_refl _ | (simp; done) | omega) _) | (refine Up.step (by assumption) ?_)))⟩
  | true =>
  cases h4 : (sumLn xs o 1 == 0) with
  | true =>
    have HR := Lib.hid (show refundO xs o du en ps t = (xs, 3) by simp [refundO, h0, h1, h2, h3, h4])
    go_enter Tryd.func52, Tryd.ntmps52
    go_wp2_with (first
        | (go_at_call 16; refine (areLines_spec_n _ xs _ _ _ (hr.up (by (repeat (first | exact Up.rfl' _ | (refine Up.al _ ?_) | (refine Up.dr _ ?_) | (refine Up.dr1 ?_) | (refine Up.sc ?_ (by first | exact Nat.le_refl _ | (simp; done) | omega) _) | (refine Up.step (by assumption) ?_))))) rfl hc hn).mono ?_; rintro e w1 ⟨rfl, hb1⟩)
        | (go_at_call 30; refine (isLine_spec _ _ _ _ _).mono ?_; rintro e w1 ⟨rfl, hb1⟩)
        | (go_at_call 31; refine (sumOf_spec_n _ xs _ _ _ _ _ (hr.up (by (repeat (first | exact Up.rfl' _ | (refine Up.al _ ?_) | (refine Up.dr _ ?_) | (refine Up.dr1 ?_) | (refine Up.sc ?_ (by first | exact Nat.le_refl _ | (simp; done) | omega) _) | (refine Up.step (by assumption) ?_))))) rfl hn).mono ?_; rintro e w1 ⟨rfl, hb1⟩)
        | (go_at_call 22; refine (owedFor_spec _ xs _ _ _ _ (hr.up (by (repeat (first | exact Up.rfl' _ | (refine Up.al _ ?_) | (refine Up.dr _ ?_) | (refine Up.dr1 ?_) | (refine Up.sc ?_ (by first | exact Nat.le_refl _ | (simp; done) | omega) _) | (refine Up.step (by assumption) ?_))))) rfl hc hn).mono ?_; rintro e w1 ⟨rfl, hb1⟩)
        | (go_at_call 59; refine (l11Copy_any _ xs _ _ _ (hr.up (by (repeat (first | exact Up.rfl' _ | (refine Up.al _ ?_) | (refine Up.dr _ ?_) | (refine Up.dr1 ?_) | (refine Up.sc ?_ (by first | exact Nat.le_refl _ | (simp; done) | omega) _) | (refine Up.step (by assumption) ?_))))) rfl hn).mono ?_; rintro e w2 ⟨v2, rfl, ho2, hb2⟩)
        | (go_at_call 60; refine (l11Post_any _ xs _ _ ⟨o, 3, refundV (sumLn xs o 1) du en ps, t⟩ _ (hr.up (by (repeat (first | exact Up.rfl' _ | (refine Up.al _ ?_) | (refine Up.dr _ ?_) | (refine Up.dr1 ?_) | (refine Up.sc ?_ (by first | exact Nat.le_refl _ | (simp; done) | omega) _) | (refine Up.step (by assumption) ?_))))) rfl hn).mono ?_; rintro e w2 ⟨v2, rfl, ho2, hb2⟩)
        | (go_at_call 61; refine (arePercents_spec _ _ ps _ (hp.up (by (repeat (first | exact Up.rfl' _ | (refine Up.al _ ?_) | (refine Up.dr _ ?_) | (refine Up.dr1 ?_) | (refine Up.sc ?_ (by first | exact Nat.le_refl _ | (simp; done) | omega) _) | (refine Up.step (by assumption) ?_))))) hpn).mono ?_; rintro e w1 ⟨rfl, hb1⟩)
        | (go_at_call 35; refine (l1In_any _ _ _ _).mono ?_; rintro e w' ⟨rfl, rfl⟩)
        | (go_at_call 62; refine (refundFor_spec _ ps _ _ _ _ _ (hp.up (by (repeat (first | exact Up.rfl' _ | (refine Up.al _ ?_) | (refine Up.dr _ ?_) | (refine Up.dr1 ?_) | (refine Up.sc ?_ (by first | exact Nat.le_refl _ | (simp; done) | omega) _) | (refine Up.step (by assumption) ?_))))) hpn).mono ?_; rintro e w1 ⟨rfl, hb1⟩)
        | (go_at_call 32; refine (l11Count_n _ xs _ _ _ _ _ (hr.up (by (repeat (first | exact Up.rfl' _ | (refine Up.al _ ?_) | (refine Up.dr _ ?_) | (refine Up.dr1 ?_) | (refine Up.sc ?_ (by first | exact Nat.le_refl _ | (simp; done) | omega) _) | (refine Up.step (by assumption) ?_))))) rfl hn).mono ?_; rintro e w1 ⟨rfl, hb1⟩))
    go_ret2
    rw [HR.out]
    exact ⟨v2, rfl, ho2.down (by (repeat (first | exact Up.rfl' _ | (refine Up.al _ ?_) | (refine Up.dr _ ?_) | (refine Up.dr1 ?_) | (refine Up.sc ?_ (by first | exact Nat.le_refl _ | (simp; done) | omega) _) | (refine Up.step (by assumption) ?_)))), by (repeat (first | exact Up.rfl' _ | (refine Up.al _ ?_) | (refine Up.dr _ ?_) | (refine Up.dr1 ?_) | (refine Up.sc ?_ (by first | exact Nat.le_refl _ | (simp; done) | omega) _) | (refine Up.step (by assumption) ?_)))⟩
  | false =>
  cases h5 : decide (0 < owedV xs o) with
  | true =>
    have HR := Lib.hid (show refundO xs o du en ps t = (xs, 3) by simp [refundO, h0, h1, h2, h3, h4, h5])
    go_enter Tryd.func52, Tryd.ntmps52
    go_wp2_with (first
        | (go_at_call 16; refine (areLines_spec_n _ xs _ _ _ (hr.up (by (repeat (first | exact Up.rfl' _ | (refine Up.al _ ?_) | (refine Up.dr _ ?_) | (refine Up.dr1 ?_) | (refine Up.sc ?_ (by first | exact Nat.le_refl _ | (simp; done) | omega) _) | (refine Up.step (by assumption) ?_))))) rfl hc hn).mono ?_; rintro e w1 ⟨rfl, hb1⟩)
        | (go_at_call 30; refine (isLine_spec _ _ _ _ _).mono ?_; rintro e w1 ⟨rfl, hb1⟩)
        | (go_at_call 31; refine (sumOf_spec_n _ xs _ _ _ _ _ (hr.up (by (repeat (first | exact Up.rfl' _ | (refine Up.al _ ?_) | (refine Up.dr _ ?_) | (refine Up.dr1 ?_) | (refine Up.sc ?_ (by first | exact Nat.le_refl _ | (simp; done) | omega) _) | (refine Up.step (by assumption) ?_))))) rfl hn).mono ?_; rintro e w1 ⟨rfl, hb1⟩)
        | (go_at_call 22; refine (owedFor_spec _ xs _ _ _ _ (hr.up (by (repeat (first | exact Up.rfl' _ | (refine Up.al _ ?_) | (refine Up.dr _ ?_) | (refine Up.dr1 ?_) | (refine Up.sc ?_ (by first | exact Nat.le_refl _ | (simp; done) | omega) _) | (refine Up.step (by assumption) ?_))))) rfl hc hn).mono ?_; rintro e w1 ⟨rfl, hb1⟩)
        | (go_at_call 59; refine (l11Copy_any _ xs _ _ _ (hr.up (by (repeat (first | exact Up.rfl' _ | (refine Up.al _ ?_) | (refine Up.dr _ ?_) | (refine Up.dr1 ?_) | (refine Up.sc ?_ (by first | exact Nat.le_refl _ | (simp; done) | omega) _) | (refine Up.step (by assumption) ?_))))) rfl hn).mono ?_; rintro e w2 ⟨v2, rfl, ho2, hb2⟩)
        | (go_at_call 60; refine (l11Post_any _ xs _ _ ⟨o, 3, refundV (sumLn xs o 1) du en ps, t⟩ _ (hr.up (by (repeat (first | exact Up.rfl' _ | (refine Up.al _ ?_) | (refine Up.dr _ ?_) | (refine Up.dr1 ?_) | (refine Up.sc ?_ (by first | exact Nat.le_refl _ | (simp; done) | omega) _) | (refine Up.step (by assumption) ?_))))) rfl hn).mono ?_; rintro e w2 ⟨v2, rfl, ho2, hb2⟩)
        | (go_at_call 61; refine (arePercents_spec _ _ ps _ (hp.up (by (repeat (first | exact Up.rfl' _ | (refine Up.al _ ?_) | (refine Up.dr _ ?_) | (refine Up.dr1 ?_) | (refine Up.sc ?_ (by first | exact Nat.le_refl _ | (simp; done) | omega) _) | (refine Up.step (by assumption) ?_))))) hpn).mono ?_; rintro e w1 ⟨rfl, hb1⟩)
        | (go_at_call 35; refine (l1In_any _ _ _ _).mono ?_; rintro e w' ⟨rfl, rfl⟩)
        | (go_at_call 62; refine (refundFor_spec _ ps _ _ _ _ _ (hp.up (by (repeat (first | exact Up.rfl' _ | (refine Up.al _ ?_) | (refine Up.dr _ ?_) | (refine Up.dr1 ?_) | (refine Up.sc ?_ (by first | exact Nat.le_refl _ | (simp; done) | omega) _) | (refine Up.step (by assumption) ?_))))) hpn).mono ?_; rintro e w1 ⟨rfl, hb1⟩)
        | (go_at_call 32; refine (l11Count_n _ xs _ _ _ _ _ (hr.up (by (repeat (first | exact Up.rfl' _ | (refine Up.al _ ?_) | (refine Up.dr _ ?_) | (refine Up.dr1 ?_) | (refine Up.sc ?_ (by first | exact Nat.le_refl _ | (simp; done) | omega) _) | (refine Up.step (by assumption) ?_))))) rfl hn).mono ?_; rintro e w1 ⟨rfl, hb1⟩))
    go_ret2
    rw [HR.out]
    exact ⟨v2, rfl, ho2.down (by (repeat (first | exact Up.rfl' _ | (refine Up.al _ ?_) | (refine Up.dr _ ?_) | (refine Up.dr1 ?_) | (refine Up.sc ?_ (by first | exact Nat.le_refl _ | (simp; done) | omega) _) | (refine Up.step (by assumption) ?_)))), by (repeat (first | exact Up.rfl' _ | (refine Up.al _ ?_) | (refine Up.dr _ ?_) | (refine Up.dr1 ?_) | (refine Up.sc ?_ (by first | exact Nat.le_refl _ | (simp; done) | omega) _) | (refine Up.step (by assumption) ?_)))⟩
  | false =>
  cases h6 : decide (0 < sumLn xs o 3) with
  | true =>
    have HR := Lib.hid (show refundO xs o du en ps t = (xs, 2) by simp [refundO, h0, h1, h2, h3, h4, h5, h6])
    have hcs := (cnt_pos' o 3 h0).trans h6
    go_enter Tryd.func52, Tryd.ntmps52
    go_wp2_with (first
        | (go_at_call 16; refine (areLines_spec_n _ xs _ _ _ (hr.up (by (repeat (first | exact Up.rfl' _ | (refine Up.al _ ?_) | (refine Up.dr _ ?_) | (refine Up.dr1 ?_) | (refine Up.sc ?_ (by first | exact Nat.le_refl _ | (simp; done) | omega) _) | (refine Up.step (by assumption) ?_))))) rfl hc hn).mono ?_; rintro e w1 ⟨rfl, hb1⟩)
        | (go_at_call 30; refine (isLine_spec _ _ _ _ _).mono ?_; rintro e w1 ⟨rfl, hb1⟩)
        | (go_at_call 31; refine (sumOf_spec_n _ xs _ _ _ _ _ (hr.up (by (repeat (first | exact Up.rfl' _ | (refine Up.al _ ?_) | (refine Up.dr _ ?_) | (refine Up.dr1 ?_) | (refine Up.sc ?_ (by first | exact Nat.le_refl _ | (simp; done) | omega) _) | (refine Up.step (by assumption) ?_))))) rfl hn).mono ?_; rintro e w1 ⟨rfl, hb1⟩)
        | (go_at_call 22; refine (owedFor_spec _ xs _ _ _ _ (hr.up (by (repeat (first | exact Up.rfl' _ | (refine Up.al _ ?_) | (refine Up.dr _ ?_) | (refine Up.dr1 ?_) | (refine Up.sc ?_ (by first | exact Nat.le_refl _ | (simp; done) | omega) _) | (refine Up.step (by assumption) ?_))))) rfl hc hn).mono ?_; rintro e w1 ⟨rfl, hb1⟩)
        | (go_at_call 59; refine (l11Copy_any _ xs _ _ _ (hr.up (by (repeat (first | exact Up.rfl' _ | (refine Up.al _ ?_) | (refine Up.dr _ ?_) | (refine Up.dr1 ?_) | (refine Up.sc ?_ (by first | exact Nat.le_refl _ | (simp; done) | omega) _) | (refine Up.step (by assumption) ?_))))) rfl hn).mono ?_; rintro e w2 ⟨v2, rfl, ho2, hb2⟩)
        | (go_at_call 60; refine (l11Post_any _ xs _ _ ⟨o, 3, refundV (sumLn xs o 1) du en ps, t⟩ _ (hr.up (by (repeat (first | exact Up.rfl' _ | (refine Up.al _ ?_) | (refine Up.dr _ ?_) | (refine Up.dr1 ?_) | (refine Up.sc ?_ (by first | exact Nat.le_refl _ | (simp; done) | omega) _) | (refine Up.step (by assumption) ?_))))) rfl hn).mono ?_; rintro e w2 ⟨v2, rfl, ho2, hb2⟩)
        | (go_at_call 61; refine (arePercents_spec _ _ ps _ (hp.up (by (repeat (first | exact Up.rfl' _ | (refine Up.al _ ?_) | (refine Up.dr _ ?_) | (refine Up.dr1 ?_) | (refine Up.sc ?_ (by first | exact Nat.le_refl _ | (simp; done) | omega) _) | (refine Up.step (by assumption) ?_))))) hpn).mono ?_; rintro e w1 ⟨rfl, hb1⟩)
        | (go_at_call 35; refine (l1In_any _ _ _ _).mono ?_; rintro e w' ⟨rfl, rfl⟩)
        | (go_at_call 62; refine (refundFor_spec _ ps _ _ _ _ _ (hp.up (by (repeat (first | exact Up.rfl' _ | (refine Up.al _ ?_) | (refine Up.dr _ ?_) | (refine Up.dr1 ?_) | (refine Up.sc ?_ (by first | exact Nat.le_refl _ | (simp; done) | omega) _) | (refine Up.step (by assumption) ?_))))) hpn).mono ?_; rintro e w1 ⟨rfl, hb1⟩)
        | (go_at_call 32; refine (l11Count_n _ xs _ _ _ _ _ (hr.up (by (repeat (first | exact Up.rfl' _ | (refine Up.al _ ?_) | (refine Up.dr _ ?_) | (refine Up.dr1 ?_) | (refine Up.sc ?_ (by first | exact Nat.le_refl _ | (simp; done) | omega) _) | (refine Up.step (by assumption) ?_))))) rfl hn).mono ?_; rintro e w1 ⟨rfl, hb1⟩))
    go_ret2
    rw [HR.out]
    exact ⟨v2, rfl, ho2.down (by (repeat (first | exact Up.rfl' _ | (refine Up.al _ ?_) | (refine Up.dr _ ?_) | (refine Up.dr1 ?_) | (refine Up.sc ?_ (by first | exact Nat.le_refl _ | (simp; done) | omega) _) | (refine Up.step (by assumption) ?_)))), by (repeat (first | exact Up.rfl' _ | (refine Up.al _ ?_) | (refine Up.dr _ ?_) | (refine Up.dr1 ?_) | (refine Up.sc ?_ (by first | exact Nat.le_refl _ | (simp; done) | omega) _) | (refine Up.step (by assumption) ?_)))⟩
  | false =>
  cases h7 : (refundV (sumLn xs o 1) du en ps == 0) with
  | true =>
    have HR := Lib.hid (show refundO xs o du en ps t = (xs, 4) by simp [refundO, h0, h1, h2, h3, h4, h5, h6, h7])
    have hcs := (cnt_pos' o 3 h0).trans h6
    go_enter Tryd.func52, Tryd.ntmps52
    go_wp2_with (first
        | (go_at_call 16; refine (areLines_spec_n _ xs _ _ _ (hr.up (by (repeat (first | exact Up.rfl' _ | (refine Up.al _ ?_) | (refine Up.dr _ ?_) | (refine Up.dr1 ?_) | (refine Up.sc ?_ (by first | exact Nat.le_refl _ | (simp; done) | omega) _) | (refine Up.step (by assumption) ?_))))) rfl hc hn).mono ?_; rintro e w1 ⟨rfl, hb1⟩)
        | (go_at_call 30; refine (isLine_spec _ _ _ _ _).mono ?_; rintro e w1 ⟨rfl, hb1⟩)
        | (go_at_call 31; refine (sumOf_spec_n _ xs _ _ _ _ _ (hr.up (by (repeat (first | exact Up.rfl' _ | (refine Up.al _ ?_) | (refine Up.dr _ ?_) | (refine Up.dr1 ?_) | (refine Up.sc ?_ (by first | exact Nat.le_refl _ | (simp; done) | omega) _) | (refine Up.step (by assumption) ?_))))) rfl hn).mono ?_; rintro e w1 ⟨rfl, hb1⟩)
        | (go_at_call 22; refine (owedFor_spec _ xs _ _ _ _ (hr.up (by (repeat (first | exact Up.rfl' _ | (refine Up.al _ ?_) | (refine Up.dr _ ?_) | (refine Up.dr1 ?_) | (refine Up.sc ?_ (by first | exact Nat.le_refl _ | (simp; done) | omega) _) | (refine Up.step (by assumption) ?_))))) rfl hc hn).mono ?_; rintro e w1 ⟨rfl, hb1⟩)
        | (go_at_call 59; refine (l11Copy_any _ xs _ _ _ (hr.up (by (repeat (first | exact Up.rfl' _ | (refine Up.al _ ?_) | (refine Up.dr _ ?_) | (refine Up.dr1 ?_) | (refine Up.sc ?_ (by first | exact Nat.le_refl _ | (simp; done) | omega) _) | (refine Up.step (by assumption) ?_))))) rfl hn).mono ?_; rintro e w2 ⟨v2, rfl, ho2, hb2⟩)
        | (go_at_call 60; refine (l11Post_any _ xs _ _ ⟨o, 3, refundV (sumLn xs o 1) du en ps, t⟩ _ (hr.up (by (repeat (first | exact Up.rfl' _ | (refine Up.al _ ?_) | (refine Up.dr _ ?_) | (refine Up.dr1 ?_) | (refine Up.sc ?_ (by first | exact Nat.le_refl _ | (simp; done) | omega) _) | (refine Up.step (by assumption) ?_))))) rfl hn).mono ?_; rintro e w2 ⟨v2, rfl, ho2, hb2⟩)
        | (go_at_call 61; refine (arePercents_spec _ _ ps _ (hp.up (by (repeat (first | exact Up.rfl' _ | (refine Up.al _ ?_) | (refine Up.dr _ ?_) | (refine Up.dr1 ?_) | (refine Up.sc ?_ (by first | exact Nat.le_refl _ | (simp; done) | omega) _) | (refine Up.step (by assumption) ?_))))) hpn).mono ?_; rintro e w1 ⟨rfl, hb1⟩)
        | (go_at_call 35; refine (l1In_any _ _ _ _).mono ?_; rintro e w' ⟨rfl, rfl⟩)
        | (go_at_call 62; refine (refundFor_spec _ ps _ _ _ _ _ (hp.up (by (repeat (first | exact Up.rfl' _ | (refine Up.al _ ?_) | (refine Up.dr _ ?_) | (refine Up.dr1 ?_) | (refine Up.sc ?_ (by first | exact Nat.le_refl _ | (simp; done) | omega) _) | (refine Up.step (by assumption) ?_))))) hpn).mono ?_; rintro e w1 ⟨rfl, hb1⟩)
        | (go_at_call 32; refine (l11Count_n _ xs _ _ _ _ _ (hr.up (by (repeat (first | exact Up.rfl' _ | (refine Up.al _ ?_) | (refine Up.dr _ ?_) | (refine Up.dr1 ?_) | (refine Up.sc ?_ (by first | exact Nat.le_refl _ | (simp; done) | omega) _) | (refine Up.step (by assumption) ?_))))) rfl hn).mono ?_; rintro e w1 ⟨rfl, hb1⟩))
    go_ret2
    rw [HR.out]
    exact ⟨v2, rfl, ho2.down (by (repeat (first | exact Up.rfl' _ | (refine Up.al _ ?_) | (refine Up.dr _ ?_) | (refine Up.dr1 ?_) | (refine Up.sc ?_ (by first | exact Nat.le_refl _ | (simp; done) | omega) _) | (refine Up.step (by assumption) ?_)))), by (repeat (first | exact Up.rfl' _ | (refine Up.al _ ?_) | (refine Up.dr _ ?_) | (refine Up.dr1 ?_) | (refine Up.sc ?_ (by first | exact Nat.le_refl _ | (simp; done) | omega) _) | (refine Up.step (by assumption) ?_)))⟩
  | false =>
  have HR := Lib.hid (show refundO xs o du en ps t = postV xs ⟨o, 3, refundV (sumLn xs o 1) du en ps, t⟩ by simp [refundO, h0, h1, h2, h3, h4, h5, h6, h7])
  have hcs := (cnt_pos' o 3 h0).trans h6
  go_enter Tryd.func52, Tryd.ntmps52
  go_wp2_with (first
        | (go_at_call 16; refine (areLines_spec_n _ xs _ _ _ (hr.up (by (repeat (first | exact Up.rfl' _ | (refine Up.al _ ?_) | (refine Up.dr _ ?_) | (refine Up.dr1 ?_) | (refine Up.sc ?_ (by first | exact Nat.le_refl _ | (simp; done) | omega) _) | (refine Up.step (by assumption) ?_))))) rfl hc hn).mono ?_; rintro e w1 ⟨rfl, hb1⟩)
        | (go_at_call 30; refine (isLine_spec _ _ _ _ _).mono ?_; rintro e w1 ⟨rfl, hb1⟩)
        | (go_at_call 31; refine (sumOf_spec_n _ xs _ _ _ _ _ (hr.up (by (repeat (first | exact Up.rfl' _ | (refine Up.al _ ?_) | (refine Up.dr _ ?_) | (refine Up.dr1 ?_) | (refine Up.sc ?_ (by first | exact Nat.le_refl _ | (simp; done) | omega) _) | (refine Up.step (by assumption) ?_))))) rfl hn).mono ?_; rintro e w1 ⟨rfl, hb1⟩)
        | (go_at_call 22; refine (owedFor_spec _ xs _ _ _ _ (hr.up (by (repeat (first | exact Up.rfl' _ | (refine Up.al _ ?_) | (refine Up.dr _ ?_) | (refine Up.dr1 ?_) | (refine Up.sc ?_ (by first | exact Nat.le_refl _ | (simp; done) | omega) _) | (refine Up.step (by assumption) ?_))))) rfl hc hn).mono ?_; rintro e w1 ⟨rfl, hb1⟩)
        | (go_at_call 59; refine (l11Copy_any _ xs _ _ _ (hr.up (by (repeat (first | exact Up.rfl' _ | (refine Up.al _ ?_) | (refine Up.dr _ ?_) | (refine Up.dr1 ?_) | (refine Up.sc ?_ (by first | exact Nat.le_refl _ | (simp; done) | omega) _) | (refine Up.step (by assumption) ?_))))) rfl hn).mono ?_; rintro e w2 ⟨v2, rfl, ho2, hb2⟩)
        | (go_at_call 60; refine (l11Post_any _ xs _ _ ⟨o, 3, refundV (sumLn xs o 1) du en ps, t⟩ _ (hr.up (by (repeat (first | exact Up.rfl' _ | (refine Up.al _ ?_) | (refine Up.dr _ ?_) | (refine Up.dr1 ?_) | (refine Up.sc ?_ (by first | exact Nat.le_refl _ | (simp; done) | omega) _) | (refine Up.step (by assumption) ?_))))) rfl hn).mono ?_; rintro e w2 ⟨v2, rfl, ho2, hb2⟩)
        | (go_at_call 61; refine (arePercents_spec _ _ ps _ (hp.up (by (repeat (first | exact Up.rfl' _ | (refine Up.al _ ?_) | (refine Up.dr _ ?_) | (refine Up.dr1 ?_) | (refine Up.sc ?_ (by first | exact Nat.le_refl _ | (simp; done) | omega) _) | (refine Up.step (by assumption) ?_))))) hpn).mono ?_; rintro e w1 ⟨rfl, hb1⟩)
        | (go_at_call 35; refine (l1In_any _ _ _ _).mono ?_; rintro e w' ⟨rfl, rfl⟩)
        | (go_at_call 62; refine (refundFor_spec _ ps _ _ _ _ _ (hp.up (by (repeat (first | exact Up.rfl' _ | (refine Up.al _ ?_) | (refine Up.dr _ ?_) | (refine Up.dr1 ?_) | (refine Up.sc ?_ (by first | exact Nat.le_refl _ | (simp; done) | omega) _) | (refine Up.step (by assumption) ?_))))) hpn).mono ?_; rintro e w1 ⟨rfl, hb1⟩)
        | (go_at_call 32; refine (l11Count_n _ xs _ _ _ _ _ (hr.up (by (repeat (first | exact Up.rfl' _ | (refine Up.al _ ?_) | (refine Up.dr _ ?_) | (refine Up.dr1 ?_) | (refine Up.sc ?_ (by first | exact Nat.le_refl _ | (simp; done) | omega) _) | (refine Up.step (by assumption) ?_))))) rfl hn).mono ?_; rintro e w1 ⟨rfl, hb1⟩))
  go_ret2
  rw [HR.out]
  exact ⟨v2, rfl, ho2.down (by (repeat (first | exact Up.rfl' _ | (refine Up.al _ ?_) | (refine Up.dr _ ?_) | (refine Up.dr1 ?_) | (refine Up.sc ?_ (by first | exact Nat.le_refl _ | (simp; done) | omega) _) | (refine Up.step (by assumption) ?_)))), by (repeat (first | exact Up.rfl' _ | (refine Up.al _ ?_) | (refine Up.dr _ ?_) | (refine Up.dr1 ?_) | (refine Up.sc ?_ (by first | exact Nat.le_refl _ | (simp; done) | omega) _) | (refine Up.step (by assumption) ?_)))⟩
end Go.Proofs.YtapllnlclgbbkaaDoor

namespace Go.Proofs.YtapllnlclgbbkaaDoor
set_option maxRecDepth 10000
open Go.RowKit
end Go.Proofs.YtapllnlclgbbkaaDoor

namespace Go.Proofs.YtapllnlclgbbkaaDoor
set_option maxRecDepth 10000
open Go.RowKit
def linesOfV (xs : List Ln) (o : Int) : List Ln := xs.filter fun x => x.o == o
theorem linesOfV_yes {xs : List Ln} {i : Nat} {x : Ln} {o : Int} (hx : xs[i]? = some x) (h : (x.o == o) = true) : linesOfV (xs.take (i + 1)) o = linesOfV (xs.take i) o ++ [x] := by
  simp only [linesOfV, take_snoc hx, List.filter_append, List.filter_cons, h, if_true, List.filter_nil]
theorem linesOfV_no {xs : List Ln} {i : Nat} {x : Ln} {o : Int} (hx : xs[i]? = some x) (h : (x.o == o) = false) : linesOfV (xs.take (i + 1)) o = linesOfV (xs.take i) o := by
  simp [linesOfV, take_snoc hx, List.filter_append, h]
theorem linesOfV_len (xs : List Ln) (o : Int) : (linesOfV xs o).length ≤ xs.length := List.length_filter_le _ _
theorem Rd.oneAt {α : Type} [Enc α] (w : World) (T : TypeId) (x : α) (H : Nat) (hH : w.heap.size = H) : Rd (w.alloc (.cells (Enc.cells x).toArray T)) (H + 1) (some ⟨H, 0, none⟩) [x] := by
  subst hH
  exact Rd.one w T x _ (Nat.lt_succ_self _)
theorem linesOf_impl (A : Option Addr) (xs : List Ln) (n c : Nat) (o : Int) (w : World) (hr : Rd w w.heap.size A xs) (hl : n = xs.length) (hn : n ≤ 2000000) :
    Calls Tryd.prog 13 #[.slice A n c, .int .i64 o] w fun e w' => ∃ v, e = .returned v ∧ Own w' w.heap.size 34 v (linesOfV xs o) ∧ Up w w' := by
  subst hl
  go_enter Tryd.func13, Tryd.ntmps13
  go_wp2
  go_loopw [5, 11] (fun v i wr => ∃ j : Nat, j ≤ xs.length ∧ i = .int .i64 j ∧ Own wr w.heap.size 34 v (linesOfV (xs.take j) o) ∧ Up w wr) (fun _ i _ => xs.length - (intOf i).toNat)
  case atStart => exact ⟨0, by omega, rfl, Own.empty w _ _ 0 _ (Nat.le_refl _) (by unfold maxLen; omega) rfl, by (repeat (first | exact Up.rfl' _ | (refine Up.al _ ?_) | (refine Up.dr _ ?_) | (refine Up.dr1 ?_) | (refine Up.sc ?_ (by first | exact Nat.le_refl _ | (simp; done) | omega) _) | (refine Up.step (by assumption) ?_)))⟩
  case round =>
    obtain ⟨i, hi, rfl, ho, hb⟩ := hrel
    by_cases hlt : i < xs.length
    · obtain ⟨x, hx⟩ := get_of_lt hlt
      obtain ⟨b, off, rfl, hbb, c0, c1, c2, c3⟩ := (hr.below hb).ln hx
      have hlen := linesOfV_len (xs.take i) o
      have hlt2 : (xs.take i).length ≤ i := List.length_take_le _ _
      have HO := Lib.hid ho
      clear hr ho
      cases ht : (x.o == o) with
      | true =>
        have S := Lib.hid (linesOfV_yes hx ht)
        clear hx
        go_wp2_with (at_builtin; go_must (refine wpList_append_rd el_line rfl (.tmp 19) (.tmp 21) rfl (base := w.heap.size) (ys := linesOfV (xs.take i) o) (xs := [x]) (by rfl) (HO.out.up (by (repeat (first | exact Up.rfl' _ | (refine Up.al _ ?_) | (refine Up.dr _ ?_) | (refine Up.dr1 ?_) | (refine Up.sc ?_ (by first | exact Nat.le_refl _ | (simp; done) | omega) _) | (refine Up.step (by assumption) ?_))))) 1 (by rfl) rfl (Rd.oneAt _ _ x _ (by simp)) (by simp; omega) (by unfold maxLen; simp; omega) (Up.le (by (repeat (first | exact Up.rfl' _ | (refine Up.al _ ?_) | (refine Up.dr _ ?_) | (refine Up.dr1 ?_) | (refine Up.sc ?_ (by first | exact Nat.le_refl _ | (simp; done) | omega) _) | (refine Up.step (by assumption) ?_))))) ?_); intro v' w2 ho2 hg2 _ hu2; have hb2 : Up w w2 := hu2 w (Nat.le_refl _) (by (repeat (first | exact Up.rfl' _ | (refine Up.al _ ?_) | (refine Up.dr _ ?_) | (refine Up.dr1 ?_) | (refine Up.sc ?_ (by first | exact Nat.le_refl _ | (simp; done) | omega) _) | (refine Up.step (by assumption) ?_)))); have HO2 := Lib.hid ho2; clear ho2)
        exact ⟨⟨i + 1, by omega, by go_num, by rw [S.out]; exact HO2.out, hb2⟩, by simp [intOf]; omega⟩
      | false =>
        have S := Lib.hid (linesOfV_no hx ht)
        clear hx
        go_wp2
        exact ⟨⟨i + 1, by omega, by go_num, by rw [S.out]; exact HO.out.up (by (repeat (first | exact Up.rfl' _ | (refine Up.al _ ?_) | (refine Up.dr _ ?_) | (refine Up.dr1 ?_) | (refine Up.sc ?_ (by first | exact Nat.le_refl _ | (simp; done) | omega) _) | (refine Up.step (by assumption) ?_)))), by (repeat (first | exact Up.rfl' _ | (refine Up.al _ ?_) | (refine Up.dr _ ?_) | (refine Up.dr1 ?_) | (refine Up.sc ?_ (by first | exact Nat.le_refl _ | (simp; done) | omega) _) | (refine Up.step (by assumption) ?_)))⟩, by simp [intOf]; omega⟩
    · go_wp2
      go_ret
      obtain rfl : i = xs.length := by omega
      exact ⟨_, rfl, by simpa using ho, hb⟩
theorem linesOf_spec (A : Option Addr) (xs : List Ln) (n c : Nat) (o : Int) (w : World) (hr : Rd w w.heap.size A xs) (hl : n = xs.length) (hn : n ≤ 2000000) :
    Calls Tryd.prog 19 #[.slice A n c, .int .i64 o] w fun e w' => ∃ v, e = .returned v ∧ Own w' w.heap.size 34 v (linesOfV xs o) ∧ Up w w' := by
  subst hl
  go_enter Tryd.func19, Tryd.ntmps19
  go_wp2
  go_loopw [5, 6] (fun v i wr => ∃ j : Nat, j ≤ xs.length ∧ i = .int .i64 j ∧ Own wr w.heap.size 34 v (linesOfV (xs.take j) o) ∧ Up w wr) (fun _ i _ => xs.length - (intOf i).toNat)
  case atStart => exact ⟨0, by omega, rfl, Own.empty w _ _ 0 _ (Nat.le_refl _) (by unfold maxLen; omega) rfl, by (repeat (first | exact Up.rfl' _ | (refine Up.al _ ?_) | (refine Up.dr _ ?_) | (refine Up.dr1 ?_) | (refine Up.sc ?_ (by first | exact Nat.le_refl _ | (simp; done) | omega) _) | (refine Up.step (by assumption) ?_)))⟩
  case round =>
    obtain ⟨i, hi, rfl, ho, hb⟩ := hrel
    by_cases hlt : i < xs.length
    · obtain ⟨x, hx⟩ := get_of_lt hlt
      obtain ⟨b, off, rfl, hbb, c0, c1, c2, c3⟩ := (hr.below hb).ln hx
      have hlen := linesOfV_len (xs.take i) o
      have hlt2 : (xs.take i).length ≤ i := List.length_take_le _ _
      have HO := Lib.hid ho
      clear hr ho
      cases ht : (x.o == o) with
      | true =>
        have S := Lib.hid (linesOfV_yes hx ht)
        clear hx
        go_wp2_with (at_builtin; go_must (refine wpList_append_rd el_line rfl (.tmp 21) (.tmp 26) rfl (base := w.heap.size) (ys := linesOfV (xs.take i) o) (xs := [x]) (by rfl) (HO.out.up (by (repeat (first | exact Up.rfl' _ | (refine Up.al _ ?_) | (refine Up.dr _ ?_) | (refine Up.dr1 ?_) | (refine Up.sc ?_ (by first | exact Nat.le_refl _ | (simp; done) | omega) _) | (refine Up.step (by assumption) ?_))))) 1 (by rfl) rfl (Rd.oneAt _ _ x _ (by simp)) (by simp; omega) (by unfold maxLen; simp; omega) (Up.le (by (repeat (first | exact Up.rfl' _ | (refine Up.al _ ?_) | (refine Up.dr _ ?_) | (refine Up.dr1 ?_) | (refine Up.sc ?_ (by first | exact Nat.le_refl _ | (simp; done) | omega) _) | (refine Up.step (by assumption) ?_))))) ?_); intro v' w2 ho2 hg2 _ hu2; have hb2 : Up w w2 := hu2 w (Nat.le_refl _) (by (repeat (first | exact Up.rfl' _ | (refine Up.al _ ?_) | (refine Up.dr _ ?_) | (refine Up.dr1 ?_) | (refine Up.sc ?_ (by first | exact Nat.le_refl _ | (simp; done) | omega) _) | (refine Up.step (by assumption) ?_)))); have HO2 := Lib.hid ho2; clear ho2)
        exact ⟨⟨i + 1, by omega, by go_num, by rw [S.out]; exact HO2.out, hb2⟩, by simp [intOf]; omega⟩
      | false =>
        have S := Lib.hid (linesOfV_no hx ht)
        clear hx
        go_wp2
        exact ⟨⟨i + 1, by omega, by go_num, by rw [S.out]; exact HO.out.up (by (repeat (first | exact Up.rfl' _ | (refine Up.al _ ?_) | (refine Up.dr _ ?_) | (refine Up.dr1 ?_) | (refine Up.sc ?_ (by first | exact Nat.le_refl _ | (simp; done) | omega) _) | (refine Up.step (by assumption) ?_)))), by (repeat (first | exact Up.rfl' _ | (refine Up.al _ ?_) | (refine Up.dr _ ?_) | (refine Up.dr1 ?_) | (refine Up.sc ?_ (by first | exact Nat.le_refl _ | (simp; done) | omega) _) | (refine Up.step (by assumption) ?_)))⟩, by simp [intOf]; omega⟩
    · go_wp2
      go_ret
      obtain rfl : i = xs.length := by omega
      exact ⟨_, rfl, by simpa using ho, hb⟩
end Go.Proofs.YtapllnlclgbbkaaDoor

namespace Go.Proofs.YtapllnlclgbbkaaDoor
set_option maxRecDepth 10000
open Go.RowKit
theorem Own.rd' {α : Type} [Enc α] {w : World} {B E : Nat} {A : Option Addr} {c n : Nat} {xs : List α} (h : Own w B E (.slice A n c) xs) : Rd w w.heap.size A xs := h.rd
end Go.Proofs.YtapllnlclgbbkaaDoor

namespace Go.Proofs.YtapllnlclgbbkaaDoor
set_option maxRecDepth 10000
open Go.RowKit
theorem postV_len (xs : List Ln) (x : Ln) : (postV xs x).1.length ≤ xs.length + 1 := by
  unfold postV; split
  · simp
  · split <;> simp
theorem chargeV_len (xs : List Ln) (o a t : Int) : (chargeV xs o a t).1.length ≤ xs.length + 1 := by
  unfold chargeV
  repeat' (split; · simp)
  exact postV_len _ _
theorem payV_len (xs : List Ln) (o a t : Int) : (payV xs o a t).1.length ≤ xs.length + 1 := by
  unfold payV
  repeat' (split; · simp)
  exact postV_len _ _
theorem refundO_len (xs : List Ln) (o du en : Int) (ps : List Int) (t : Int) : (refundO xs o du en ps t).1.length ≤ xs.length + 1 := by
  unfold refundO
  repeat' (split; · simp)
  exact postV_len _ _
end Go.Proofs.YtapllnlclgbbkaaDoor

namespace Go.Proofs.YtapllnlclgbbkaaDoor
set_option maxRecDepth 10000
open Go.RowKit
end Go.Proofs.YtapllnlclgbbkaaDoor

namespace Go.Proofs.YtapllnlclgbbkaaDoor
set_option maxRecDepth 10000
open Go.RowKit
def markI (k : Int) (n : Nat) : List Int := (List.range n).map fun i : Nat => k + (i : Int)
theorem markI_len (k : Int) (n : Nat) : (markI k n).length = n := by simp [markI]
theorem markI_get {k : Int} {n i : Nat} (h : i < n) : (markI k n)[i]? = some (k + (i : Int)) := by simp [markI, h]
end Go.Proofs.YtapllnlclgbbkaaDoor

namespace Go.Proofs.YtapllnlclgbbkaaDoor
set_option maxRecDepth 10000
open Go.RowKit
end Go.Proofs.YtapllnlclgbbkaaDoor

namespace Go.Proofs.YtapllnlclgbbkaaDoor
set_option maxRecDepth 10000
open Go.RowKit
structure By where
  v : Int
instance : Enc By where
  cells x := [.int .u8 x.v]
  k := 1
  len _ := rfl
  pos := by decide
  one := by simp [Value.oneCell']
def ByOk (x : By) : Prop := 0 ≤ x.v ∧ x.v ≤ 255
theorem Rd.by_ {w : World} {B : Nat} {A : Option Addr} {xs : List By} {i : Nat} {x : By} (h : Rd w B A xs) (hx : xs[i]? = some x) :
    ∃ b off, A = some ⟨b, off, none⟩ ∧ b < B ∧ w.cell? ⟨b, off + i, none⟩ = some (.int .u8 x.v) := by
  obtain ⟨b, off, e, hb, hc⟩ := h.at_ hx
  have h0 := hc 0 _ rfl
  have : off + i * Enc.k By + 0 = off + i := by show off + i * 1 + 0 = off + i; omega
  rw [this] at h0
  exact ⟨b, off, e, hb, h0⟩

/-- The cursor of a draw at block g. -/
structure CurAt (w : World) (g : Nat) (xs : List By) (A : Option Addr) (c : Nat) (i : Nat) (h : Int) : Prop where
  heap : w.heap[g]? = some (.cells #[.slice A xs.length c, .int .i64 i, .int .i64 h] 58 (0, 0))
  i1 : i ≤ xs.length
  rd : Rd w g A xs
  ok : ∀ x ∈ xs, ByOk x
  len : xs.length ≤ 4096
def Cur (w : World) (g : Nat) (xs : List By) : Prop := ∃ A c i h, CurAt w g xs A c i h
theorem i64_and255 (n : Int) : bits .and .i64 n 255 = n % 256 := by
  have hm : (BitVec.ofInt 64 255).toNat = 2 ^ 8 - 1 := by decide
  have key : (BitVec.ofInt 64 n &&& BitVec.ofInt 64 255).toNat = (n % ((2 ^ 64 : Nat) : Int)).toNat % 2 ^ 8 := by
    rw [BitVec.toNat_and, BitVec.toNat_ofInt, hm, Nat.and_two_pow_sub_one_eq_mod]
  show IntKind.i64.wrap ((BitVec.ofInt 64 n &&& BitVec.ofInt 64 255).toNat : Nat) = n % 256
  rw [key, IntKind.wrap_i64]
  omega
theorem and255 (n : Int) : ∃ x : Int, bits .and .i64 n 255 = x ∧ 0 ≤ x ∧ x ≤ 255 := ⟨_, rfl, by rw [i64_and255]; omega, by rw [i64_and255]; omega⟩
theorem grown_set (w : World) (g o : Nat) (v : Value) : w.grownBy (w.setCell ⟨g, o, none⟩ v) (some g) :=
  ⟨rfl, rfl, rfl, by simp, fun k _ hk => heap_setCell_other w ⟨g, o, none⟩ k v (fun e => hk (by rw [e]))⟩
theorem grown_trans {a b c : World} {r : Option Nat} (h : a.grownBy b r) (k : b.grownBy c r) : a.grownBy c r :=
  ⟨k.os.trans h.os, k.tape.trans h.tape, k.output.trans h.output, Nat.le_trans h.size k.size, fun i hi hr => (k.block i (Nat.lt_of_lt_of_le hi h.size) hr).trans (h.block i hi hr)⟩
theorem grown_up {a b : World} (r : Option Nat) (h : Up a b) : a.grownBy b r := ⟨h.os, h.tape, h.output, h.size, fun i hi _ => h.block i hi⟩
theorem Rd.grown_ {α : Type} [Enc α] {w w' : World} {g : Nat} {A : Option Addr} {xs : List α} (h : Rd w g A xs) (hg : w.grownBy w' (some g)) (hlt : g < w.heap.size) : Rd w' g A xs :=
  h.keep fun b o hb => by
    simp only [World.cell?]
    rw [hg.block b (Nat.lt_trans hb hlt) (by simp; omega)]
theorem CurAt.lt {w : World} {g : Nat} {xs : List By} {A : Option Addr} {c i : Nat} {h : Int} (k : CurAt w g xs A c i h) : g < w.heap.size := (Array.getElem?_eq_some_iff.1 k.heap).1
theorem Cur.lt {w : World} {g : Nat} {xs : List By} (h : Cur w g xs) : g < w.heap.size := by
  obtain ⟨A, c, i, x, k⟩ := h
  exact k.lt
theorem CurAt.seth {w : World} {g : Nat} {xs : List By} {A : Option Addr} {c i : Nat} {h : Int} (k : CurAt w g xs A c i h) (h' : Int) : CurAt (w.setCell ⟨g, 2, none⟩ (.int .i64 h')) g xs A c i h' :=
  ⟨heap_setCell_same w g 2 _ _ _ k.heap, k.i1, k.rd.grown_ (grown_set w g 2 _) k.lt, k.ok, k.len⟩
theorem CurAt.seti {w : World} {g : Nat} {xs : List By} {A : Option Addr} {c i : Nat} {h : Int} (k : CurAt w g xs A c i h) (i' : Nat) (hi : i' ≤ xs.length) : CurAt (w.setCell ⟨g, 1, none⟩ (.int .i64 i')) g xs A c i' h :=
  ⟨heap_setCell_same w g 1 _ _ _ k.heap, hi, k.rd.grown_ (grown_set w g 1 _) k.lt, k.ok, k.len⟩
theorem CurAt.up {w w' : World} {g : Nat} {xs : List By} {A : Option Addr} {c i : Nat} {h : Int} (k : CurAt w g xs A c i h) (hu : Up w w') : CurAt w' g xs A c i h :=
  ⟨(hu.block g k.lt).trans k.heap, k.i1, k.rd.grown_ (grown_up _ hu) k.lt, k.ok, k.len⟩
theorem Cur.up {w w' : World} {g : Nat} {xs : List By} (h : Cur w g xs) (hu : Up w w') : Cur w' g xs := by
  obtain ⟨A, c, i, x, k⟩ := h
  exact ⟨A, c, i, x, k.up hu⟩
theorem CurAt.cells {w : World} {g : Nat} {xs : List By} {A : Option Addr} {c i : Nat} {h : Int} (k : CurAt w g xs A c i h) :
    w.cell? ⟨g, 0, none⟩ = some (.slice A xs.length c) ∧ w.cell? ⟨g, 1, none⟩ = some (.int .i64 i) ∧ w.cell? ⟨g, 2, none⟩ = some (.int .i64 h) ∧ w.frozen? ⟨g, 1, none⟩ = false ∧ w.frozen? ⟨g, 2, none⟩ = false := by
  refine ⟨?_, ?_, ?_, frozen_of_row w g 1 _ _ k.heap, frozen_of_row w g 2 _ _ k.heap⟩ <;> (rw [cell_of_row w g _ _ _ (0, 0) k.heap]; rfl)
set_option maxHeartbeats 800000 in
theorem l1Byte_any (g : Nat) (xs : List By) (w : World) (hc : Cur w g xs) :
    Calls Tryd.prog 54 #[.pointer (some ⟨g, 0, none⟩)] w fun e w' => ∃ x : Int, (0 ≤ x ∧ x ≤ 255) ∧ e = .returned (.int .i64 x) ∧ Cur w' g xs ∧ w.grownBy w' (some g) := by
  obtain ⟨A, c, i, h, k⟩ := hc
  obtain ⟨c0, c1, c2, f1, f2⟩ := k.cells
  by_cases hi : i < xs.length
  · obtain ⟨x, hx⟩ := get_of_lt hi
    obtain ⟨b, off, rfl, hbg, hcb⟩ := k.rd.by_ hx
    have hm := k.len
    go_enter Tryd.func54, Tryd.ntmps54
    go_wp2_with (
      generalize hv : (wrap64 (wrap64 (h * 6364136223846793005) + 1442695040888963407)) = h1
      have k1 := k.seth h1
      have hz : w.grownBy (w.setCell ⟨g, 2, none⟩ (.int .i64 h1)) (some g) := grown_set _ _ _ _
      generalize hw1 : w.setCell ⟨g, 2, none⟩ (.int .i64 h1) = w1 at k1 hz
      obtain ⟨d0, d1, d2, _, _⟩ := k1.cells
      obtain ⟨b', off', e', _, d3⟩ := k1.rd.by_ hx
      obtain ⟨rfl, rfl⟩ : b = b' ∧ off = off' := by simpa using e'
      (have Ed0 := Ups.cell d0; have Ed1 := Ups.cell d1; have Ed2 := Ups.cell d2; have Ed3 := Ups.cell d3; refine wp_region_up (by kernel_rfl) (by kernel_rfl) ?_; (repeat (go_big_quiet_step (fail))); refine wpQuiet_nil ?_; intro wqa hqa; clear Ed0 Ed1 Ed2 Ed3; replace d0 := cellUp d0 hqa; replace d1 := cellUp d1 hqa; replace d2 := cellUp d2 hqa; replace d3 := cellUp d3 hqa))
    have k2 := k1.up hqa
    obtain ⟨x1, hx1, x10, x11⟩ := and255 (bits .xor .i64 (h1 / 34359738368) (h1 / 35184372088832))
    rw [hx1]
    have hacc := Up.rfl' wqa
    go_wp2_with (
      (have Ed0 := Ups.cell d0; have Ed1 := Ups.cell d1; have Ed2 := Ups.cell d2; have Ed3 := Ups.cell d3; refine wp_region_up (by kernel_rfl) (by kernel_rfl) ?_; (repeat (go_big_quiet_step (fail))); refine wpQuiet_nil ?_; intro wqb hqb; clear Ed0 Ed1 Ed2 Ed3; replace d0 := cellUp d0 hqb; replace d1 := cellUp d1 hqb; replace d2 := cellUp d2 hqb; replace d3 := cellUp d3 hqb)
      replace hacc := Up.step hqb hacc
      have fz := (k2.up hacc).cells.2.2.2.1)
    have k3 := k2.up hacc
    obtain ⟨x2, hx2, x20, x21⟩ := and255 (wrap64 (x1 + wrap64 x.v))
    rw [hx2]
    have ei : (i : Int) + 1 = ((i + 1 : Nat) : Int) := by omega
    rw [ei]
    go_ret
    exact ⟨x2, ⟨x20, x21⟩, rfl, ⟨_, _, _, _, k3.seti (i + 1) (by omega)⟩, grown_trans (grown_trans hz (grown_up _ (Up.step hacc hqa))) (grown_set _ _ _ _)⟩
  · go_enter Tryd.func54, Tryd.ntmps54
    go_wp2_with (
      generalize hv : (wrap64 (wrap64 (h * 6364136223846793005) + 1442695040888963407)) = h1
      have k1 := k.seth h1
      have hz : w.grownBy (w.setCell ⟨g, 2, none⟩ (.int .i64 h1)) (some g) := grown_set _ _ _ _
      generalize hw1 : w.setCell ⟨g, 2, none⟩ (.int .i64 h1) = w1 at k1 hz
      obtain ⟨d0, d1, d2, _, _⟩ := k1.cells
      (have Ed0 := Ups.cell d0; have Ed1 := Ups.cell d1; have Ed2 := Ups.cell d2; refine wp_region_up (by kernel_rfl) (by kernel_rfl) ?_; (repeat (go_big_quiet_step (fail))); refine wpQuiet_nil ?_; intro wqa hqa; clear Ed0 Ed1 Ed2; replace d0 := cellUp d0 hqa; replace d1 := cellUp d1 hqa; replace d2 := cellUp d2 hqa))
    have k2 := k1.up hqa
    obtain ⟨x1, hx1, x10, x11⟩ := and255 (bits .xor .i64 (h1 / 34359738368) (h1 / 35184372088832))
    rw [hx1]
    go_wp2_with (
      (have Ed0 := Ups.cell d0; have Ed1 := Ups.cell d1; have Ed2 := Ups.cell d2; refine wp_region_up (by kernel_rfl) (by kernel_rfl) ?_; (repeat (go_big_quiet_step (fail))); refine wpQuiet_nil ?_; intro wqb hqb; clear Ed0 Ed1 Ed2; replace d0 := cellUp d0 hqb; replace d1 := cellUp d1 hqb; replace d2 := cellUp d2 hqb))
    have k3 := k2.up hqb
    go_ret
    exact ⟨x1, ⟨x10, x11⟩, rfl, ⟨_, _, _, _, k3⟩, grown_trans hz (grown_up _ (Up.step hqb hqa))⟩
end Go.Proofs.YtapllnlclgbbkaaDoor

namespace Go.Proofs.YtapllnlclgbbkaaDoor
set_option maxRecDepth 10000
open Go.RowKit
theorem l1Below_any (g : Nat) (xs : List By) (n : Int) (w : World) (hc : Cur w g xs) (hn : n ≤ 1000000000) :
    Calls Tryd.prog 43 #[.pointer (some ⟨g, 0, none⟩), .int .i64 n] w fun e w' => ∃ x : Int, (0 ≤ x ∧ (x < n ∨ x = 0)) ∧ e = .returned (.int .i64 x) ∧ Cur w' g xs ∧ w.grownBy w' (some g) := by
  by_cases h0 : n ≤ 0
  · go_enter Tryd.func43, Tryd.ntmps43
    go_wp2
    go_ret
    exact ⟨0, by omega, rfl, hc, World.grownBy.refl _ _⟩
  · by_cases h1 : n ≤ 256
    · go_enter Tryd.func43, Tryd.ntmps43
      go_wp2_with (go_at_call 54; refine (l1Byte_any g xs _ hc).mono ?_; rintro e w1 ⟨x1, ⟨h1, h2⟩, rfl, hc1, hg1⟩)
      go_ret
      exact ⟨_, ⟨Int.emod_nonneg _ (by omega), Or.inl (Int.emod_lt_of_pos _ (by omega))⟩, rfl, hc1, hg1⟩
    · have hacc : w.grownBy w (some g) := World.grownBy.refl _ _
      go_enter Tryd.func43, Tryd.ntmps43
      go_wp2_with (go_at_call 54; refine (l1Byte_any g xs _ (by assumption)).mono ?_; rintro e wr ⟨xr, ⟨hl, hh⟩, rfl, hcr, hgr⟩; replace hacc := grown_trans hacc hgr)
      go_ret
      exact ⟨_, ⟨Int.emod_nonneg _ (by omega), Or.inl (Int.emod_lt_of_pos _ (by omega))⟩, rfl, by assumption, hacc⟩
theorem l1Once_any (g : Nat) (xs : List By) (n : Int) (w : World) (hc : Cur w g xs) (hn : n ≤ 1000000000) :
    Calls Tryd.prog 42 #[.pointer (some ⟨g, 0, none⟩), .int .i64 n] w fun e w' => ∃ x : Bool, e = .returned (.bool x) ∧ Cur w' g xs ∧ w.grownBy w' (some g) := by
  go_enter Tryd.func42, Tryd.ntmps42
  go_wp2_with (go_at_call 43; refine (l1Below_any g xs _ _ hc (by omega)).mono ?_; rintro e w1 ⟨x1, ⟨h1, h2⟩, rfl, hc1, hg1⟩)
  go_ret
  exact ⟨_, rfl, hc1, hg1⟩
theorem flat_ints (ls : List Int) : flat ls = ls.map I := by
  induction ls with
  | nil => rfl
  | cons x xs ih => rw [flat_cons, ih]; rfl
theorem Rd.lit {w : World} {b E : Nat} (ls : List Int) (h : w.heap[b]? = some (.cells (ls.map I).toArray E (0, 0))) : Rd w w.heap.size (some ⟨b, 0, none⟩) ls := fun _ =>
  ⟨b, 0, rfl, (Array.getElem?_eq_some_iff.1 h).1, fun j u hu => by
    rw [flat_ints] at hu
    rw [Nat.zero_add, cell_of_row w b j _ _ (0, 0) h, List.getElem?_toArray]
    exact hu⟩
theorem l1Int_any (g : Nat) (xs : List By) (A : Option Addr) (ls : List Int) (c n : Nat) (w : World) (hl : n = ls.length) (hc : Cur w g xs) (hr : Rd w w.heap.size A ls) (h1 : 0 < n) (h2 : n ≤ 1000) (hne : A.map Addr.block ≠ some g) :
    Calls Tryd.prog 44 #[.pointer (some ⟨g, 0, none⟩), .slice A n c] w fun e w' => ∃ x : Int, x ∈ ls ∧ e = .returned (.int .i64 x) ∧ Cur w' g xs ∧ w.grownBy w' (some g) := by
  go_enter Tryd.func44, Tryd.ntmps44
  go_wp2_with (
    go_at_call 43
    refine (l1Below_any g xs _ _ hc (by omega)).mono ?_
    rintro e w1 ⟨x1, ⟨h3, h4⟩, rfl, hc1, hg1⟩
    obtain ⟨m, rfl⟩ : ∃ m : Nat, x1 = m := ⟨x1.toNat, by omega⟩
    obtain ⟨x, hx⟩ := get_of_lt (xs := ls) (i := m) (by omega)
    obtain ⟨b, off, rfl, hb, hcb⟩ := hr.int hx
    replace hcb := hg1.cell hcb (fun e => hne e)
    have hmn : m < n := by omega)
  go_ret
  exact ⟨_, List.mem_of_getElem? hx, rfl, hc1, hg1⟩
theorem grown_row {a b : World} {r : Option Nat} {k : Nat} {o : Obj} (h : a.grownBy b r) (ha : a.heap[k]? = some o) (hr : some k ≠ r) : b.heap[k]? = some o :=
  (h.block k (Array.getElem?_eq_some_iff.1 ha).1 hr).trans ha
theorem alloc_get (w : World) (o : Obj) (k : Nat) : (w.alloc o).heap[k]? = if k = w.heap.size then some o else w.heap[k]? := by
  show (w.heap.push o)[k]? = _
  rw [Array.getElem?_push]
theorem alloc_size (w : World) (o : Obj) : (w.alloc o).heap.size = w.heap.size + 1 := by
  show (w.heap.push o).size = _
  simp
def PctOk (ps : List Int) : Prop := ps.length ≤ 6 ∧ ∀ p ∈ ps, 0 ≤ p ∧ p ≤ 100
theorem pctSel {w1 : World} {b0 b1 b2 b3 b4 b5 g E F : Nat} {m : Nat} (hm : m < 5) (h : g < b0 ∧ g < b1 ∧ g < b2 ∧ g < b3 ∧ g < b4)
    (q0 : w1.heap[b0]? = some (.cells #[I 25, I 50, I 100] E (0, 0))) (q1 : w1.heap[b1]? = some (.cells #[I 10] E (0, 0))) (q2 : w1.heap[b2]? = some (.cells #[I 0, I 100] E (0, 0)))
    (q3 : w1.heap[b3]? = some (.cells #[I 0] E (0, 0))) (q4 : w1.heap[b4]? = some (.cells #[I 1, I 1, I 2, I 3, I 50, I 100] E (0, 0)))
    (q5 : w1.heap[b5]? = some (.cells #[.slice (some ⟨b0, 0, none⟩) 3 3, .slice (some ⟨b1, 0, none⟩) 1 1, .slice (some ⟨b2, 0, none⟩) 2 2, .slice (some ⟨b3, 0, none⟩) 1 1, .slice (some ⟨b4, 0, none⟩) 6 6] F (0, 0))) :
    ∃ A, ∃ (ps : List Int), w1.cell? ⟨b5, m, none⟩ = some (.slice A ps.length ps.length) ∧ (Rd w1 w1.heap.size A ps ∧ A.map Addr.block ≠ some g) ∧ PctOk ps := by
  have qc := fun j => cell_of_row w1 b5 j _ _ (0, 0) q5
  match m, hm with
  | 0, _ => exact ⟨_, [25, 50, 100], (qc 0).trans rfl, ⟨Rd.lit _ q0, by simp; omega⟩, by simp [PctOk]⟩
  | 1, _ => exact ⟨_, [10], (qc 1).trans rfl, ⟨Rd.lit _ q1, by simp; omega⟩, by simp [PctOk]⟩
  | 2, _ => exact ⟨_, [0, 100], (qc 2).trans rfl, ⟨Rd.lit _ q2, by simp; omega⟩, by simp [PctOk]⟩
  | 3, _ => exact ⟨_, [0], (qc 3).trans rfl, ⟨Rd.lit _ q3, by simp; omega⟩, by simp [PctOk]⟩
  | 4, _ => exact ⟨_, [1, 1, 2, 3, 50, 100], (qc 4).trans rfl, ⟨Rd.lit _ q4, by simp; omega⟩, by simp [PctOk]⟩
theorem alloc6 (w : World) (o0 o1 o2 o3 o4 o5 : Obj) {w1 : World} {g : Nat} (hlt : g < w.heap.size) (h : ((((((w.alloc o0).alloc o1).alloc o2).alloc o3).alloc o4).alloc o5).grownBy w1 (some g)) :
    w1.heap[w.heap.size]? = some o0 ∧ w1.heap[w.heap.size + 1]? = some o1 ∧ w1.heap[w.heap.size + 1 + 1]? = some o2 ∧ w1.heap[w.heap.size + 1 + 1 + 1]? = some o3 ∧ w1.heap[w.heap.size + 1 + 1 + 1 + 1]? = some o4 ∧ w1.heap[w.heap.size + 1 + 1 + 1 + 1 + 1]? = some o5 := by
  refine ⟨grown_row h ?_ ?_, grown_row h ?_ ?_, grown_row h ?_ ?_, grown_row h ?_ ?_, grown_row h ?_ ?_, grown_row h ?_ ?_⟩
  all_goals first | (simp only [alloc_get, alloc_size]; simp; done) | (simp; omega) | (simp only [alloc_get, alloc_size]; repeat (first | rfl | rw [if_pos rfl] | rw [if_neg (by omega)]))
theorem l11Percents_any (g : Nat) (xs : List By) (w : World) (hc : Cur w g xs) :
    Calls Tryd.prog 53 #[.pointer (some ⟨g, 0, none⟩)] w fun e w' => ∃ (A : Option Addr) (ps : List Int), PctOk ps ∧ e = .returned (.slice A ps.length ps.length) ∧ (Rd w' w'.heap.size A ps ∧ A.map Addr.block ≠ some g) ∧ Cur w' g xs ∧ w.grownBy w' (some g) := by
  have hlt := hc.lt
  go_enter Tryd.func53, Tryd.ntmps53
  go_wp2_with (
    go_at_call 43
    refine (l1Below_any g xs _ _ (hc.up (by (repeat (first | exact Up.rfl' _ | (refine Up.al _ ?_) | (refine Up.dr _ ?_) | (refine Up.dr1 ?_) | (refine Up.sc ?_ (by first | exact Nat.le_refl _ | (simp; done) | omega) _) | (refine Up.step (by assumption) ?_))))) (by omega)).mono ?_
    rintro e w1 ⟨x1, ⟨h3, h4⟩, rfl, hc1, hg1⟩
    obtain ⟨m, rfl⟩ : ∃ m : Nat, x1 = m := ⟨x1.toNat, by omega⟩
    have hm : m < 5 := by omega
    have hg0 : w.grownBy w1 (some g) := grown_trans (grown_up _ (by (repeat (first | exact Up.rfl' _ | (refine Up.al _ ?_) | (refine Up.dr _ ?_) | (refine Up.dr1 ?_) | (refine Up.sc ?_ (by first | exact Nat.le_refl _ | (simp; done) | omega) _) | (refine Up.step (by assumption) ?_))))) hg1
    obtain ⟨q0, q1, q2, q3, q4, q5⟩ := alloc6 w _ _ _ _ _ _ hlt hg1
    obtain ⟨A, ps, hcell, hrd, hok⟩ := pctSel (g := g) hm ⟨by omega, by omega, by omega, by omega, by omega⟩ q0 q1 q2 q3 q4 q5)
  go_ret
  exact ⟨_, _, hok, rfl, hrd, hc1, hg0⟩
end Go.Proofs.YtapllnlclgbbkaaDoor

namespace Go.Proofs.YtapllnlclgbbkaaDoor
set_option maxRecDepth 10000
open Go.RowKit
theorem l1New_any (A : Option Addr) (xs : List By) (c n : Nat) (w : World) (hl : n = xs.length) (hr : Rd w w.heap.size A xs) (hok : ∀ x ∈ xs, ByOk x) (h : n ≤ 4096) :
    Calls Tryd.prog 29 #[.slice A n c] w fun e w' => ∃ g, e = .returned (.pointer (some ⟨g, 0, none⟩)) ∧ (w.heap.size ≤ g ∧ Cur w' g xs) ∧ Up w w' := by
  subst hl
  go_enter Tryd.func29, Tryd.ntmps29
  go_wp2
  generalize 744201 + 3 * (xs.length : Int) = h0
  go_loopw [3, 4] (fun hv i wr => ∃ (j : Nat) (h1 : Int), j ≤ xs.length ∧ hv = .int .i64 h1 ∧ i = .int .i64 j ∧ Up w wr) (fun hv i _ => xs.length - (intOf i).toNat)
  case atStart => exact ⟨0, h0, by omega, rfl, rfl, Up.rfl' _⟩
  case round =>
    obtain ⟨j, h1, hj, rfl, rfl, hb⟩ := hrel
    by_cases hlt : j < xs.length
    · by_cases h4 : (j : Int) < 4000
      · obtain ⟨x, gx⟩ := get_of_lt hlt
        obtain ⟨b, off, rfl, hbb, c0⟩ := (hr.below hb).by_ gx
        clear gx
        go_wp2
        exact ⟨⟨j + 1, _, by omega, rfl, by go_num, by (repeat (first | exact Up.rfl' _ | (refine Up.al _ ?_) | (refine Up.dr _ ?_) | (refine Up.dr1 ?_) | (refine Up.sc ?_ (by first | exact Nat.le_refl _ | (simp; done) | omega) _) | (refine Up.step (by assumption) ?_)))⟩, by simp [intOf]; omega⟩
      · go_wp2
        go_ret
        exact ⟨_, rfl, ⟨hb.size, _, _, 0, h1, heap_alloc_new _ _, by omega, (hr.up hb).below (by (repeat (first | exact Up.rfl' _ | (refine Up.al _ ?_) | (refine Up.dr _ ?_) | (refine Up.dr1 ?_) | (refine Up.sc ?_ (by first | exact Nat.le_refl _ | (simp; done) | omega) _) | (refine Up.step (by assumption) ?_)))), hok, h⟩, by (repeat (first | exact Up.rfl' _ | (refine Up.al _ ?_) | (refine Up.dr _ ?_) | (refine Up.dr1 ?_) | (refine Up.sc ?_ (by first | exact Nat.le_refl _ | (simp; done) | omega) _) | (refine Up.step (by assumption) ?_)))⟩
    · go_wp2
      go_ret
      exact ⟨_, rfl, ⟨hb.size, _, _, 0, h1, heap_alloc_new _ _, by omega, (hr.up hb).below (by (repeat (first | exact Up.rfl' _ | (refine Up.al _ ?_) | (refine Up.dr _ ?_) | (refine Up.dr1 ?_) | (refine Up.sc ?_ (by first | exact Nat.le_refl _ | (simp; done) | omega) _) | (refine Up.step (by assumption) ?_)))), hok, h⟩, by (repeat (first | exact Up.rfl' _ | (refine Up.al _ ?_) | (refine Up.dr _ ?_) | (refine Up.dr1 ?_) | (refine Up.sc ?_ (by first | exact Nat.le_refl _ | (simp; done) | omega) _) | (refine Up.step (by assumption) ?_)))⟩
theorem big_any (A : Option Addr) (c n : Nat) (w : World) (h : n ≤ 9223372036854775807) :
    Calls Tryd.prog 10 #[.slice A n c] w fun e w' => e = .returned (.bool (decide (4096 < n))) ∧ w = w' := by
  by_cases h1 : 4096 < n
  all_goals
    go_enter Tryd.func10, Tryd.ntmps10
    go_wp2
    go_ret
    exact ⟨by simp; omega, rfl⟩
theorem up_grown {a b c : World} {g : Nat} (h : Up a b) (k : b.grownBy c (some g)) (hg : a.heap.size ≤ g) : Up a c :=
  Below.grown h k h.size (fun r e => by cases e; exact hg)
end Go.Proofs.YtapllnlclgbbkaaDoor

namespace Go.Proofs.YtapllnlclgbbkaaDoor
set_option maxRecDepth 10000
open Go.RowKit
theorem max_any (a b : Int) (w : World) :
    Calls Tryd.prog 51 #[.int .i64 a, .int .i64 b] w fun e w' => (∃ x : Int, e = .returned (.int .i64 x)) ∧ w = w' := by
  by_cases h : a < b
  all_goals
    go_enter Tryd.func51, Tryd.ntmps51
    go_wp2
    go_ret
    exact ⟨⟨_, rfl⟩, rfl⟩
theorem own_cur {α : Type} [Enc α] {w w' : World} {B E g : Nat} {v : Value} {xs : List α} (ho : Own w B E v xs) (hg : w.grownBy w' (some g)) (hlt : g < B) : Own w' B E v xs := by
  refine ho.grown hg ?_
  cases hb : v.ownBlock with
  | none => exact .inl rfl
  | some k =>
    refine .inr fun e => ?_
    have h1 := (World.ownsRow.lt ho k hb).1
    cases e
    omega
/-- A list of lines that is the call's own, as_ the draws keep it. -/
def OwnL (w : World) (B : Nat) (v : Value) (m : Nat) : Prop := ∃ xs : List Ln, Own w B 34 v xs ∧ xs.length ≤ m
set_option maxHeartbeats 1000000 in
theorem l11Draw_any (g : Nat) (cs : List By) (n : Int) (w : World) (hc : Cur w g cs) (hn : n ≤ 1000) :
    Calls Tryd.prog 41 #[.pointer (some ⟨g, 0, none⟩), .int .i64 n] w fun e w' => ∃ v, e = .returned v ∧ OwnL w' w.heap.size v 4000 ∧ Cur w' g cs ∧ w.grownBy w' (some g) := by
  have hlt := hc.lt
  go_enter Tryd.func41, Tryd.ntmps41
  go_wp2_with fail
  refine (l1Below_any g cs _ _ (hc.up (by (repeat (first | exact Up.rfl' _ | (refine Up.al _ ?_) | (refine Up.dr _ ?_) | (refine Up.dr1 ?_) | (refine Up.sc ?_ (by first | exact Nat.le_refl _ | (simp; done) | omega) _) | (refine Up.step (by assumption) ?_))))) (by omega)).mono ?_
  rintro e w1 ⟨x1, ⟨h3, h4⟩, rfl, hc1, hg1⟩
  obtain ⟨k0, rfl⟩ : ∃ m : Nat, x1 = m := ⟨x1.toNat, by omega⟩
  go_wp2_with fail
  have hac0 : w.grownBy w1 (some g) := grown_trans (grown_up _ (by (repeat (first | exact Up.rfl' _ | (refine Up.al _ ?_) | (refine Up.dr _ ?_) | (refine Up.dr1 ?_) | (refine Up.sc ?_ (by first | exact Nat.le_refl _ | (simp; done) | omega) _) | (refine Up.step (by assumption) ?_))))) hg1
  have ho0 : Own w1 w.heap.size 34 (.slice (some ⟨w.heap.size, 0, none⟩) 0 0) ([] : List Ln) := own_cur (Own.empty w _ _ 0 _ (Nat.le_refl _) (by unfold maxLen; omega) rfl) hg1 hlt
  have hk0 : k0 ≤ 1000 := by omega
  clear hg1 hc h3 h4
  go_loopw [5, 6, 7] (fun v a k wr => ∃ (j : Nat) (xs : List Ln) (t : Int), j ≤ k0 ∧ k = .int .i64 j ∧ a = .int .i64 t ∧ Own wr w.heap.size 34 v xs ∧ xs.length ≤ 2 * (k0 - j) ∧ Cur wr g cs ∧ w.grownBy wr (some g)) (fun _ _ k _ => (intOf k).toNat)
  case atStart => exact ⟨k0, [], 0, Nat.le_refl _, rfl, rfl, ho0, by simp, hc1, hac0⟩
  case round =>
    obtain ⟨j, xs, t, hj, rfl, rfl, ho, hxl, hcr, hac⟩ := hrel
    obtain ⟨A, c, rfl, hxc, _⟩ := ho.form
    by_cases hj0 : 0 < j
    · go_wp2_with fail
      refine (l1Below_any g cs _ _ hcr (by omega)).mono ?_
      rintro e w2 ⟨x2, ⟨_, _⟩, rfl, hc2, hg2⟩
      replace ho := own_cur ho hg2 hlt
      replace hac := grown_trans hac hg2
      go_wp2_with fail
      refine (l1Below_any g cs _ _ hc2 (by omega)).mono ?_
      rintro e w3 ⟨x3, ⟨_, _⟩, rfl, hc3, hg3⟩
      replace ho := own_cur ho hg3 hlt
      replace hac := grown_trans hac hg3
      go_wp2_with fail
      refine (l1Below_any g cs _ _ hc3 (by omega)).mono ?_
      rintro e w4 ⟨x4, ⟨_, _⟩, rfl, hc4, hg4⟩
      replace ho := own_cur ho hg4 hlt
      replace hac := grown_trans hac hg4
      obtain rfl | rfl | rfl | rfl : x4 = 0 ∨ x4 = 1 ∨ x4 = 2 ∨ x4 = 3 := by omega
      · go_wp2_with fail
        refine (l1Below_any g cs _ _ hc4 (by omega)).mono ?_
        rintro e w5 ⟨x5, ⟨_, _⟩, rfl, hc5, hg5⟩
        replace ho := own_cur ho hg5 hlt
        replace hac := grown_trans hac hg5
        go_wp2_with fail
        refine (chargeOrder_spec A xs _ c (1 + x3) (100 + x5) _ _ ho.rd rfl hxc (by omega)).mono ?_
        rintro e w6 ⟨v6, rfl, ho6, hb6⟩
        have hl6 := chargeV_len xs (1 + x3) (100 + x5) (wrap64 (t + 100 * x2))
        have hB6 := hac.size
        replace ho6 := ho6.more hB6
        replace hac := grown_trans hac (grown_up _ hb6)
        have hc6 := hc5.up hb6
        generalize chargeV xs (1 + x3) (100 + x5) (wrap64 (t + 100 * x2)) = p6 at ho6 hl6
        obtain ⟨ys6, r6⟩ := p6
        simp only [] at ho6 hl6
        obtain ⟨A6, c6, rfl, hxc6, _⟩ := ho6.form
        go_wp2_with fail
        refine (l1Below_any g cs _ _ hc6 (by omega)).mono ?_
        rintro e w7 ⟨x7, ⟨_, _⟩, rfl, hc7, hg7⟩
        replace ho6 := own_cur ho6 hg7 hlt
        replace hac := grown_trans hac hg7
        go_wp2_with fail
        refine (payOrder_spec A6 ys6 _ c6 (1 + x3) (100 + 50 * x7) _ _ ho6.rd rfl hxc6 (by omega)).mono ?_
        rintro e w8 ⟨v8, rfl, ho8, hb8⟩
        have hl8 := payV_len ys6 (1 + x3) (100 + 50 * x7) (wrap64 (t + 100 * x2))
        have hB8 := hac.size
        replace ho8 := ho8.more hB8
        replace hac := grown_trans hac (grown_up _ hb8)
        have hc8 := hc7.up hb8
        generalize payV ys6 (1 + x3) (100 + 50 * x7) (wrap64 (t + 100 * x2)) = p8 at ho8 hl8
        obtain ⟨ys8, r8⟩ := p8
        simp only [] at ho8 hl8
        obtain ⟨A8, c8, rfl, hxc8, _⟩ := ho8.form
        go_wp2_with fail
        exact ⟨⟨j - 1, ys8, _, by omega, by congr 1; omega, rfl, ho8, by omega, hc8, hac⟩, by simp [intOf]; omega⟩
      · go_wp2_with fail
        refine (l1Below_any g cs _ _ hc4 (by omega)).mono ?_
        rintro e w5 ⟨x5, ⟨_, _⟩, rfl, hc5, hg5⟩
        replace ho := own_cur ho hg5 hlt
        replace hac := grown_trans hac hg5
        go_wp2_with fail
        refine (chargeOrder_spec A xs _ c (1 + x3) (100 + x5) _ _ ho.rd rfl hxc (by omega)).mono ?_
        rintro e w6 ⟨v6, rfl, ho6, hb6⟩
        have hl6 := chargeV_len xs (1 + x3) (100 + x5) (wrap64 (t + 100 * x2))
        have hB6 := hac.size
        replace ho6 := ho6.more hB6
        replace hac := grown_trans hac (grown_up _ hb6)
        have hc6 := hc5.up hb6
        generalize chargeV xs (1 + x3) (100 + x5) (wrap64 (t + 100 * x2)) = p6 at ho6 hl6
        obtain ⟨ys6, r6⟩ := p6
        simp only [] at ho6 hl6
        obtain ⟨A6, c6, rfl, hxc6, _⟩ := ho6.form
        go_wp2_with fail
        refine (l1Below_any g cs _ _ hc6 (by omega)).mono ?_
        rintro e w7 ⟨x7, ⟨_, _⟩, rfl, hc7, hg7⟩
        replace ho6 := own_cur ho6 hg7 hlt
        replace hac := grown_trans hac hg7
        go_wp2_with fail
        refine (payOrder_spec A6 ys6 _ c6 (1 + x3) (100 + 50 * x7) _ _ ho6.rd rfl hxc6 (by omega)).mono ?_
        rintro e w8 ⟨v8, rfl, ho8, hb8⟩
        have hl8 := payV_len ys6 (1 + x3) (100 + 50 * x7) (wrap64 (t + 100 * x2))
        have hB8 := hac.size
        replace ho8 := ho8.more hB8
        replace hac := grown_trans hac (grown_up _ hb8)
        have hc8 := hc7.up hb8
        generalize payV ys6 (1 + x3) (100 + 50 * x7) (wrap64 (t + 100 * x2)) = p8 at ho8 hl8
        obtain ⟨ys8, r8⟩ := p8
        simp only [] at ho8 hl8
        obtain ⟨A8, c8, rfl, hxc8, _⟩ := ho8.form
        go_wp2_with fail
        exact ⟨⟨j - 1, ys8, _, by omega, by congr 1; omega, rfl, ho8, by omega, hc8, hac⟩, by simp [intOf]; omega⟩
      · go_wp2_with fail
        refine (owedFor_spec A xs _ c (1 + x3) _ ho.rd rfl hxc (by omega)).mono ?_
        rintro e w5 ⟨rfl, hb5⟩
        replace ho := ho.up hb5
        replace hac := grown_trans hac (grown_up _ hb5)
        have hc5 := hc4.up hb5
        have hlt5 := hc5.lt
        go_wp2_with fail
        refine (l1Int_any g cs _ [0, 0, 1] _ _ _ rfl (hc5.up (by (repeat (first | exact Up.rfl' _ | (refine Up.al _ ?_) | (refine Up.dr _ ?_) | (refine Up.dr1 ?_) | (refine Up.sc ?_ (by first | exact Nat.le_refl _ | (simp; done) | omega) _) | (refine Up.step (by assumption) ?_))))) (Rd.lit _ (heap_alloc_new _ _)) (by simp) (by simp) (by simp; omega)).mono ?_
        rintro e w6 ⟨x6, hm6, rfl, hc6, hg6⟩
        have hg6 : w5.grownBy w6 (some g) := grown_trans (grown_up _ (by (repeat (first | exact Up.rfl' _ | (refine Up.al _ ?_) | (refine Up.dr _ ?_) | (refine Up.dr1 ?_) | (refine Up.sc ?_ (by first | exact Nat.le_refl _ | (simp; done) | omega) _) | (refine Up.step (by assumption) ?_))))) hg6
        replace ho := own_cur ho hg6 hlt
        replace hac := grown_trans hac hg6
        go_wp2_with fail
        refine (max_any _ _ _).mono ?_
        rintro e w7 ⟨⟨x7, rfl⟩, rfl⟩
        go_wp2_with fail
        refine (payOrder_spec A xs _ c (1 + x3) x7 _ _ ho.rd rfl hxc (by omega)).mono ?_
        rintro e w8 ⟨v8, rfl, ho8, hb8⟩
        have hl8 := payV_len xs (1 + x3) x7 (wrap64 (t + 100 * x2))
        have hB8 := hac.size
        replace ho8 := ho8.more hB8
        replace hac := grown_trans hac (grown_up _ hb8)
        have hc8 := hc6.up hb8
        generalize payV xs (1 + x3) x7 (wrap64 (t + 100 * x2)) = p8 at ho8 hl8
        obtain ⟨ys8, r8⟩ := p8
        simp only [] at ho8 hl8
        obtain ⟨A8, c8, rfl, hxc8, _⟩ := ho8.form
        go_wp2_with fail
        exact ⟨⟨j - 1, ys8, _, by omega, by congr 1; omega, rfl, ho8, by omega, hc8, hac⟩, by simp [intOf]; omega⟩
      · go_wp2_with fail
        refine (l1Below_any g cs _ _ hc4 (by omega)).mono ?_
        rintro e w5 ⟨x5, ⟨_, _⟩, rfl, hc5, hg5⟩
        replace ho := own_cur ho hg5 hlt
        replace hac := grown_trans hac hg5
        go_wp2_with fail
        refine (l11Percents_any g cs _ hc5).mono ?_
        rintro e w6 ⟨P, ps, hok6, rfl, ⟨hp6, _⟩, hc6, hg6⟩
        have hpl := hok6.1
        replace ho := own_cur ho hg6 hlt
        replace hac := grown_trans hac hg6
        go_wp2_with fail
        refine (refundOrder_spec A xs _ c (1 + x3) 0 (1440 * x5) P ps _ _ _ ho.rd rfl hxc (by omega) hp6 (by omega)).mono ?_
        rintro e w7 ⟨v7, rfl, ho7, hb7⟩
        have hl7 := refundO_len xs (1 + x3) 0 (1440 * x5) ps (wrap64 (t + 100 * x2))
        have hB7 := hac.size
        replace ho7 := ho7.more hB7
        replace hac := grown_trans hac (grown_up _ hb7)
        have hc7 := hc6.up hb7
        generalize refundO xs (1 + x3) 0 (1440 * x5) ps (wrap64 (t + 100 * x2)) = p7 at ho7 hl7
        obtain ⟨ys7, r7⟩ := p7
        simp only [] at ho7 hl7
        obtain ⟨A7, c7, rfl, hxc7, _⟩ := ho7.form
        go_wp2_with fail
        exact ⟨⟨j - 1, ys7, _, by omega, by congr 1; omega, rfl, ho7, by omega, hc7, hac⟩, by simp [intOf]; omega⟩
    · go_wp2_with fail
      go_ret
      exact ⟨_, rfl, ⟨xs, ho, by omega⟩, hcr, hac⟩
end Go.Proofs.YtapllnlclgbbkaaDoor

namespace Go.Proofs.YtapllnlclgbbkaaDoor
set_option maxRecDepth 10000
open Go.RowKit
theorem Cur.kept {w w' : World} {g : Nat} {xs : List By} {r : Option Nat} (h : Cur w g xs) (hg : w.grownBy w' r) (hr : ∀ k, r = some k → g < k) : Cur w' g xs := by
  obtain ⟨A, c, i, x, k⟩ := h
  have hlt := k.lt
  refine ⟨A, c, i, x, ⟨(hg.block g hlt (fun e => by have := hr g e.symm; omega)).trans k.heap, k.i1, k.rd.keep fun b o hb => ?_, k.ok, k.len⟩⟩
  simp only [World.cell?]
  rw [hg.block b (Nat.lt_trans hb hlt) (fun e => by have := hr b e.symm; omega)]
theorem grown_new {a b c : World} {r s : Option Nat} (h : a.grownBy b r) (k : b.grownBy c s) (hs : ∀ p, s = some p → a.heap.size ≤ p) : a.grownBy c r :=
  ⟨k.os.trans h.os, k.tape.trans h.tape, k.output.trans h.output, Nat.le_trans h.size k.size, fun i hi hr => (k.block i (Nat.lt_of_lt_of_le hi h.size) (fun e => by have := hs i e.symm; omega)).trans (h.block i hi hr)⟩
theorem flat_set {α : Type} [Enc α] {x x' : α} {u : Value} {j : Nat} (hj : j < Enc.k α) (he : Enc.cells x' = (Enc.cells x).set j u) : ∀ {xs : List α} {i : Nat}, xs[i]? = some x → flat (xs.set i x') = (flat xs).set (i * Enc.k α + j) u
  | [], i, h => by simp at h
  | y :: ys, 0, h => by
    obtain rfl : y = x := by simpa using h
    rw [List.set_cons_zero, flat_cons, flat_cons, he, Nat.zero_mul, Nat.zero_add, List.set_append_left _ _ (by rw [Enc.len]; exact hj)]
  | y :: ys, i + 1, h => by
    have ih := flat_set hj he (xs := ys) (i := i) (by simpa using h)
    rw [List.set_cons_succ, flat_cons, flat_cons, ih, List.set_append_right _ _ (by rw [Enc.len, Nat.succ_mul]; omega)]
    congr 2
    rw [Enc.len, Nat.succ_mul]
    omega
theorem own_set {w : World} {B E p n c k : Nat} {xs : List Ln} {x : Ln} (ho : Own w B E (.slice (some ⟨p, 0, none⟩) n c) xs) (hn : n = xs.length) (hx : xs[k]? = some x) (j : Nat) (hj : j < 4) (v : Int) :
    ∃ ys : List Ln, ys.length = xs.length ∧ Own (w.setCell ⟨p, k * 4 + j, none⟩ (.int .i64 v)) B E (.slice (some ⟨p, 0, none⟩) n c) ys := by
  subst hn
  have key : ∀ x' : Ln, Enc.cells x' = (Enc.cells x).set j (I v) → ∃ ys : List Ln, ys.length = xs.length ∧ Own (w.setCell ⟨p, k * 4 + j, none⟩ (.int .i64 v)) B E (.slice (some ⟨p, 0, none⟩) xs.length c) ys := by
    intro x' he
    refine ⟨xs.set k x', by simp, ?_⟩
    have h1 := (World.ownsRow.stored ho (k * 4 + j) (I v)).1
    unfold Own
    rw [List.length_set, flat_set (show j < Enc.k Ln from hj) he hx]
    exact h1
  match j, hj with
  | 0, _ => exact key ⟨v, x.k, x.a, x.t⟩ rfl
  | 1, _ => exact key ⟨x.o, v, x.a, x.t⟩ rfl
  | 2, _ => exact key ⟨x.o, x.k, v, x.t⟩ rfl
  | 3, _ => exact key ⟨x.o, x.k, x.a, v⟩ rfl
theorem flat_drop {α : Type} [Enc α] : ∀ (xs : List α) (n : Nat), flat (xs.drop n) = (flat xs).drop (n * Enc.k α)
  | xs, 0 => by simp
  | [], n + 1 => by simp [flat]
  | x :: xs, n + 1 => by
    have hl := Enc.len (α := α) x
    rw [List.drop_succ_cons, flat_drop xs n, flat_cons, List.drop_append, List.drop_of_length_le (l := Enc.cells x) (by rw [hl, Nat.succ_mul]; omega), List.nil_append, hl]
    congr 1
    rw [Nat.succ_mul]
    omega
theorem Rd.dropk {α : Type} [Enc α] {w : World} {B g o : Nat} {xs : List α} (h : Rd w B (some ⟨g, o, none⟩) xs) (n : Nat) : Rd w B (some ⟨g, o + n * Enc.k α, none⟩) (xs.drop n) := fun hn => by
  obtain ⟨b, off, e, hb, hc⟩ := h (by rintro rfl; simp at hn)
  obtain ⟨rfl, rfl⟩ : g = b ∧ o = off := by simpa using e
  refine ⟨g, o + n * Enc.k α, rfl, hb, fun j u hu => ?_⟩
  rw [flat_drop, List.getElem?_drop] at hu
  rw [Nat.add_assoc]
  exact hc _ u hu
theorem Own.takek {α : Type} [Enc α] {w : World} {B E p n c : Nat} {xs : List α} (h : Own w B E (.slice (some ⟨p, 0, none⟩) n c) xs) (k : Nat) (hk : k ≤ xs.length) : Own w B E (.slice (some ⟨p, 0, none⟩) k c) (xs.take k) := by
  rcases h.2 with ⟨h0, _⟩ | ⟨g, cap, cur, hv, hB, hg, hnc, hcm, hcs, ht⟩
  · cases h0
  · have e1 : (xs.take k).length = k := by simp; omega
    refine ⟨flat_len _, .inr ⟨g, cap, cur, ?_, hB, hg, by omega, hcm, hcs, ?_⟩⟩
    · rw [e1]
      injection hv with h1 h2 h3
      rw [h1, h3]
    · rw [e1, ← flat_take]
      have h2 : cur.toList.take (k * Enc.k α) = (cur.toList.take (xs.length * Enc.k α)).take (k * Enc.k α) := by
        rw [List.take_take, Nat.min_eq_left (Nat.mul_le_mul_right _ hk)]
      rw [h2, ht]
set_option maxHeartbeats 1000000 in
theorem l11Any_any (g : Nat) (cs : List By) (w : World) (hc : Cur w g cs) :
    Calls Tryd.prog 28 #[.pointer (some ⟨g, 0, none⟩)] w fun e w' => ∃ v, e = .returned v ∧ OwnL w' w.heap.size v 4001 ∧ Cur w' g cs ∧ w.grownBy w' (some g) := by
  have hlt := hc.lt
  go_enter Tryd.func28, Tryd.ntmps28
  go_wp2_with fail
  refine (l11Draw_any g cs _ _ hc (by omega)).mono ?_
  rintro e w1 ⟨v1, rfl, ⟨xs, ho, hxl⟩, hc1, hac⟩
  by_cases hx0 : xs.length = 0
  · obtain ⟨A, c, rfl, _, _⟩ := ho.form
    have ho' := ho
    rw [hx0] at ho'
    go_wp2_with fail
    go_ret
    exact ⟨_, rfl, ⟨xs, ho', by omega⟩, hc1, hac⟩
  · obtain ⟨p, c, rfl, hB, hpl⟩ := World.ownsRow.form ho (by omega)
    go_wp2_with fail
    refine (l1Once_any g cs _ _ hc1 (by omega)).mono ?_
    rintro e w2 ⟨x2, rfl, hc2, hg2⟩
    replace ho := own_cur ho hg2 hlt
    replace hac := grown_trans hac hg2
    cases x2
    · go_wp2_with fail
      refine (l1Below_any g cs _ _ hc2 (by omega)).mono ?_
      rintro e w3 ⟨x3, ⟨_, _⟩, rfl, hc3, hg3⟩
      replace ho := own_cur ho hg3 hlt
      replace hac := grown_trans hac hg3
      obtain ⟨k, rfl⟩ : ∃ m : Nat, x3 = m := ⟨x3.toNat, by omega⟩
      have hk : k < xs.length := by omega
      go_wp2_with fail
      refine (l1Below_any g cs _ _ hc3 (by omega)).mono ?_
      rintro e w4 ⟨x4, ⟨_, _⟩, rfl, hc4, hg4⟩
      replace ho := own_cur ho hg4 hlt
      replace hac := grown_trans hac hg4
      obtain ⟨x, hx⟩ := get_of_lt hk
      obtain ⟨_, _, e5, _, d0, d1, d2, d3⟩ := ho.rd.ln hx
      obtain ⟨rfl, rfl⟩ := (by simpa using e5 : p = _ ∧ 0 = _)
      clear e5
      simp only [Nat.zero_add] at d0 d1 d2 d3
      obtain rfl | rfl | rfl | rfl | rfl | rfl : x4 = 0 ∨ x4 = 1 ∨ x4 = 2 ∨ x4 = 3 ∨ x4 = 4 ∨ x4 = 5 := by omega
      · go_wp2_with fail
        refine (l1Int_any g cs _ [0, 1, 100000, 100001, wrap64 (x.a + 1)] _ _ _ rfl (hc4.up (by (repeat (first | exact Up.rfl' _ | (refine Up.al _ ?_) | (refine Up.dr _ ?_) | (refine Up.dr1 ?_) | (refine Up.sc ?_ (by first | exact Nat.le_refl _ | (simp; done) | omega) _) | (refine Up.step (by assumption) ?_))))) (Rd.lit _ (heap_alloc_new _ _)) (by simp) (by simp) (by simp; omega)).mono ?_
        rintro e w5 ⟨x5, _, rfl, hc5, hg5⟩
        replace hg5 : w4.grownBy w5 (some g) := grown_trans (grown_up _ (by (repeat (first | exact Up.rfl' _ | (refine Up.al _ ?_) | (refine Up.dr _ ?_) | (refine Up.dr1 ?_) | (refine Up.sc ?_ (by first | exact Nat.le_refl _ | (simp; done) | omega) _) | (refine Up.step (by assumption) ?_))))) hg5
        replace ho := own_cur ho hg5 hlt
        replace hac := grown_trans hac hg5
        clear d0 d1 d2 d3
        obtain ⟨_, _, e6, _, d0, d1, d2, d3⟩ := ho.rd.ln hx
        obtain ⟨rfl, rfl⟩ := (by simpa using e6 : p = _ ∧ 0 = _)
        clear e6
        simp only [Nat.zero_add] at d0 d1 d2 d3
        have f0 := World.ownsRow.frozenAt ho (k * 4 + 2)
        go_wp2_with fail
        go_ret
        obtain ⟨ys, hyl, hoy⟩ := own_set ho rfl hx 2 (by omega) x5
        exact ⟨_, rfl, ⟨ys, hoy, by omega⟩, hc5.kept (grown_set _ _ _ _) (fun q e => by cases e; omega), grown_new hac (grown_set _ _ _ _) (fun q e => by cases e; omega)⟩
      · go_wp2_with fail
        refine (l1Int_any g cs _ [-1, 0, 100000, 100001] _ _ _ rfl (hc4.up (by (repeat (first | exact Up.rfl' _ | (refine Up.al _ ?_) | (refine Up.dr _ ?_) | (refine Up.dr1 ?_) | (refine Up.sc ?_ (by first | exact Nat.le_refl _ | (simp; done) | omega) _) | (refine Up.step (by assumption) ?_))))) (Rd.lit _ (heap_alloc_new _ _)) (by simp) (by simp) (by simp; omega)).mono ?_
        rintro e w5 ⟨x5, _, rfl, hc5, hg5⟩
        replace hg5 : w4.grownBy w5 (some g) := grown_trans (grown_up _ (by (repeat (first | exact Up.rfl' _ | (refine Up.al _ ?_) | (refine Up.dr _ ?_) | (refine Up.dr1 ?_) | (refine Up.sc ?_ (by first | exact Nat.le_refl _ | (simp; done) | omega) _) | (refine Up.step (by assumption) ?_))))) hg5
        replace ho := own_cur ho hg5 hlt
        replace hac := grown_trans hac hg5
        clear d0 d1 d2 d3
        obtain ⟨_, _, e6, _, d0, d1, d2, d3⟩ := ho.rd.ln hx
        obtain ⟨rfl, rfl⟩ := (by simpa using e6 : p = _ ∧ 0 = _)
        clear e6
        simp only [Nat.zero_add] at d0 d1 d2 d3
        have f0 := World.ownsRow.frozenAt ho (k * 4 + 3)
        go_wp2_with fail
        go_ret
        obtain ⟨ys, hyl, hoy⟩ := own_set ho rfl hx 3 (by omega) x5
        exact ⟨_, rfl, ⟨ys, hoy, by omega⟩, hc5.kept (grown_set _ _ _ _) (fun q e => by cases e; omega), grown_new hac (grown_set _ _ _ _) (fun q e => by cases e; omega)⟩
      · go_wp2_with fail
        refine (l1Below_any g cs _ _ hc4 (by omega)).mono ?_
        rintro e w5 ⟨x5, ⟨_, _⟩, rfl, hc5, hg5⟩
        replace ho := own_cur ho hg5 hlt
        replace hac := grown_trans hac hg5
        clear d0 d1 d2 d3
        obtain ⟨_, _, e6, _, d0, d1, d2, d3⟩ := ho.rd.ln hx
        obtain ⟨rfl, rfl⟩ := (by simpa using e6 : p = _ ∧ 0 = _)
        clear e6
        simp only [Nat.zero_add] at d0 d1 d2 d3
        have f0 := World.ownsRow.frozenAt ho (k * 4 + 1)
        go_wp2_with fail
        go_ret
        obtain ⟨ys, hyl, hoy⟩ := own_set ho rfl hx 1 (by omega) x5
        exact ⟨_, rfl, ⟨ys, hoy, by omega⟩, hc5.kept (grown_set _ _ _ _) (fun q e => by cases e; omega), grown_new hac (grown_set _ _ _ _) (fun q e => by cases e; omega)⟩
      · go_wp2_with fail
        refine (l1Int_any g cs _ [0, 1, 9999, 10000] _ _ _ rfl (hc4.up (by (repeat (first | exact Up.rfl' _ | (refine Up.al _ ?_) | (refine Up.dr _ ?_) | (refine Up.dr1 ?_) | (refine Up.sc ?_ (by first | exact Nat.le_refl _ | (simp; done) | omega) _) | (refine Up.step (by assumption) ?_))))) (Rd.lit _ (heap_alloc_new _ _)) (by simp) (by simp) (by simp; omega)).mono ?_
        rintro e w5 ⟨x5, _, rfl, hc5, hg5⟩
        replace hg5 : w4.grownBy w5 (some g) := grown_trans (grown_up _ (by (repeat (first | exact Up.rfl' _ | (refine Up.al _ ?_) | (refine Up.dr _ ?_) | (refine Up.dr1 ?_) | (refine Up.sc ?_ (by first | exact Nat.le_refl _ | (simp; done) | omega) _) | (refine Up.step (by assumption) ?_))))) hg5
        replace ho := own_cur ho hg5 hlt
        replace hac := grown_trans hac hg5
        clear d0 d1 d2 d3
        obtain ⟨_, _, e6, _, d0, d1, d2, d3⟩ := ho.rd.ln hx
        obtain ⟨rfl, rfl⟩ := (by simpa using e6 : p = _ ∧ 0 = _)
        clear e6
        simp only [Nat.zero_add] at d0 d1 d2 d3
        have f0 := World.ownsRow.frozenAt ho (k * 4 + 0)
        rw [Nat.add_zero] at f0
        go_wp2_with fail
        go_ret
        obtain ⟨ys, hyl, hoy⟩ := own_set ho rfl hx 0 (by omega) x5
        exact ⟨_, rfl, ⟨ys, hoy, by omega⟩, hc5.kept (grown_set _ _ _ _) (fun q e => by cases e; omega), grown_new hac (grown_set _ _ _ _) (fun q e => by cases e; omega)⟩
      · go_wp2_with (at_builtin; go_must (refine wpList_append_rd el_line rfl (.tmp 72) (.tmp 77) rfl (base := w.heap.size) (ys := xs) (xs := [x]) (by rfl) (ho.up (by (repeat (first | exact Up.rfl' _ | (refine Up.al _ ?_) | (refine Up.dr _ ?_) | (refine Up.dr1 ?_) | (refine Up.sc ?_ (by first | exact Nat.le_refl _ | (simp; done) | omega) _) | (refine Up.step (by assumption) ?_))))) 1 (by rfl) rfl (Rd.oneAt _ _ x _ (by simp)) (by simp; omega) (by unfold maxLen; simp; omega) (by have h_ := hac.size; simp; omega) ?_); intro v5 w5 ho5 hg5 _ _)
        go_ret
        exact ⟨_, rfl, ⟨_, ho5, by simp; omega⟩, (hc4.up (by (repeat (first | exact Up.rfl' _ | (refine Up.al _ ?_) | (refine Up.dr _ ?_) | (refine Up.dr1 ?_) | (refine Up.sc ?_ (by first | exact Nat.le_refl _ | (simp; done) | omega) _) | (refine Up.step (by assumption) ?_))))).kept hg5 (fun q e => by have h_ : p = q := (by simpa [Value.ownBlock] using e); omega), grown_new (grown_trans hac (grown_up _ (by (repeat (first | exact Up.rfl' _ | (refine Up.al _ ?_) | (refine Up.dr _ ?_) | (refine Up.dr1 ?_) | (refine Up.sc ?_ (by first | exact Nat.le_refl _ | (simp; done) | omega) _) | (refine Up.step (by assumption) ?_)))))) hg5 (fun q e => by have h_ : p = q := (by simpa [Value.ownBlock] using e); omega)⟩
      · obtain ⟨A9, c9, e3, hc8, hc9⟩ := ho.form
        have e4 : c = c9 := by injection e3
        subst e4
        clear e3
        have q0 : (0 : Int) ≤ (k : Int) := by omega
        have q1 : (k : Int) ≤ (c : Int) := by omega
        have q2 : (k : Int) + 1 ≤ (xs.length : Int) := by omega
        have q3 : (xs.length : Int) ≤ (c : Int) := by omega
        have q4 : (0 : Int) ≤ (k : Int) + 1 := by omega
        have hp := ho.takek k (by omega)
        have hlk : (xs.take k).length = k := by simp; omega
        have fin : ∀ (v5 : Value) (w5 : World), Own w5 w.heap.size 34 v5 (xs.take k ++ xs.drop (k + 1)) → w4.grownBy w5 (Value.slice (some ⟨p, 0, none⟩) k c).ownBlock → OwnL w5 w.heap.size v5 4001 ∧ Cur w5 g cs ∧ w.grownBy w5 (some g) := fun v5 w5 ho5 hg5 =>
          ⟨⟨_, ho5, by simp; omega⟩, hc4.kept hg5 (fun q e => by have h_ : p = q := (by simpa [Value.ownBlock] using e); omega), grown_new hac hg5 (fun q e => by have h_ : p = q := (by simpa [Value.ownBlock] using e); omega)⟩
        have hod := ho.rd.dropk (k + 1)
        rw [Nat.zero_add] at hod
        have z1 : (k : Int) ≤ (k : Int) + 1 := by omega
        have z4 : wrap64 ((k : Int) + 1) = (k : Int) + 1 := IntWalk.wrap64_in _ ⟨by omega, by omega⟩
        clear hc9 hpl
        have z3 : IntKind.i64.wrap ((k : Int) + 1) = (k : Int) + 1 := IntWalk.i64_in _ ⟨by omega, by omega⟩
        have hp4 : 0 ≤ p := Nat.zero_le _
        by_cases q5 : c = k + 1
        · have hd : xs.drop (k + 1) = [] := List.drop_of_length_le (Nat.le_trans (by omega : xs.length ≤ c) (Nat.le_of_eq q5))
          subst q5
          go_wp2_with fail
          have y1 : (xs.length : Int) ≤ (k : Int) + 1 := by omega
          have y2 : (0 : Int) ≤ (xs.length : Int) := by omega
          have y3 : ((k : Int) + 1).toNat = k + 1 := by omega
          have y4 : xs.length - (k + 1) = 0 := by omega
          have y5 : ¬ ((k : Int) + 1 < 0) := by omega
          have y6 : ¬ ((xs.length : Int) < (k : Int) + 1) := by omega
          go_region_held3 (fun w' => True) (first | go_keep | exact trivial)
            (first | (refine step_append_rd el_line (by rfl) (.tmp 23) (.tmp 27) (by rfl) (base := w.heap.size) (ys := xs.take k) (xs := ([] : List Ln)) (A := some ⟨p, 0, none⟩) (by rfl) (hp.up (by (repeat (first | exact Up.rfl' _ | (refine Up.al _ ?_) | (refine Up.dr _ ?_) | (refine Up.dr1 ?_) | (refine Up.sc ?_ (by first | exact Nat.le_refl _ | (simp; done) | omega) _) | (refine Up.step (by assumption) ?_))))) 0 (by rfl) rfl (Rd.nil_ (B := 0)) (by simp; omega) (by unfold maxLen; simp; omega) (by have h_ := hac.size; simp; omega) ?_; intro v5 w5 ho5 hg5 _ _))
          all_goals go_wp2
          all_goals go_ret
          all_goals
            rw [hd] at fin
            obtain ⟨f1, f2, f3⟩ := fin v5 w5 ho5 ⟨hg5.os, hg5.tape, hg5.output, hg5.size, hg5.block⟩
            exact ⟨_, rfl, f1, f2, f3⟩
        · have hlc : k + 1 < c := by omega
          have q5' : ¬ (c = k + 1) := q5
          go_wp2_with fail
          go_region_held3 (fun w' => True) (first | go_keep | exact trivial)
            (first | (refine step_append_rd el_line (by rfl) (.tmp 23) (.tmp 27) (by rfl) (base := w.heap.size) (ys := xs.take k) (xs := xs.drop (k + 1)) (by rfl) (hp.up (by (repeat (first | exact Up.rfl' _ | (refine Up.al _ ?_) | (refine Up.dr _ ?_) | (refine Up.dr1 ?_) | (refine Up.sc ?_ (by first | exact Nat.le_refl _ | (simp; done) | omega) _) | (refine Up.step (by assumption) ?_))))) (xs.length - (k + 1)) (by rfl) (by simp) (hod.up (by (repeat (first | exact Up.rfl' _ | (refine Up.al _ ?_) | (refine Up.dr _ ?_) | (refine Up.dr1 ?_) | (refine Up.sc ?_ (by first | exact Nat.le_refl _ | (simp; done) | omega) _) | (refine Up.step (by assumption) ?_))))) (by simp; omega) (by unfold maxLen; simp; omega) (by have h_ := hac.size; simp; omega) ?_; intro v5 w5 ho5 hg5 _ _))
          all_goals go_wp2
          all_goals go_ret
          all_goals
            obtain ⟨f1, f2, f3⟩ := fin v5 w5 ho5 ⟨hg5.os, hg5.tape, hg5.output, hg5.size, hg5.block⟩
            exact ⟨_, rfl, f1, f2, f3⟩
    · go_wp2_with fail
      go_ret
      exact ⟨_, rfl, ⟨xs, ho, by omega⟩, hc2, hac⟩
end Go.Proofs.YtapllnlclgbbkaaDoor

namespace Go.Proofs.YtapllnlclgbbkaaDoor
set_option maxRecDepth 10000
open Go.RowKit
theorem OwnL.cur {w w' : World} {B g m : Nat} {v : Value} (h : OwnL w B v m) (hg : w.grownBy w' (some g)) (hlt : g < B) : OwnL w' B v m := by
  obtain ⟨xs, ho, hl⟩ := h
  exact ⟨xs, own_cur ho hg hlt, hl⟩
theorem OwnL.more {w : World} {B B' m : Nat} {v : Value} (h : OwnL w B v m) (hB : B' ≤ B) : OwnL w B' v m := by
  obtain ⟨xs, ho, hl⟩ := h
  exact ⟨xs, Own.more ho hB, hl⟩
theorem OwnL.up {w w' : World} {B m : Nat} {v : Value} (h : OwnL w B v m) (hu : Up w w') : OwnL w' B v m := by
  obtain ⟨xs, ho, hl⟩ := h
  exact ⟨xs, Own.up ho hu, hl⟩
end Go.Proofs.YtapllnlclgbbkaaDoor

namespace Go.Proofs.YtapllnlclgbbkaaDoor
set_option maxRecDepth 10000
open Go.RowKit
def hasI (xs : List Int) (o : Int) : Bool := xs.any (fun x => x == o)
theorem hasI_yes {xs : List Int} {i : Nat} {x o : Int} (hx : xs[i]? = some x) (h : (x == o) = true) : hasI xs o = true := by
  simp only [hasI, List.any_eq_true]
  exact ⟨x, List.mem_of_getElem? hx, h⟩
theorem hasI_step {xs : List Int} {i : Nat} {x o : Int} (hx : xs[i]? = some x) (h : (x == o) = false) (h0 : hasI (xs.take i) o = false) : hasI (xs.take (i + 1)) o = false := by
  simp only [hasI, take_snoc hx, List.any_append, List.any_cons, List.any_nil, h, Bool.or_false]
  exact h0
theorem el_int : ElT Tryd.prog 32 3 (Enc.k Int) 8 := ElT.mk' Tryd.underlying32 info_int rfl
theorem hasInt_any (A : Option Addr) (xs : List Int) (n c : Nat) (o : Int) (w : World) (hr : Rd w w.heap.size A xs) (hl : n = xs.length) (hn : n ≤ 2000000) :
    Calls Tryd.prog 33 #[.slice A n c, .int .i64 o] w fun e w' => e = .returned (.bool (hasI xs o)) ∧ Up w w' := by
  subst hl
  go_enter Tryd.func33, Tryd.ntmps33
  go_wp2
  go_loopw [9] (fun i wr => ∃ j : Nat, j ≤ xs.length ∧ i = .int .i64 j ∧ Hid (hasI (xs.take j) o = false) ∧ Up w wr) (fun i _ => xs.length - (intOf i).toNat)
  case atStart => exact ⟨0, by omega, rfl, rfl, by (repeat (first | exact Up.rfl' _ | (refine Up.al _ ?_) | (refine Up.dr _ ?_) | (refine Up.dr1 ?_) | (refine Up.sc ?_ (by first | exact Nat.le_refl _ | (simp; done) | omega) _) | (refine Up.step (by assumption) ?_)))⟩
  case round =>
    obtain ⟨i, hi, rfl, he, hb⟩ := hrel
    by_cases hlt : i < xs.length
    · obtain ⟨x, gx⟩ := get_of_lt hlt
      obtain ⟨b, off, rfl, hbb, c0⟩ := (hr.below hb).int gx
      have Gx := Lib.hid gx
      clear gx hr
      cases ht : (x == o) with
      | true =>
        go_wp2
        go_ret
        exact ⟨retb (hasI_yes Gx.out ht).symm, by (repeat (first | exact Up.rfl' _ | (refine Up.al _ ?_) | (refine Up.dr _ ?_) | (refine Up.dr1 ?_) | (refine Up.sc ?_ (by first | exact Nat.le_refl _ | (simp; done) | omega) _) | (refine Up.step (by assumption) ?_)))⟩
      | false =>
        go_wp2
        exact ⟨⟨i + 1, by omega, by go_num, hasI_step Gx.out ht he.out, by (repeat (first | exact Up.rfl' _ | (refine Up.al _ ?_) | (refine Up.dr _ ?_) | (refine Up.dr1 ?_) | (refine Up.sc ?_ (by first | exact Nat.le_refl _ | (simp; done) | omega) _) | (refine Up.step (by assumption) ?_)))⟩, by simp [intOf]; omega⟩
    · go_wp2
      go_ret
      obtain rfl : i = xs.length := by omega
      exact ⟨retb (by have h_ := he.out; rw [List.take_length] at h_; exact h_.symm), hb⟩
theorem has_any (A : Option Addr) (xs : List Int) (n c : Nat) (o : Int) (w : World) (hr : Rd w w.heap.size A xs) (hl : n = xs.length) (hn : n ≤ 2000000) :
    Calls Tryd.prog 12 #[.slice A n c, .int .i64 o] w fun e w' => e = .returned (.bool (hasI xs o)) ∧ Up w w' := by
  subst hl
  go_enter Tryd.func12, Tryd.ntmps12
  go_wp2
  go_loopw [5] (fun i wr => ∃ j : Nat, j ≤ xs.length ∧ i = .int .i64 j ∧ Hid (hasI (xs.take j) o = false) ∧ Up w wr) (fun i _ => xs.length - (intOf i).toNat)
  case atStart => exact ⟨0, by omega, rfl, rfl, by (repeat (first | exact Up.rfl' _ | (refine Up.al _ ?_) | (refine Up.dr _ ?_) | (refine Up.dr1 ?_) | (refine Up.sc ?_ (by first | exact Nat.le_refl _ | (simp; done) | omega) _) | (refine Up.step (by assumption) ?_)))⟩
  case round =>
    obtain ⟨i, hi, rfl, he, hb⟩ := hrel
    by_cases hlt : i < xs.length
    · obtain ⟨x, gx⟩ := get_of_lt hlt
      obtain ⟨b, off, rfl, hbb, c0⟩ := (hr.below hb).int gx
      have Gx := Lib.hid gx
      clear gx hr
      cases ht : (x == o) with
      | true =>
        go_wp2
        go_ret
        exact ⟨retb (hasI_yes Gx.out ht).symm, by (repeat (first | exact Up.rfl' _ | (refine Up.al _ ?_) | (refine Up.dr _ ?_) | (refine Up.dr1 ?_) | (refine Up.sc ?_ (by first | exact Nat.le_refl _ | (simp; done) | omega) _) | (refine Up.step (by assumption) ?_)))⟩
      | false =>
        go_wp2
        exact ⟨⟨i + 1, by omega, by go_num, hasI_step Gx.out ht he.out, by (repeat (first | exact Up.rfl' _ | (refine Up.al _ ?_) | (refine Up.dr _ ?_) | (refine Up.dr1 ?_) | (refine Up.sc ?_ (by first | exact Nat.le_refl _ | (simp; done) | omega) _) | (refine Up.step (by assumption) ?_)))⟩, by simp [intOf]; omega⟩
    · go_wp2
      go_ret
      obtain rfl : i = xs.length := by omega
      exact ⟨retb (by have h_ := he.out; rw [List.take_length] at h_; exact h_.symm), hb⟩
end Go.Proofs.YtapllnlclgbbkaaDoor
