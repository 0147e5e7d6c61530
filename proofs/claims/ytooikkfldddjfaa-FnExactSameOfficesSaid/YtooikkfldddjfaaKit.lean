/- Small lemmas of my own on memory: a slice that reads as a list of values of a codec; folds over the first elements. No program in sight. -/
import Derived.WalkKit
import Derived.WalkSpells
import Derived.WalkLawsBesides
import Derived.Below
import Derived.Lib.Hide
import Derived.Outline
import Derived.Laws.OwnMore
import Derived.Maps.AppendAt
import Derived.Deep.Draws
import Derived.Deep.QuietTactic
import Derived.BigQuiet
namespace Go.Proofs.Ytooikkfldddjfaa
set_option maxRecDepth 10000
open Go.RowKit

abbrev I (n : Int) : Value := .int .i64 n
def InI (n : Int) : Prop := -9223372036854775808 ≤ n ∧ n ≤ 9223372036854775807

/-- How a value of a type lies in cells. -/
class Enc (α : Type) where
  cells : α → List Value
  k : Nat
  len : ∀ x, (cells x).length = k
  pos : 0 < k
  one : ∀ x, ∀ u ∈ cells x, u.oneCell' = true

instance : Enc Int where
  cells x := [I x]
  k := 1
  len _ := rfl
  pos := by decide
  one := by simp [Value.oneCell', I]

def flat {α : Type} [Enc α] (xs : List α) : List Value := xs.flatMap Enc.cells

section flat
variable {α : Type} [Enc α]
theorem flat_nil : flat ([] : List α) = [] := rfl
theorem flat_cons (x : α) (xs : List α) : flat (x :: xs) = Enc.cells x ++ flat xs := rfl
theorem flat_append (xs ys : List α) : flat (xs ++ ys) = flat xs ++ flat ys := by simp [flat]
theorem flat_one (x : α) : flat [x] = Enc.cells x := by simp [flat]
theorem flat_len (xs : List α) : (flat xs).length = xs.length * Enc.k α := by
  induction xs with
  | nil => simp [flat]
  | cons x xs ih => rw [flat_cons, List.length_append, ih, Enc.len, List.length_cons, Nat.add_mul, Nat.one_mul, Nat.add_comm]
theorem flat_oneCell (xs : List α) : ∀ u ∈ flat xs, u.oneCell' = true := by
  intro u hu
  obtain ⟨x, _, hx⟩ := List.mem_flatMap.1 hu
  exact Enc.one x u hx
theorem flat_at {xs : List α} {i : Nat} {x : α} (hx : xs[i]? = some x) {j : Nat} {u : Value} (hu : (Enc.cells x)[j]? = some u) : (flat xs)[i * Enc.k α + j]? = some u := by
  induction xs generalizing i with
  | nil => simp at hx
  | cons y ys ih =>
    have hl := Enc.len (α := α) y
    cases i with
    | zero =>
      obtain rfl : y = x := by simpa using hx
      have hj : j < (Enc.cells y).length := (List.getElem?_eq_some_iff.1 hu).1
      rw [flat_cons, Nat.zero_mul, Nat.zero_add, List.getElem?_append_left hj, hu]
    | succ i =>
      have h1 := ih (i := i) (by simpa using hx)
      rw [flat_cons, List.getElem?_append_right (by rw [hl, Nat.succ_mul]; omega), ← h1]
      congr 1
      rw [hl, Nat.succ_mul]; omega
theorem flat_take (xs : List α) (n : Nat) : (flat xs).take (n * Enc.k α) = flat (xs.take n) := by
  induction xs generalizing n with
  | nil => simp [flat]
  | cons y ys ih =>
    cases n with
    | zero => simp [flat]
    | succ n =>
      rw [flat_cons, List.take_succ_cons, flat_cons, List.take_append, Enc.len, ← ih, List.take_of_length_le (by rw [Enc.len, Nat.succ_mul]; omega)]
      congr 2
      rw [Nat.succ_mul]; omega
end flat

/-- The slice (A, xs.length) reads in w as xs; it lies below block B. -/
def Rd {α : Type} [Enc α] (w : World) (B : Nat) (A : Option Addr) (xs : List α) : Prop :=
  xs ≠ [] → ∃ b off, A = some ⟨b, off, none⟩ ∧ b < B ∧ ∀ j u, (flat xs)[j]? = some u → w.cell? ⟨b, off + j, none⟩ = some u

section rd
variable {α : Type} [Enc α] {w w' : World} {B B' : Nat} {A : Option Addr} {xs : List α}
theorem Rd.nil_ : Rd w B A ([] : List α) := fun h => absurd rfl h
theorem Rd.at_ {i : Nat} {x : α} (h : Rd w B A xs) (hx : xs[i]? = some x) :
    ∃ b off, A = some ⟨b, off, none⟩ ∧ b < B ∧ ∀ j u, (Enc.cells x)[j]? = some u → w.cell? ⟨b, off + i * Enc.k α + j, none⟩ = some u := by
  obtain ⟨b, off, e, hb, hc⟩ := h (by rintro rfl; simp at hx)
  exact ⟨b, off, e, hb, fun j u hu => by rw [Nat.add_assoc]; exact hc _ u (flat_at hx hu)⟩
theorem Rd.keep (h : Rd w B A xs) (hk : ∀ b o, b < B → w'.cell? ⟨b, o, none⟩ = w.cell? ⟨b, o, none⟩) : Rd w' B A xs := fun hn => by
  obtain ⟨b, off, e, hb, hc⟩ := h hn
  exact ⟨b, off, e, hb, fun j u hu => (hk _ _ hb).trans (hc j u hu)⟩
theorem Rd.more (h : Rd w B A xs) (hB : B ≤ B') : Rd w B' A xs := fun hn => by
  obtain ⟨b, off, e, hb, hc⟩ := h hn
  exact ⟨b, off, e, by omega, hc⟩
theorem Rd.below (h : Rd w B A xs) (hb : Below B w w') : Rd w' B A xs := h.keep fun b o hp => hb.cell (p := ⟨b, o, none⟩) hp
theorem Rd.take_ (h : Rd w B A xs) (n : Nat) : Rd w B A (xs.take n) := fun hn => by
  obtain ⟨b, off, e, hb, hc⟩ := h (by rintro rfl; simp at hn)
  refine ⟨b, off, e, hb, fun j u hu => hc j u ?_⟩
  rw [← flat_take, List.getElem?_take] at hu
  split at hu
  · exact hu
  · cases hu
end rd

/-- A fresh slice of the call's own (from block B on) that holds xs. -/
def Own {α : Type} [Enc α] (w : World) (B : Nat) (E : TypeId) (v : Value) (xs : List α) : Prop := w.ownsRow B E (Enc.k α) v xs.length (flat xs)

theorem take_snoc {α : Type} {xs : List α} {i : Nat} {x : α} (hx : xs[i]? = some x) : xs.take (i + 1) = xs.take i ++ [x] := by
  rw [List.take_add_one, hx]; rfl
theorem drop_cons {α : Type} {xs : List α} {i : Nat} {x : α} (hx : xs[i]? = some x) : xs.drop i = x :: xs.drop (i + 1) := by
  obtain ⟨h, rfl⟩ := List.getElem?_eq_some_iff.1 hx
  exact List.drop_eq_getElem_cons h
theorem get_of_lt {α : Type} {xs : List α} {i : Nat} (h : i < xs.length) : ∃ x, xs[i]? = some x := ⟨xs[i], List.getElem?_eq_getElem h⟩
theorem lt_of_get {α : Type} {xs : List α} {i : Nat} {x : α} (hx : xs[i]? = some x) : i < xs.length := (List.getElem?_eq_some_iff.1 hx).1
theorem foldl_snoc {α β : Type} {xs : List α} {i : Nat} {x : α} (hx : xs[i]? = some x) (f : β → α → β) (a : β) : (xs.take (i + 1)).foldl f a = f ((xs.take i).foldl f a) x := by
  rw [take_snoc hx, List.foldl_append]; rfl
theorem bcell {W w1 : World} (hb : Below W.heap.size W w1) : (∀ b o, b < W.heap.size → w1.cell? ⟨b, o, none⟩ = W.cell? ⟨b, o, none⟩) ∧ (∀ b o, b < W.heap.size → w1.frozen? ⟨b, o, none⟩ = W.frozen? ⟨b, o, none⟩) :=
  ⟨fun b o h => hb.cell (p := ⟨b, o, none⟩) h, fun b o h => hb.frozen (p := ⟨b, o, none⟩) h⟩
theorem bcellD {W w1 : World} (hb : Below W.drew.heap.size W.drew w1) : (∀ b o, b < W.heap.size → w1.cell? ⟨b, o, none⟩ = W.cell? ⟨b, o, none⟩) ∧ (∀ b o, b < W.heap.size → w1.frozen? ⟨b, o, none⟩ = W.frozen? ⟨b, o, none⟩) :=
  ⟨fun b o h => hb.cell (p := ⟨b, o, none⟩) h, fun b o h => hb.frozen (p := ⟨b, o, none⟩) h⟩
theorem Below.next {B : Nat} {a b c : World} (h : Below B a b) (k : Below b.heap.size b c) (hB : B ≤ b.heap.size) : Below B a c := h.trans (k.mono hB)
abbrev Up (w w' : World) : Prop := Below w.heap.size w w'
theorem Up.rfl' (w : World) : Up w w := Below.refl _ _
theorem Up.step {a b c : World} (k : Up b c) (h : Up a b) : Up a c := Below.trans h (Below.mono k h.size)
theorem Up.al {a b : World} (o : Obj) (h : Up a b) : Up a (b.alloc o) := Below.alloc h h.size o
theorem Up.sc {a b : World} {p : Addr} (h : Up a b) (hp : a.heap.size ≤ p.block) (u : Value) : Up a (b.setCell p u) := Below.setCell h hp u
theorem Up.dr {a b : World} (n : Nat) (h : Up a b) : Up a (b.drewN n) := ⟨h.os, h.tape, h.output, h.size, h.block⟩
theorem Up.dr1 {a b : World} (h : Up a b) : Up a b.drew := Below.drew h
theorem Rd.up {α : Type} [Enc α] {w w' : World} {A : Option Addr} {xs : List α} (h : Rd w w.heap.size A xs) (hb : Up w w') : Rd w' w'.heap.size A xs := (h.below hb).more hb.size
theorem Own.rd {α : Type} [Enc α] {w : World} {B E : Nat} {A : Option Addr} {c n : Nat} {xs : List α} (h : Own w B E (.slice A n c) xs) : Rd w w.heap.size A xs := by
  intro hne
  have hpos : 0 < xs.length := List.length_pos_iff.2 hne
  rcases h.2 with ⟨_, h0⟩ | ⟨g, cap, cur, hv, hB, hg, hnc, hcm, hcs, ht⟩
  · omega
  · have hA : A = some ⟨g, 0, none⟩ := by injection hv
    refine ⟨g, 0, hA, (Array.getElem?_eq_some_iff.1 hg).1, fun j u hu => ?_⟩
    rw [Nat.zero_add, cell_of_row w g j cur E (0, 0) hg]
    rw [← ht, List.getElem?_take] at hu
    split at hu
    · simpa using hu
    · cases hu
theorem Own.up {α : Type} [Enc α] {w w' : World} {B E : Nat} {v : Value} {xs : List α} (h : Own w B E v xs) (hb : Up w w') : Own w' B E v xs := by
  refine ⟨h.1, ?_⟩
  rcases h.2 with h2 | ⟨g, cap, cur, hv, hB, hg, r⟩
  · exact .inl h2
  · exact .inr ⟨g, cap, cur, hv, hB, (hb.block g (Array.getElem?_eq_some_iff.1 hg).1).trans hg, r⟩
theorem belowD {B : Nat} {a w : World} (h : Below B a w) (n : Nat) : Below B a (w.drewN n) := ⟨h.os, h.tape, h.output, h.size, h.block⟩
theorem take_snoc_eq {α : Type} {xs ys : List α} {i : Nat} {x y : α} (h : xs.take i = ys.take i) (hx : xs[i]? = some x) (hy : ys[i]? = some y) (e : x = y) : xs.take (i + 1) = ys.take (i + 1) := by
  rw [take_snoc hx, take_snoc hy, h, e]
theorem eq_of_take {α : Type} {xs ys : List α} {i : Nat} (h : xs.take i = ys.take i) (hx : xs.length ≤ i) (hy : ys.length ≤ i) : xs = ys := by
  rwa [List.take_of_length_le hx, List.take_of_length_le hy] at h
theorem ne_of_get {α : Type} {xs ys : List α} {i : Nat} {x y : α} (hx : xs[i]? = some x) (hy : ys[i]? = some y) (e : x ≠ y) : ¬ xs = ys := by
  rintro rfl
  rw [hx] at hy
  exact e (Option.some.inj hy)
theorem ne_of_len {α : Type} {xs ys : List α} (e : xs.length ≠ ys.length) : ¬ xs = ys := by rintro rfl; exact e rfl
theorem retF {p : Prop} [Decidable p] (h : ¬ p) : Ending.returned (.bool false) = .returned (.bool (decide p)) := by rw [decide_eq_false h]
theorem retT {p : Prop} [Decidable p] (h : p) : Ending.returned (.bool true) = .returned (.bool (decide p)) := by rw [decide_eq_true h]
theorem retb {a b : Bool} (h : a = b) : Ending.returned (.bool a) = .returned (.bool b) := by rw [h]
theorem reti {a b : Int} (h : a = b) : Ending.returned (.int .i64 a) = .returned (.int .i64 b) := by rw [h]
theorem retv {a b : Value} (h : a = b) : Ending.returned a = .returned b := by rw [h]


def allTo (n : Nat) (f : Nat → Bool) : Bool := (List.range n).all f
theorem allTo_zero (f : Nat → Bool) : allTo 0 f = true := rfl
theorem allTo_succ {n : Nat} {f : Nat → Bool} (h : allTo n f = true) (hn : f n = true) : allTo (n + 1) f = true := by
  simp only [allTo, List.range_succ, List.all_append, List.all_cons, List.all_nil, Bool.and_true, Bool.and_eq_true]
  exact ⟨h, hn⟩
theorem allTo_false {n i : Nat} {f : Nat → Bool} (hi : i < n) (h : f i = false) : allTo n f = false := by
  simp only [allTo, List.all_eq_false, List.mem_range]
  exact ⟨i, hi, by simp [h]⟩
theorem allTo_iff {n : Nat} {f : Nat → Bool} : allTo n f = true ↔ ∀ i, i < n → f i = true := by simp [allTo]
theorem getD_of {α : Type} {xs : List α} {i : Nat} {x : α} (hx : xs[i]? = some x) (d : α) : xs.getD i d = x := by rw [List.getD_eq_getElem?_getD, hx]; rfl

theorem quietL {P : Program} {f : FuncId} {args : Array Value} {w : World} {n : Nat} {v : Value}
    (h : Calls P f args (w.drewN n) fun e w' => e = .returned v ∧ w.drewN n = w') : Calls P f args (w.drewN n) fun e w'' => e = .returned v ∧ ∃ m, w'' = w.drewN m :=
  h.mono fun _ _ ⟨he, hm⟩ => ⟨he, n, hm.symm⟩

/-- What is left behind n things; -1 where they are too many. -/
def szTo (l : Int) (n : Nat) : Int := if l < n then -1 else l - n
theorem szTo_neg {l : Int} {n : Nat} (h : l < n) : szTo l n = -1 := if_pos h
theorem szTo_pos {l : Int} {n : Nat} (h : ¬ l < n) : szTo l n = l - n := if_neg h

theorem run_mk {P : Program} (t e : TypeId) (i : TypeInfo) (z : Value) (ht : P.underlying t = some (.slice e)) (hi : P.info? e = some i) (hz : i.zero = some z)
    (n : Nat) (hbytes : i.bytes * n ≤ 281474976710656) (h63 : n ≤ 9223372036854775807) (w : World) :
    (Instr.makeSlice t (.int .i64 (n : Int)) (.int .i64 (n : Int))).run P w = .ok (.slice (some ⟨w.heap.size, 0, none⟩) n n) (w.alloc (.cells (madeCells z.cells (n * i.size)) e)) := by
  have hb : (i.bytes : Int) * (n : Int) ≤ 281474976710656 := by
    have h : ((i.bytes * n : Nat) : Int) ≤ 281474976710656 := by omega
    rwa [Int.natCast_mul] at h
  have hr := run_make (P := P) w t e i z ht hi hz .i64 .i64 n n (by omega) (by omega) hb (by omega)
  simp only [Int.toNat_natCast] at hr
  exact hr

/-- Block g holds a row of n elements of k cells, of the call's own (from B on): its first i elements are ys's. -/
def Filling (w : World) (B : Nat) (E : TypeId) (k : Nat) (g n i : Nat) (ys : List Value) : Prop :=
  ∃ cs : Array Value, w.heap[g]? = some (.cells cs E (0, 0)) ∧ B ≤ g ∧ cs.size = n * k ∧ n ≤ maxLen ∧ cs.toList.take (i * k) = ys.take (i * k)

theorem Filling.start (w : World) (B E k n : Nat) (z : Array Value) (ys : List Value) (hB : B ≤ w.heap.size) (hn : n ≤ maxLen) :
    Filling (w.alloc (.cells (madeCells z (n * k)) E)) B E k w.heap.size n 0 ys :=
  ⟨_, heap_alloc_new w _, hB, by simp [madeCells], hn, by simp⟩
theorem Filling.cell {w : World} {B E k g n i : Nat} {ys : List Value} (h : Filling w B E k g n i ys) {j : Nat} (hj : j < n * k) : ∃ u, w.cell? ⟨g, j, none⟩ = some u := by
  obtain ⟨cs, hh, _, hs, _⟩ := h
  exact ⟨cs[j]'(by omega), by rw [cell_of_row w g j cs E (0, 0) hh]; exact Array.getElem?_eq_getElem _⟩
theorem Filling.frozen {w : World} {B E k g n i : Nat} {ys : List Value} (h : Filling w B E k g n i ys) (j : Nat) : w.frozen? ⟨g, j, none⟩ = false := by
  obtain ⟨cs, hh, _⟩ := h
  exact frozen_of_row w g j cs E hh
theorem Filling.kept {w w' : World} {B E k g n i : Nat} {ys : List Value} (h : Filling w B E k g n i ys) (hb : Below w.heap.size w w') : Filling w' B E k g n i ys := by
  obtain ⟨cs, hh, r⟩ := h
  exact ⟨cs, (hb.block g (Array.getElem?_eq_some_iff.1 hh).1).trans hh, r⟩
theorem Filling.lt {w : World} {B E k g n i : Nat} {ys : List Value} (h : Filling w B E k g n i ys) : B ≤ g ∧ g < w.heap.size := by
  obtain ⟨cs, hh, hB, _⟩ := h
  exact ⟨hB, (Array.getElem?_eq_some_iff.1 hh).1⟩
theorem Filling.own {α : Type} [Enc α] {w : World} {B E g n : Nat} {ys : List α} (h : Filling w B E (Enc.k α) g n n (flat ys)) (hn : ys.length = n) :
    Own w B E (.slice (some ⟨g, 0, none⟩) n n) ys := by
  obtain ⟨cs, hh, hB, hs, hm, ht⟩ := h
  subst hn
  have e1 : (flat ys).take (ys.length * Enc.k α) = flat ys := List.take_of_length_le (by rw [flat_len]; omega)
  exact ⟨flat_len ys, .inr ⟨g, _, cs, rfl, hB, hh, Nat.le_refl _, hm, hs, by rw [ht, e1]⟩⟩
theorem Filling.start1 (w : World) (B E N : Nat) (z : Array Value) (ys : List Value) (hB : B ≤ w.heap.size) (hn : N ≤ maxLen) :
    Filling (w.alloc (.cells (madeCells z N) E)) B E 1 w.heap.size N 0 ys :=
  ⟨_, heap_alloc_new w _, hB, by simp [madeCells], hn, by simp⟩
theorem Filling.ownk {α : Type} [Enc α] {w : World} {B E g n N : Nat} {ys : List α} (h : Filling w B E 1 g N N (flat ys)) (hN : N = n * Enc.k α) (hn : ys.length = n) (hm : n ≤ maxLen) :
    Own w B E (.slice (some ⟨g, 0, none⟩) n n) ys := by
  obtain ⟨cs, hh, hB, hs, _, ht⟩ := h
  subst hn hN
  have e1 : (flat ys).take (ys.length * Enc.k α) = flat ys := List.take_of_length_le (by rw [flat_len]; omega)
  rw [Nat.mul_one] at ht hs
  exact ⟨flat_len ys, .inr ⟨g, _, cs, rfl, hB, hh, Nat.le_refl _, hm, hs, by rw [ht, e1]⟩⟩
theorem set_take {cs : List Value} {j m : Nat} (v : Value) (h : m ≤ j) : (cs.set j v).take m = cs.take m := by
  rw [List.take_set_of_le h]
theorem take_set_succ {cs ys : List Value} {j : Nat} {v : Value} (hj : j < cs.length) (hy : ys[j]? = some v) (h : cs.take j = ys.take j) : (cs.set j v).take (j + 1) = ys.take (j + 1) := by
  rw [List.take_add_one, List.take_add_one, hy, set_take v (Nat.le_refl _), h]
  simp [hj]
theorem Filling.set1 {w : World} {B E g n i : Nat} {ys : List Value} {v : Value} (h : Filling w B E 1 g n i ys) (hi : i < n) (hy : ys[i]? = some v) :
    Filling (w.setCell ⟨g, i, none⟩ v) B E 1 g n (i + 1) ys := by
  obtain ⟨cs, hh, hB, hs, hm, ht⟩ := h
  refine ⟨cs.setIfInBounds i v, heap_setCell_same w g i cs E v hh, hB, by simpa using hs, hm, ?_⟩
  rw [Nat.mul_one] at ht
  rw [Nat.mul_one, Array.toList_setIfInBounds]
  exact take_set_succ (by simp; omega) hy ht
end Go.Proofs.Ytooikkfldddjfaa
