/- Small lemmas of my own on memory: a slice that reads as a list of values of a codec; folds over the first elements. No program in sight. -/
import Derived.WalkKit
import Derived.WalkSpells
import Derived.WalkLawsBesides
import Derived.Below
import Derived.Lib.Hide
import Derived.Outline
import Derived.Laws.OwnMore
import Derived.Maps.AppendAt
import Derived.Deep.Draws
namespace Go.Proofs.Ytapllnlclgbbkaa
open Go.RowKit

abbrev I (n : Int) : Value := .int .i64 n
def InI (n : Int) : Prop := -9223372036854775808 ≤ n ∧ n ≤ 9223372036854775807

/-- How a value of a type lies in cells. -/
class Enc (α : Type) where
  cells : α → List Value
  k : Nat
  len : ∀ x, (cells x).length = k
  pos : 0 < k
  one : ∀ x, ∀ u ∈ cells x, u.oneCell' = true

instance : Enc Int where
  cells x := [I x]
  k := 1
  len _ := rfl
  pos := by decide
  one := by simp [Value.oneCell', I]

def flat {α : Type} [Enc α] (xs : List α) : List Value := xs.flatMap Enc.cells

section flat
variable {α : Type} [Enc α]
theorem flat_nil : flat ([] : List α) = [] := rfl
theorem flat_cons (x : α) (xs : List α) : flat (x :: xs) = Enc.cells x ++ flat xs := rfl
theorem flat_append (xs ys : List α) : flat (xs ++ ys) = flat xs ++ flat ys := by simp [flat]
theorem flat_one (x : α) : flat [x] = Enc.cells x := by simp [flat]
theorem flat_len (xs : List α) : (flat xs).length = xs.length * Enc.k α := by
  induction xs with
  | nil => simp [flat]
  | cons x xs ih => rw [flat_cons, List.length_append, ih, Enc.len, List.length_cons, Nat.add_mul, Nat.one_mul, Nat.add_comm]
theorem flat_oneCell (xs : List α) : ∀ u ∈ flat xs, u.oneCell' = true := by
  intro u hu
  obtain ⟨x, _, hx⟩ := List.mem_flatMap.1 hu
  exact Enc.one x u hx
theorem flat_at {xs : List α} {i : Nat} {x : α} (hx : xs[i]? = some x) {j : Nat} {u : Value} (hu : (Enc.cells x)[j]? = some u) : (flat xs)[i * Enc.k α + j]? = some u := by
  induction xs generalizing i with
  | nil => simp at hx
  | cons y ys ih =>
    have hl := Enc.len (α := α) y
    cases i with
    | zero =>
      obtain rfl : y = x := by simpa using hx
      have hj : j < (Enc.cells y).length := (List.getElem?_eq_some_iff.1 hu).1
      rw [flat_cons, Nat.zero_mul, Nat.zero_add, List.getElem?_append_left hj, hu]
    | succ i =>
      have h1 := ih (i := i) (by simpa using hx)
      rw [flat_cons, List.getElem?_append_right (by rw [hl, Nat.succ_mul]; omega), ← h1]
      congr 1
      rw [hl, Nat.succ_mul]; omega
theorem flat_take (xs : List α) (n : Nat) : (flat xs).take (n * Enc.k α) = flat (xs.take n) := by
  induction xs generalizing n with
  | nil => simp [flat]
  | cons y ys ih =>
    cases n with
    | zero => simp [flat]
    | succ n =>
      rw [flat_cons, List.take_succ_cons, flat_cons, List.take_append, Enc.len, ← ih, List.take_of_length_le (by rw [Enc.len, Nat.succ_mul]; omega)]
      congr 2
      rw [Nat.succ_mul]; omega
end flat

/-- The slice (A, xs.length) reads in w as xs; it lies below block B. -/
def Rd {α : Type} [Enc α] (w : World) (B : Nat) (A : Option Addr) (xs : List α) : Prop :=
  xs ≠ [] → ∃ b off, A = some ⟨b, off, none⟩ ∧ b < B ∧ ∀ j u, (flat xs)[j]? = some u → w.cell? ⟨b, off + j, none⟩ = some u

section rd
variable {α : Type} [Enc α] {w w' : World} {B B' : Nat} {A : Option Addr} {xs : List α}
theorem Rd.nil_ : Rd w B A ([] : List α) := fun h => absurd rfl h
theorem Rd.at_ {i : Nat} {x : α} (h : Rd w B A xs) (hx : xs[i]? = some x) :
    ∃ b off, A = some ⟨b, off, none⟩ ∧ b < B ∧ ∀ j u, (Enc.cells x)[j]? = some u → w.cell? ⟨b, off + i * Enc.k α + j, none⟩ = some u := by
  obtain ⟨b, off, e, hb, hc⟩ := h (by rintro rfl; simp at hx)
  exact ⟨b, off, e, hb, fun j u hu => by rw [Nat.add_assoc]; exact hc _ u (flat_at hx hu)⟩
theorem Rd.keep (h : Rd w B A xs) (hk : ∀ b o, b < B → w'.cell? ⟨b, o, none⟩ = w.cell? ⟨b, o, none⟩) : Rd w' B A xs := fun hn => by
  obtain ⟨b, off, e, hb, hc⟩ := h hn
  exact ⟨b, off, e, hb, fun j u hu => (hk _ _ hb).trans (hc j u hu)⟩
theorem Rd.more (h : Rd w B A xs) (hB : B ≤ B') : Rd w B' A xs := fun hn => by
  obtain ⟨b, off, e, hb, hc⟩ := h hn
  exact ⟨b, off, e, by omega, hc⟩
theorem Rd.below (h : Rd w B A xs) (hb : Below B w w') : Rd w' B A xs := h.keep fun b o hp => hb.cell (p := ⟨b, o, none⟩) hp
theorem Rd.take_ (h : Rd w B A xs) (n : Nat) : Rd w B A (xs.take n) := fun hn => by
  obtain ⟨b, off, e, hb, hc⟩ := h (by rintro rfl; simp at hn)
  refine ⟨b, off, e, hb, fun j u hu => hc j u ?_⟩
  rw [← flat_take, List.getElem?_take] at hu
  split at hu
  · exact hu
  · cases hu
end rd

/-- A fresh slice of the call's own (from block B on) that holds xs. -/
def Own {α : Type} [Enc α] (w : World) (B : Nat) (E : TypeId) (v : Value) (xs : List α) : Prop := w.ownsRow B E (Enc.k α) v xs.length (flat xs)

theorem take_snoc {α : Type} {xs : List α} {i : Nat} {x : α} (hx : xs[i]? = some x) : xs.take (i + 1) = xs.take i ++ [x] := by
  rw [List.take_add_one, hx]; rfl
theorem drop_cons {α : Type} {xs : List α} {i : Nat} {x : α} (hx : xs[i]? = some x) : xs.drop i = x :: xs.drop (i + 1) := by
  obtain ⟨h, rfl⟩ := List.getElem?_eq_some_iff.1 hx
  exact List.drop_eq_getElem_cons h
theorem get_of_lt {α : Type} {xs : List α} {i : Nat} (h : i < xs.length) : ∃ x, xs[i]? = some x := ⟨xs[i], List.getElem?_eq_getElem h⟩
theorem lt_of_get {α : Type} {xs : List α} {i : Nat} {x : α} (hx : xs[i]? = some x) : i < xs.length := (List.getElem?_eq_some_iff.1 hx).1
theorem foldl_snoc {α β : Type} {xs : List α} {i : Nat} {x : α} (hx : xs[i]? = some x) (f : β → α → β) (a : β) : (xs.take (i + 1)).foldl f a = f ((xs.take i).foldl f a) x := by
  rw [take_snoc hx, List.foldl_append]; rfl
theorem bcell {W w1 : World} (hb : Below W.heap.size W w1) : (∀ b o, b < W.heap.size → w1.cell? ⟨b, o, none⟩ = W.cell? ⟨b, o, none⟩) ∧ (∀ b o, b < W.heap.size → w1.frozen? ⟨b, o, none⟩ = W.frozen? ⟨b, o, none⟩) :=
  ⟨fun b o h => hb.cell (p := ⟨b, o, none⟩) h, fun b o h => hb.frozen (p := ⟨b, o, none⟩) h⟩
theorem Below.next {B : Nat} {a b c : World} (h : Below B a b) (k : Below b.heap.size b c) (hB : B ≤ b.heap.size) : Below B a c := h.trans (k.mono hB)
theorem retv {a b : Value} (h : a = b) : Ending.returned a = .returned b := by rw [h]

end Go.Proofs.Ytapllnlclgbbkaa
