/- Plain functions of the money chapter: lines, sums. No program in sight. -/
import Derived.Test.YtapllnlclgbbkaaKit
namespace Go.Proofs.Ytapllnlclgbbkaa
open Go.RowKit

structure Ln where
  o : Int
  k : Int
  a : Int
  t : Int

def LnOk (x : Ln) : Prop := InI x.o ∧ InI x.k ∧ InI x.a ∧ InI x.t

instance : Enc Ln where
  cells x := [I x.o, I x.k, I x.a, I x.t]
  k := 4
  len _ := rfl
  pos := by decide
  one := by simp [Value.oneCell', I]

theorem Rd.ln {w : World} {B : Nat} {A : Option Addr} {xs : List Ln} {i : Nat} {x : Ln} (h : Rd w B A xs) (hx : xs[i]? = some x) :
    ∃ b off, A = some ⟨b, off, none⟩ ∧ b < B ∧ w.cell? ⟨b, off + i * 4, none⟩ = some (I x.o) ∧ w.cell? ⟨b, off + i * 4 + 1, none⟩ = some (I x.k) ∧ w.cell? ⟨b, off + i * 4 + 2, none⟩ = some (I x.a) ∧ w.cell? ⟨b, off + i * 4 + 3, none⟩ = some (I x.t) := by
  obtain ⟨b, off, e, hb, hc⟩ := h.at_ hx
  exact ⟨b, off, e, hb, hc 0 _ rfl, hc 1 _ rfl, hc 2 _ rfl, hc 3 _ rfl⟩

def inB (n l h : Int) : Bool := decide (l ≤ n) && decide (n ≤ h)
def lineB (o k a t : Int) : Bool := inB o 1 9999 && inB k 1 3 && inB a 1 100000 && inB t 0 100000
def sumStep (o k : Int) (s : Int) (x : Ln) : Int := if x.o = o ∧ x.k = k then wrap64 (s + x.a) else s
def sumLn (xs : List Ln) (o k : Int) : Int := xs.foldl (sumStep o k) 0
end Go.Proofs.Ytapllnlclgbbkaa
