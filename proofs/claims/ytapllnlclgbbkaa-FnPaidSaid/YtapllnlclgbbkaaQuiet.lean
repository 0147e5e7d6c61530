/- A region that draws its order, whose operations read old memory or call functions that leave old memory as it was: ONE walk of the text's order serves (Derived/Deep/Quiet.lean's theorem, at the class of the worlds above w). -/
import Derived.Test.YtapllnlclgbbkaaKit
import Derived.Deep.DeepCutAuto
import Derived.StillTailTactics
import Derived.Deep.RegionHeld3
namespace Go.Proofs.Ytapllnlclgbbkaa
set_option maxRecDepth 10000
open Go.RowKit
/-- The worlds that leave w's memory as it was. -/
def Ups (w : World) : Type := {w' : World // Up w w'}
instance (w : World) : Nonempty (Ups w) := ⟨⟨w, Up.rfl' w⟩⟩
def Ups.val {w : World} (x : Ups w) : World := x.1
theorem Ups.up {w : World} (x : Ups w) : Up w x.val := x.2
theorem Ups.cell {w : World} {b o : Nat} {v : Value} (h : w.cell? ⟨b, o, none⟩ = some v) : ∀ x : Ups w, x.val.cell? ⟨b, o, none⟩ = some v :=
  fun x => (x.2.cell (p := ⟨b, o, none⟩) (World.block_lt_of_cell? w ⟨b, o, none⟩ h)).trans h
theorem cellUp {w w' : World} {b o : Nat} {v : Value} (h : w.cell? ⟨b, o, none⟩ = some v) (hu : Up w w') : w'.cell? ⟨b, o, none⟩ = some v := Ups.cell h ⟨w', hu⟩
theorem Ups.rd {α : Type} [Enc α] {w : World} {A : Option Addr} {xs : List α} (h : Rd w w.heap.size A xs) (x : Ups w) : Rd x.val x.val.heap.size A xs := h.up x.2
theorem Ups.call {P : Program} {f : FuncId} {args : Array Value} {w : World} {x : Ups w} {v : Value} (h : Calls P f args x.val fun e w' => e = .returned v ∧ Up x.val w') :
    Calls P f args x.val fun e w'' => e = .returned v ∧ ∃ y : Ups w, w'' = y.val :=
  h.mono fun _ v2 ⟨he, hu⟩ => ⟨he, ⟨v2, Up.step hu x.2⟩, rfl⟩
theorem Ups.calls {P : Program} {f : FuncId} {args : Array Value} {w : World} {x : Ups w} {v : Value} (h : Calls P f args x.val fun e w' => e = .returned v ∧ x.val = w') :
    Calls P f args x.val fun e w'' => e = .returned v ∧ ∃ y : Ups w, w'' = y.val :=
  h.mono fun _ _ ⟨he, hu⟩ => ⟨he, x, hu.symm⟩
theorem wp_region_up {P : Program} {id : Nat} {Q : Exit → Act → World → Prop} {a : Act} {w : World} {l : List Oper} (hm : P.follows .mixedOrders = true) (hB : Region.lexB .any l.toArray = true)
    (h : wpQuiet P l.toArray (fun w' => ∃ x : Ups w, w' = x.val) (fun a' => ∀ w', Up w w' → Q .normal a' w') l a) : (Code.region id l.toArray true).wp P Q a w := by
  refine wp_region_quiet (C := fun w' => ∃ x : Ups w, w' = x.val) hm hB ⟨⟨_, Up.dr1 (Up.rfl' w)⟩, rfl⟩ ?_
  have e : (fun a' => ∀ w', (∃ x : Ups w, w' = x.val) → Q .normal a' w') = (fun a' => ∀ w', Up w w' → Q .normal a' w') := by
    funext a'
    refine propext ⟨fun h w' hu => h w' ⟨⟨w', hu⟩, rfl⟩, fun h w' hx => ?_⟩
    obtain ⟨x, rfl⟩ := hx
    exact h _ x.2
  rw [e]
  simpa using h
end Go.Proofs.Ytapllnlclgbbkaa
