/- Drawn regions whose orders all end in one state. No program in sight. -/
import Derived.Test.YtooikkfldddjfaaPlD
namespace Go.Proofs.Ytooikkfldddjfaa
set_option maxRecDepth 10000
open Go.RowKit
def sibK (P : Program) (ops : Array Oper) (K : List PV → Mem → Prop) (sub : OT) (t : List PV) (m : Mem) : Prop := match sub.isNil with
  | true => K t m
  | false => pSibs P ops K sub t m
section
variable {P : Program} {ops : Array Oper} {K : List PV → Mem → Prop} {Q : Exit → List PV → Mem → Prop} {t t' : List PV} {m m' : Mem} {a b : OT} {i : Nat} {o : Oper}
theorem sibK_nil : sibK P ops K .nil t m = K t m := nrfl rfl
theorem sibK_cons : sibK P ops K (.cons i a b) t m = pSibs P ops K (.cons i a b) t m := nrfl rfl
theorem thenK (h : K t m) : thenP K Q .normal t m := h
theorem blockK {id : Nat} (h : Q .normal t m) : blockP id Q .normal t m := h
theorem sib_nil : pSibs P ops K .nil t m := trivial
theorem sib_intro (ho : ops[i]? = some o) (h : pops P ops (sibK P ops K a) [o] t m) (hr : pSibs P ops K b t m) : pSibs P ops K (.cons i a b) t m := by
  simp only [pSibs, ho]
  exact ⟨h, hr⟩
/-- All orders of the region end in (t', m'). -/
theorem pwp_orders {id : Nat} {ops : List Oper} (T : OT) (h1 : P.follows .mixedOrders = true) (hD : T.okD ops.toArray.size = true) (hT : T.okT ops.toArray (Array.replicate ops.toArray.size false) = true) (hh : (Region.ready .any ops.toArray (Array.replicate ops.toArray.size false) == T.heads) = true) (hn : T.isNil = false)
    (h : ∀ K : List PV → Mem → Prop, K t' m' → pSibs P ops.toArray K T t m) (hq : Q .normal t' m') : pwp P (.region id ops.toArray true) Q t m := pwp_tree T h1 hD hT hh hn (h _ hq)
end
attribute [go_sem] sibK_nil sibK_cons
def mkOT (ops : Array Oper) : Nat → Array Bool → OT
  | 0, _ => .nil
  | n + 1, listed => (Region.ready .any ops listed).foldr (fun i rest => .cons i (mkOT ops n (listed.setIfInBounds i true)) rest) .nil
def showOT : OT → String
  | .nil => ".nil"
  | .cons i a b => "(.cons " ++ toString i ++ " " ++ showOT a ++ " " ++ showOT b ++ ")"
end Go.Proofs.Ytooikkfldddjfaa
