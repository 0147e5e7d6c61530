/-
  No cell of these rows narrows 'for every input' (looked for: loops, veiled, ifaces, maps, wideKeys, modest, calm, conditions, laid).
  DERIVED. THE GIVEN ROWS OF THIS SEAT. 3 by the template 'for every input the law returns true; each argument reads behind the call as it read before'; 0 by the template 'total and deterministic' (their statements: YtooikkfldddjfaaTotals.lean).
  GIVEN WITH THE SEED: the statements are not yours to turn. If you find one false, say at which input.
  Laid BY PROGRAM, IN A SANDBOX (cutbox-rows.mjs): the forced cells as the released guide's own fill.sh prints them over the translation 879ee32312ba5b5d… (all of the seat's roots in one cut). By AI agents, Wed Nov 11 2026. No macro, syntax, notation, axiom, sorry.
-/
import Derived.Test.YtooikkfldddjfaaChecked
import GoSem.Claim
import GoSem.ClaimJoined
import GoSem.ClaimMapViews
import Derived.JoinedTies
import Derived.KernelRfl
namespace Go.Proofs.Ytooikkfldddjfaa
/- THE CELL 'sum', in the pinned program and in every row, IS THE sha256 OF THE DUMP (.gsa) THAT YtooikkfldddjfaaProg.lean LOADS. Nothing in Lean hashes anything: it is a label: what it is worth is what the hold of that sum in a sandbox is worth. -/
noncomputable def Try.pinned : Pinned := { name := "ytooikkfldddjfaa", sum := "879ee32312ba5b5d8416ff4a9d4743abcf84dba9b48098cf1eee1434fe72cc78", checked := Try.checked }
namespace Rows
def none {H : Type} : Left H := { results := [], args := [] }

/-- 'laws.FnExactSameWorlds': WHATEVER THE INPUT: true; the input reads as it did. -/
def fnExactSameWorldsSpec : ChangeSpec := { name := "fnExactSameWorlds", fn := fun _ => fun
  | [d1, d2] => { results := [.lit (.bool true)], args := [d1, d2] }
  | _ => none }
def fnExactSameWorldsRow : OpenClaim := { program := "ytooikkfldddjfaa", sum := "879ee32312ba5b5d8416ff4a9d4743abcf84dba9b48098cf1eee1434fe72cc78", func := "loop.example/g03014/laws.FnExactSameWorlds", spec := "fnExactSameWorlds", apart := false }
def FnExactSameWorldsSaid : Prop := fnExactSameWorldsRow.holds Try.pinned (OpenSpec.ofChange fnExactSameWorldsSpec)

/-- ITS FALSE NEIGHBOUR: 'it returns false'. Refute it at one input. -/
def fnExactSameWorldsWrong : ChangeSpec := { name := "fnExactSameWorlds", fn := fun _ => fun
  | [d1, d2] => { results := [.lit (.bool false)], args := [d1, d2] }
  | _ => none }
def FnExactSameWorldsWrongFalsely : Prop := fnExactSameWorldsRow.holds Try.pinned (OpenSpec.ofChange fnExactSameWorldsWrong)

/-- 'laws.FnExactIsAct': WHATEVER THE INPUT: true; the input reads as it did. -/
def fnExactIsActSpec : ChangeSpec := { name := "fnExactIsAct", fn := fun _ => fun
  | [d] => { results := [.lit (.bool true)], args := [d] }
  | _ => none }
def fnExactIsActRow : OpenClaim := { program := "ytooikkfldddjfaa", sum := "879ee32312ba5b5d8416ff4a9d4743abcf84dba9b48098cf1eee1434fe72cc78", func := "loop.example/g03014/laws.FnExactIsAct", spec := "fnExactIsAct", unfollowed := true, recurses := true, apart := false }
def FnExactIsActSaid : Prop := fnExactIsActRow.holds Try.pinned (OpenSpec.ofChange fnExactIsActSpec)

/-- ITS FALSE NEIGHBOUR: 'it returns false'. Refute it at one input. -/
def fnExactIsActWrong : ChangeSpec := { name := "fnExactIsAct", fn := fun _ => fun
  | [d] => { results := [.lit (.bool false)], args := [d] }
  | _ => none }
def FnExactIsActWrongFalsely : Prop := fnExactIsActRow.holds Try.pinned (OpenSpec.ofChange fnExactIsActWrong)

/-- 'laws.FnExactSameOffices': WHATEVER THE INPUT: true; the input reads as it did. -/
def fnExactSameOfficesSpec : ChangeSpec := { name := "fnExactSameOffices", fn := fun _ => fun
  | [d1, d2] => { results := [.lit (.bool true)], args := [d1, d2] }
  | _ => none }
def fnExactSameOfficesRow : OpenClaim := { program := "ytooikkfldddjfaa", sum := "879ee32312ba5b5d8416ff4a9d4743abcf84dba9b48098cf1eee1434fe72cc78", func := "loop.example/g03014/laws.FnExactSameOffices", spec := "fnExactSameOffices", apart := false }
def FnExactSameOfficesSaid : Prop := fnExactSameOfficesRow.holds Try.pinned (OpenSpec.ofChange fnExactSameOfficesSpec)

/-- ITS FALSE NEIGHBOUR: 'it returns false'. Refute it at one input. -/
def fnExactSameOfficesWrong : ChangeSpec := { name := "fnExactSameOffices", fn := fun _ => fun
  | [d1, d2] => { results := [.lit (.bool false)], args := [d1, d2] }
  | _ => none }
def FnExactSameOfficesWrongFalsely : Prop := fnExactSameOfficesRow.holds Try.pinned (OpenSpec.ofChange fnExactSameOfficesWrong)

/- THE SECOND FORM. 'bulk': how many values and letters a reading holds, each counted each time it is reached (what is shared counts as often as it is met; a slice's spare places count too). A statement '..UptoSaid' is the law's where the arguments, and the package variables that the reading takes, are together of bulk at most 1048576: NARROWER than '..Said'. Prove '..Said' where nothing that the law and all that it calls make is longer than what came in: it says more and counts as full. Else prove '..UptoSaid'. A law counts once. -/
mutual
def uptoBulk {H : Type} : DataW H → Nat
  | .lit (.string bytes) => bytes.length + 1
  | .lit _ => 1
  | .nil => 1
  | .ptr d => uptoBulk d + 1
  | .slice elems spare => uptoBulkAll elems + uptoBulkAll spare + 1
  | .agg parts => uptoBulkAll parts + 1
  | .iface _ d => uptoBulk d + 1
  | .map entries => uptoBulkEntries entries + 1
  | .held _ => 1
def uptoBulkAll {H : Type} : List (DataW H) → Nat
  | [] => 0
  | d :: r => uptoBulk d + uptoBulkAll r
def uptoBulkEntries {H : Type} : List (Lit × DataW H) → Nat
  | [] => 0
  | x :: r => uptoBulkEntry x + uptoBulkEntries r
def uptoBulkEntry {H : Type} : Lit × DataW H → Nat
  | (.string bytes, d) => bytes.length + uptoBulk d + 1
  | (_, d) => uptoBulk d + 1
 end
def uptoSmall : (H : Type) → List (DataW H) → Bool := fun _ ds => decide (uptoBulkAll ds ≤ 1048576)
def OpenSpec.upto (s : _root_.Go.ChangeSpec) : _root_.Go.OpenSpec := { _root_.Go.OpenSpec.ofChange s with cond := some uptoSmall }

/-- 'laws.FnExactSameWorlds', WHERE WHAT IT READS IS OF BULK AT MOST 1048576: true; the input reads as it did. -/
def fnExactSameWorldsUptoRow : OpenClaim := { program := "ytooikkfldddjfaa", sum := "879ee32312ba5b5d8416ff4a9d4743abcf84dba9b48098cf1eee1434fe72cc78", func := "loop.example/g03014/laws.FnExactSameWorlds", spec := "fnExactSameWorlds", apart := false, narrowed := true }
def FnExactSameWorldsUptoSaid : Prop := fnExactSameWorldsUptoRow.holds Try.pinned (OpenSpec.upto fnExactSameWorldsSpec)

/-- 'laws.FnExactIsAct', WHERE WHAT IT READS IS OF BULK AT MOST 1048576: true; the input reads as it did. -/
def fnExactIsActUptoRow : OpenClaim := { program := "ytooikkfldddjfaa", sum := "879ee32312ba5b5d8416ff4a9d4743abcf84dba9b48098cf1eee1434fe72cc78", func := "loop.example/g03014/laws.FnExactIsAct", spec := "fnExactIsAct", unfollowed := true, recurses := true, apart := false, narrowed := true }
def FnExactIsActUptoSaid : Prop := fnExactIsActUptoRow.holds Try.pinned (OpenSpec.upto fnExactIsActSpec)

/-- 'laws.FnExactSameOffices', WHERE WHAT IT READS IS OF BULK AT MOST 1048576: true; the input reads as it did. -/
def fnExactSameOfficesUptoRow : OpenClaim := { program := "ytooikkfldddjfaa", sum := "879ee32312ba5b5d8416ff4a9d4743abcf84dba9b48098cf1eee1434fe72cc78", func := "loop.example/g03014/laws.FnExactSameOffices", spec := "fnExactSameOffices", apart := false, narrowed := true }
def FnExactSameOfficesUptoSaid : Prop := fnExactSameOfficesUptoRow.holds Try.pinned (OpenSpec.upto fnExactSameOfficesSpec)

end Rows
end Go.Proofs.Ytooikkfldddjfaa
