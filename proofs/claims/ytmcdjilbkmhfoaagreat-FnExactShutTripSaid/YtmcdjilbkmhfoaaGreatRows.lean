/-
  No cell of these rows narrows 'for every input' (looked for: loops, veiled, ifaces, maps, wideKeys, modest, calm, conditions, laid).
  DERIVED. THE GIVEN ROWS OF THIS SEAT. 12 by the template 'for every input the law returns true; each argument reads behind the call as it read before'; 0 by the template 'total and deterministic' (their statements: YtmcdjilbkmhfoaaGreatTotals.lean).
  GIVEN WITH THE SEED: the statements are not yours to turn. If you find one false, say at which input.
  Laid BY PROGRAM, IN A SANDBOX (cutbox-rows.mjs): the forced cells as the released guide's own fill.sh prints them over the translation 6f0450899e07d03f… (all of the seat's roots in one cut). By AI agents, Wed Nov 11 2026. No macro, syntax, notation, axiom, sorry.
-/
import Derived.Test.YtmcdjilbkmhfoaaGreatChecked
import GoSem.Claim
import GoSem.ClaimJoined
import GoSem.ClaimMapViews
import Derived.JoinedTies
import Derived.KernelRfl
namespace Go.Proofs.YtmcdjilbkmhfoaaGreat
/- THE CELL 'sum', in the pinned program and in every row, IS THE sha256 OF THE DUMP (.gsa) THAT YtmcdjilbkmhfoaaGreatProg.lean LOADS. Nothing in Lean hashes anything: it is a label: what it is worth is what the hold of that sum in a sandbox is worth. -/
noncomputable def Tryz.pinned : Pinned := { name := "ytmcdjilbkmhfoaagreat", sum := "6f0450899e07d03f1d3b755c620e25ab6b1716eb5c5bccfb604e22197615055e", checked := Tryz.checked }
namespace Rows
def none {H : Type} : Left H := { results := [], args := [] }

/-- 'laws.FnExactAdvanceTo': WHATEVER THE INPUT: true; the input reads as it did. -/
def fnExactAdvanceToSpec : ChangeSpec := { name := "fnExactAdvanceTo", fn := fun _ => fun
  | [d1, d2] => { results := [.lit (.bool true)], args := [d1, d2] }
  | _ => none }
def fnExactAdvanceToRow : OpenClaim := { program := "ytmcdjilbkmhfoaagreat", sum := "6f0450899e07d03f1d3b755c620e25ab6b1716eb5c5bccfb604e22197615055e", func := "loop.example/g03014/laws.FnExactAdvanceTo", spec := "fnExactAdvanceTo", recurses := true, apart := false }
def FnExactAdvanceToSaid : Prop := fnExactAdvanceToRow.holds Tryz.pinned (OpenSpec.ofChange fnExactAdvanceToSpec)

/-- ITS FALSE NEIGHBOUR: 'it returns false'. Refute it at one input. -/
def fnExactAdvanceToWrong : ChangeSpec := { name := "fnExactAdvanceTo", fn := fun _ => fun
  | [d1, d2] => { results := [.lit (.bool false)], args := [d1, d2] }
  | _ => none }
def FnExactAdvanceToWrongFalsely : Prop := fnExactAdvanceToRow.holds Tryz.pinned (OpenSpec.ofChange fnExactAdvanceToWrong)

/-- 'laws.FnTimeHalves': WHATEVER THE INPUT: true; the input reads as it did. -/
def fnTimeHalvesSpec : ChangeSpec := { name := "fnTimeHalves", fn := fun _ => fun
  | [d] => { results := [.lit (.bool true)], args := [d] }
  | _ => none }
def fnTimeHalvesRow : OpenClaim := { program := "ytmcdjilbkmhfoaagreat", sum := "6f0450899e07d03f1d3b755c620e25ab6b1716eb5c5bccfb604e22197615055e", func := "loop.example/g03014/laws.FnTimeHalves", spec := "fnTimeHalves", recurses := true, apart := false }
def FnTimeHalvesSaid : Prop := fnTimeHalvesRow.holds Tryz.pinned (OpenSpec.ofChange fnTimeHalvesSpec)

/-- ITS FALSE NEIGHBOUR: 'it returns false'. Refute it at one input. -/
def fnTimeHalvesWrong : ChangeSpec := { name := "fnTimeHalves", fn := fun _ => fun
  | [d] => { results := [.lit (.bool false)], args := [d] }
  | _ => none }
def FnTimeHalvesWrongFalsely : Prop := fnTimeHalvesRow.holds Tryz.pinned (OpenSpec.ofChange fnTimeHalvesWrong)

/-- 'laws.FnCarried': WHATEVER THE INPUT: true; the input reads as it did. -/
def fnCarriedSpec : ChangeSpec := { name := "fnCarried", fn := fun _ => fun
  | [d] => { results := [.lit (.bool true)], args := [d] }
  | _ => none }
def fnCarriedRow : OpenClaim := { program := "ytmcdjilbkmhfoaagreat", sum := "6f0450899e07d03f1d3b755c620e25ab6b1716eb5c5bccfb604e22197615055e", func := "loop.example/g03014/laws.FnCarried", spec := "fnCarried", recurses := true, apart := false }
def FnCarriedSaid : Prop := fnCarriedRow.holds Tryz.pinned (OpenSpec.ofChange fnCarriedSpec)

/-- ITS FALSE NEIGHBOUR: 'it returns false'. Refute it at one input. -/
def fnCarriedWrong : ChangeSpec := { name := "fnCarried", fn := fun _ => fun
  | [d] => { results := [.lit (.bool false)], args := [d] }
  | _ => none }
def FnCarriedWrongFalsely : Prop := fnCarriedRow.holds Tryz.pinned (OpenSpec.ofChange fnCarriedWrong)

/-- 'laws.FnArrives': WHATEVER THE INPUT: true; the input reads as it did. -/
def fnArrivesSpec : ChangeSpec := { name := "fnArrives", fn := fun _ => fun
  | [d] => { results := [.lit (.bool true)], args := [d] }
  | _ => none }
def fnArrivesRow : OpenClaim := { program := "ytmcdjilbkmhfoaagreat", sum := "6f0450899e07d03f1d3b755c620e25ab6b1716eb5c5bccfb604e22197615055e", func := "loop.example/g03014/laws.FnArrives", spec := "fnArrives", recurses := true, apart := false }
def FnArrivesSaid : Prop := fnArrivesRow.holds Tryz.pinned (OpenSpec.ofChange fnArrivesSpec)

/-- ITS FALSE NEIGHBOUR: 'it returns false'. Refute it at one input. -/
def fnArrivesWrong : ChangeSpec := { name := "fnArrives", fn := fun _ => fun
  | [d] => { results := [.lit (.bool false)], args := [d] }
  | _ => none }
def FnArrivesWrongFalsely : Prop := fnArrivesRow.holds Tryz.pinned (OpenSpec.ofChange fnArrivesWrong)

/-- 'laws.FnExactShutTrip': WHATEVER THE INPUT: true; the input reads as it did. -/
def fnExactShutTripSpec : ChangeSpec := { name := "fnExactShutTrip", fn := fun _ => fun
  | [d1, d2] => { results := [.lit (.bool true)], args := [d1, d2] }
  | _ => none }
def fnExactShutTripRow : OpenClaim := { program := "ytmcdjilbkmhfoaagreat", sum := "6f0450899e07d03f1d3b755c620e25ab6b1716eb5c5bccfb604e22197615055e", func := "loop.example/g03014/laws.FnExactShutTrip", spec := "fnExactShutTrip", inPlace := ["internal/reflectlite.ValueOf", "internal/reflectlite.Swapper", "(internal/reflectlite.Value).Len"], unfollowed := true, recurses := true, apart := false }
def FnExactShutTripSaid : Prop := fnExactShutTripRow.holds Tryz.pinned (OpenSpec.ofChange fnExactShutTripSpec)

/-- ITS FALSE NEIGHBOUR: 'it returns false'. Refute it at one input. -/
def fnExactShutTripWrong : ChangeSpec := { name := "fnExactShutTrip", fn := fun _ => fun
  | [d1, d2] => { results := [.lit (.bool false)], args := [d1, d2] }
  | _ => none }
def FnExactShutTripWrongFalsely : Prop := fnExactShutTripRow.holds Tryz.pinned (OpenSpec.ofChange fnExactShutTripWrong)

/-- 'laws.FnExactRetryOrders': WHATEVER THE INPUT: true; the input reads as it did. -/
def fnExactRetryOrdersSpec : ChangeSpec := { name := "fnExactRetryOrders", fn := fun _ => fun
  | [d] => { results := [.lit (.bool true)], args := [d] }
  | _ => none }
def fnExactRetryOrdersRow : OpenClaim := { program := "ytmcdjilbkmhfoaagreat", sum := "6f0450899e07d03f1d3b755c620e25ab6b1716eb5c5bccfb604e22197615055e", func := "loop.example/g03014/laws.FnExactRetryOrders", spec := "fnExactRetryOrders", inPlace := ["internal/reflectlite.ValueOf", "internal/reflectlite.Swapper", "(internal/reflectlite.Value).Len"], unfollowed := true, recurses := true, apart := false }
def FnExactRetryOrdersSaid : Prop := fnExactRetryOrdersRow.holds Tryz.pinned (OpenSpec.ofChange fnExactRetryOrdersSpec)

/-- ITS FALSE NEIGHBOUR: 'it returns false'. Refute it at one input. -/
def fnExactRetryOrdersWrong : ChangeSpec := { name := "fnExactRetryOrders", fn := fun _ => fun
  | [d] => { results := [.lit (.bool false)], args := [d] }
  | _ => none }
def FnExactRetryOrdersWrongFalsely : Prop := fnExactRetryOrdersRow.holds Tryz.pinned (OpenSpec.ofChange fnExactRetryOrdersWrong)

/-- 'laws.FnExactAcceptOrder': WHATEVER THE INPUT: true; the input reads as it did. -/
def fnExactAcceptOrderSpec : ChangeSpec := { name := "fnExactAcceptOrder", fn := fun _ => fun
  | [d1, d2, d3, d4, d5] => { results := [.lit (.bool true)], args := [d1, d2, d3, d4, d5] }
  | _ => none }
def fnExactAcceptOrderRow : OpenClaim := { program := "ytmcdjilbkmhfoaagreat", sum := "6f0450899e07d03f1d3b755c620e25ab6b1716eb5c5bccfb604e22197615055e", func := "loop.example/g03014/laws.FnExactAcceptOrder", spec := "fnExactAcceptOrder", inPlace := ["internal/reflectlite.ValueOf", "internal/reflectlite.Swapper", "(internal/reflectlite.Value).Len"], unfollowed := true, recurses := true, apart := false }
def FnExactAcceptOrderSaid : Prop := fnExactAcceptOrderRow.holds Tryz.pinned (OpenSpec.ofChange fnExactAcceptOrderSpec)

/-- ITS FALSE NEIGHBOUR: 'it returns false'. Refute it at one input. -/
def fnExactAcceptOrderWrong : ChangeSpec := { name := "fnExactAcceptOrder", fn := fun _ => fun
  | [d1, d2, d3, d4, d5] => { results := [.lit (.bool false)], args := [d1, d2, d3, d4, d5] }
  | _ => none }
def FnExactAcceptOrderWrongFalsely : Prop := fnExactAcceptOrderRow.holds Tryz.pinned (OpenSpec.ofChange fnExactAcceptOrderWrong)

/-- 'laws.FnWorldKeeps': WHATEVER THE INPUT: true; the input reads as it did. -/
def fnWorldKeepsSpec : ChangeSpec := { name := "fnWorldKeeps", fn := fun _ => fun
  | [d] => { results := [.lit (.bool true)], args := [d] }
  | _ => none }
def fnWorldKeepsRow : OpenClaim := { program := "ytmcdjilbkmhfoaagreat", sum := "6f0450899e07d03f1d3b755c620e25ab6b1716eb5c5bccfb604e22197615055e", func := "loop.example/g03014/laws.FnWorldKeeps", spec := "fnWorldKeeps", inPlace := ["internal/reflectlite.ValueOf", "internal/reflectlite.Swapper", "(internal/reflectlite.Value).Len", "internal/bytealg.abigen_runtime_cmpstring"], unfollowed := true, recurses := true, apart := false }
def FnWorldKeepsSaid : Prop := fnWorldKeepsRow.holds Tryz.pinned (OpenSpec.ofChange fnWorldKeepsSpec)

/-- ITS FALSE NEIGHBOUR: 'it returns false'. Refute it at one input. -/
def fnWorldKeepsWrong : ChangeSpec := { name := "fnWorldKeeps", fn := fun _ => fun
  | [d] => { results := [.lit (.bool false)], args := [d] }
  | _ => none }
def FnWorldKeepsWrongFalsely : Prop := fnWorldKeepsRow.holds Tryz.pinned (OpenSpec.ofChange fnWorldKeepsWrong)

/-- 'laws.FnShut': WHATEVER THE INPUT: true; the input reads as it did. -/
def fnShutSpec : ChangeSpec := { name := "fnShut", fn := fun _ => fun
  | [d] => { results := [.lit (.bool true)], args := [d] }
  | _ => none }
def fnShutRow : OpenClaim := { program := "ytmcdjilbkmhfoaagreat", sum := "6f0450899e07d03f1d3b755c620e25ab6b1716eb5c5bccfb604e22197615055e", func := "loop.example/g03014/laws.FnShut", spec := "fnShut", inPlace := ["internal/reflectlite.ValueOf", "internal/reflectlite.Swapper", "(internal/reflectlite.Value).Len", "internal/bytealg.abigen_runtime_cmpstring"], unfollowed := true, recurses := true, apart := false }
def FnShutSaid : Prop := fnShutRow.holds Tryz.pinned (OpenSpec.ofChange fnShutSpec)

/-- ITS FALSE NEIGHBOUR: 'it returns false'. Refute it at one input. -/
def fnShutWrong : ChangeSpec := { name := "fnShut", fn := fun _ => fun
  | [d] => { results := [.lit (.bool false)], args := [d] }
  | _ => none }
def FnShutWrongFalsely : Prop := fnShutRow.holds Tryz.pinned (OpenSpec.ofChange fnShutWrong)

/-- 'laws.FnRetry': WHATEVER THE INPUT: true; the input reads as it did. -/
def fnRetrySpec : ChangeSpec := { name := "fnRetry", fn := fun _ => fun
  | [d] => { results := [.lit (.bool true)], args := [d] }
  | _ => none }
def fnRetryRow : OpenClaim := { program := "ytmcdjilbkmhfoaagreat", sum := "6f0450899e07d03f1d3b755c620e25ab6b1716eb5c5bccfb604e22197615055e", func := "loop.example/g03014/laws.FnRetry", spec := "fnRetry", inPlace := ["internal/reflectlite.ValueOf", "internal/reflectlite.Swapper", "(internal/reflectlite.Value).Len"], unfollowed := true, recurses := true, apart := false }
def FnRetrySaid : Prop := fnRetryRow.holds Tryz.pinned (OpenSpec.ofChange fnRetrySpec)

/-- ITS FALSE NEIGHBOUR: 'it returns false'. Refute it at one input. -/
def fnRetryWrong : ChangeSpec := { name := "fnRetry", fn := fun _ => fun
  | [d] => { results := [.lit (.bool false)], args := [d] }
  | _ => none }
def FnRetryWrongFalsely : Prop := fnRetryRow.holds Tryz.pinned (OpenSpec.ofChange fnRetryWrong)

/-- 'laws.FnKept': WHATEVER THE INPUT: true; the input reads as it did. -/
def fnKeptSpec : ChangeSpec := { name := "fnKept", fn := fun _ => fun
  | [d] => { results := [.lit (.bool true)], args := [d] }
  | _ => none }
def fnKeptRow : OpenClaim := { program := "ytmcdjilbkmhfoaagreat", sum := "6f0450899e07d03f1d3b755c620e25ab6b1716eb5c5bccfb604e22197615055e", func := "loop.example/g03014/laws.FnKept", spec := "fnKept", inPlace := ["internal/reflectlite.ValueOf", "internal/reflectlite.Swapper", "(internal/reflectlite.Value).Len"], unfollowed := true, recurses := true, apart := false }
def FnKeptSaid : Prop := fnKeptRow.holds Tryz.pinned (OpenSpec.ofChange fnKeptSpec)

/-- ITS FALSE NEIGHBOUR: 'it returns false'. Refute it at one input. -/
def fnKeptWrong : ChangeSpec := { name := "fnKept", fn := fun _ => fun
  | [d] => { results := [.lit (.bool false)], args := [d] }
  | _ => none }
def FnKeptWrongFalsely : Prop := fnKeptRow.holds Tryz.pinned (OpenSpec.ofChange fnKeptWrong)

/-- 'laws.FnSeenAll': WHATEVER THE INPUT: true; the input reads as it did. -/
def fnSeenAllSpec : ChangeSpec := { name := "fnSeenAll", fn := fun _ => fun
  | [d] => { results := [.lit (.bool true)], args := [d] }
  | _ => none }
def fnSeenAllRow : OpenClaim := { program := "ytmcdjilbkmhfoaagreat", sum := "6f0450899e07d03f1d3b755c620e25ab6b1716eb5c5bccfb604e22197615055e", func := "loop.example/g03014/laws.FnSeenAll", spec := "fnSeenAll", inPlace := ["internal/reflectlite.ValueOf", "internal/reflectlite.Swapper", "(internal/reflectlite.Value).Len", "internal/bytealg.abigen_runtime_cmpstring"], unfollowed := true, recurses := true, apart := false }
def FnSeenAllSaid : Prop := fnSeenAllRow.holds Tryz.pinned (OpenSpec.ofChange fnSeenAllSpec)

/-- ITS FALSE NEIGHBOUR: 'it returns false'. Refute it at one input. -/
def fnSeenAllWrong : ChangeSpec := { name := "fnSeenAll", fn := fun _ => fun
  | [d] => { results := [.lit (.bool false)], args := [d] }
  | _ => none }
def FnSeenAllWrongFalsely : Prop := fnSeenAllRow.holds Tryz.pinned (OpenSpec.ofChange fnSeenAllWrong)

/- THE SECOND FORM. 'bulk': how many values and letters a reading holds, each counted each time it is reached (what is shared counts as often as it is met; a slice's spare places count too). A statement '..UptoSaid' is the law's where the arguments, and the package variables that the reading takes, are together of bulk at most 1048576: NARROWER than '..Said'. Prove '..Said' where nothing that the law and all that it calls make is longer than what came in: it says more and counts as full. Else prove '..UptoSaid'. A law counts once. -/
mutual
def uptoBulk {H : Type} : DataW H → Nat
  | .lit (.string bytes) => bytes.length + 1
  | .lit _ => 1
  | .nil => 1
  | .ptr d => uptoBulk d + 1
  | .slice elems spare => uptoBulkAll elems + uptoBulkAll spare + 1
  | .agg parts => uptoBulkAll parts + 1
  | .iface _ d => uptoBulk d + 1
  | .map entries => uptoBulkEntries entries + 1
  | .held _ => 1
def uptoBulkAll {H : Type} : List (DataW H) → Nat
  | [] => 0
  | d :: r => uptoBulk d + uptoBulkAll r
def uptoBulkEntries {H : Type} : List (Lit × DataW H) → Nat
  | [] => 0
  | x :: r => uptoBulkEntry x + uptoBulkEntries r
def uptoBulkEntry {H : Type} : Lit × DataW H → Nat
  | (.string bytes, d) => bytes.length + uptoBulk d + 1
  | (_, d) => uptoBulk d + 1
 end
def uptoSmall : (H : Type) → List (DataW H) → Bool := fun _ ds => decide (uptoBulkAll ds ≤ 1048576)
def OpenSpec.upto (s : _root_.Go.ChangeSpec) : _root_.Go.OpenSpec := { _root_.Go.OpenSpec.ofChange s with cond := some uptoSmall }

/-- 'laws.FnExactAdvanceTo', WHERE WHAT IT READS IS OF BULK AT MOST 1048576: true; the input reads as it did. -/
def fnExactAdvanceToUptoRow : OpenClaim := { program := "ytmcdjilbkmhfoaagreat", sum := "6f0450899e07d03f1d3b755c620e25ab6b1716eb5c5bccfb604e22197615055e", func := "loop.example/g03014/laws.FnExactAdvanceTo", spec := "fnExactAdvanceTo", recurses := true, apart := false, narrowed := true }
def FnExactAdvanceToUptoSaid : Prop := fnExactAdvanceToUptoRow.holds Tryz.pinned (OpenSpec.upto fnExactAdvanceToSpec)

/-- 'laws.FnTimeHalves', WHERE WHAT IT READS IS OF BULK AT MOST 1048576: true; the input reads as it did. -/
def fnTimeHalvesUptoRow : OpenClaim := { program := "ytmcdjilbkmhfoaagreat", sum := "6f0450899e07d03f1d3b755c620e25ab6b1716eb5c5bccfb604e22197615055e", func := "loop.example/g03014/laws.FnTimeHalves", spec := "fnTimeHalves", recurses := true, apart := false, narrowed := true }
def FnTimeHalvesUptoSaid : Prop := fnTimeHalvesUptoRow.holds Tryz.pinned (OpenSpec.upto fnTimeHalvesSpec)

/-- 'laws.FnCarried', WHERE WHAT IT READS IS OF BULK AT MOST 1048576: true; the input reads as it did. -/
def fnCarriedUptoRow : OpenClaim := { program := "ytmcdjilbkmhfoaagreat", sum := "6f0450899e07d03f1d3b755c620e25ab6b1716eb5c5bccfb604e22197615055e", func := "loop.example/g03014/laws.FnCarried", spec := "fnCarried", recurses := true, apart := false, narrowed := true }
def FnCarriedUptoSaid : Prop := fnCarriedUptoRow.holds Tryz.pinned (OpenSpec.upto fnCarriedSpec)

/-- 'laws.FnArrives', WHERE WHAT IT READS IS OF BULK AT MOST 1048576: true; the input reads as it did. -/
def fnArrivesUptoRow : OpenClaim := { program := "ytmcdjilbkmhfoaagreat", sum := "6f0450899e07d03f1d3b755c620e25ab6b1716eb5c5bccfb604e22197615055e", func := "loop.example/g03014/laws.FnArrives", spec := "fnArrives", recurses := true, apart := false, narrowed := true }
def FnArrivesUptoSaid : Prop := fnArrivesUptoRow.holds Tryz.pinned (OpenSpec.upto fnArrivesSpec)

/-- 'laws.FnExactShutTrip', WHERE WHAT IT READS IS OF BULK AT MOST 1048576: true; the input reads as it did. -/
def fnExactShutTripUptoRow : OpenClaim := { program := "ytmcdjilbkmhfoaagreat", sum := "6f0450899e07d03f1d3b755c620e25ab6b1716eb5c5bccfb604e22197615055e", func := "loop.example/g03014/laws.FnExactShutTrip", spec := "fnExactShutTrip", inPlace := ["internal/reflectlite.ValueOf", "internal/reflectlite.Swapper", "(internal/reflectlite.Value).Len"], unfollowed := true, recurses := true, apart := false, narrowed := true }
def FnExactShutTripUptoSaid : Prop := fnExactShutTripUptoRow.holds Tryz.pinned (OpenSpec.upto fnExactShutTripSpec)

/-- 'laws.FnExactRetryOrders', WHERE WHAT IT READS IS OF BULK AT MOST 1048576: true; the input reads as it did. -/
def fnExactRetryOrdersUptoRow : OpenClaim := { program := "ytmcdjilbkmhfoaagreat", sum := "6f0450899e07d03f1d3b755c620e25ab6b1716eb5c5bccfb604e22197615055e", func := "loop.example/g03014/laws.FnExactRetryOrders", spec := "fnExactRetryOrders", inPlace := ["internal/reflectlite.ValueOf", "internal/reflectlite.Swapper", "(internal/reflectlite.Value).Len"], unfollowed := true, recurses := true, apart := false, narrowed := true }
def FnExactRetryOrdersUptoSaid : Prop := fnExactRetryOrdersUptoRow.holds Tryz.pinned (OpenSpec.upto fnExactRetryOrdersSpec)

/-- 'laws.FnExactAcceptOrder', WHERE WHAT IT READS IS OF BULK AT MOST 1048576: true; the input reads as it did. -/
def fnExactAcceptOrderUptoRow : OpenClaim := { program := "ytmcdjilbkmhfoaagreat", sum := "6f0450899e07d03f1d3b755c620e25ab6b1716eb5c5bccfb604e22197615055e", func := "loop.example/g03014/laws.FnExactAcceptOrder", spec := "fnExactAcceptOrder", inPlace := ["internal/reflectlite.ValueOf", "internal/reflectlite.Swapper", "(internal/reflectlite.Value).Len"], unfollowed := true, recurses := true, apart := false, narrowed := true }
def FnExactAcceptOrderUptoSaid : Prop := fnExactAcceptOrderUptoRow.holds Tryz.pinned (OpenSpec.upto fnExactAcceptOrderSpec)

/-- 'laws.FnWorldKeeps', WHERE WHAT IT READS IS OF BULK AT MOST 1048576: true; the input reads as it did. -/
def fnWorldKeepsUptoRow : OpenClaim := { program := "ytmcdjilbkmhfoaagreat", sum := "6f0450899e07d03f1d3b755c620e25ab6b1716eb5c5bccfb604e22197615055e", func := "loop.example/g03014/laws.FnWorldKeeps", spec := "fnWorldKeeps", inPlace := ["internal/reflectlite.ValueOf", "internal/reflectlite.Swapper", "(internal/reflectlite.Value).Len", "internal/bytealg.abigen_runtime_cmpstring"], unfollowed := true, recurses := true, apart := false, narrowed := true }
def FnWorldKeepsUptoSaid : Prop := fnWorldKeepsUptoRow.holds Tryz.pinned (OpenSpec.upto fnWorldKeepsSpec)

/-- 'laws.FnShut', WHERE WHAT IT READS IS OF BULK AT MOST 1048576: true; the input reads as it did. -/
def fnShutUptoRow : OpenClaim := { program := "ytmcdjilbkmhfoaagreat", sum := "6f0450899e07d03f1d3b755c620e25ab6b1716eb5c5bccfb604e22197615055e", func := "loop.example/g03014/laws.FnShut", spec := "fnShut", inPlace := ["internal/reflectlite.ValueOf", "internal/reflectlite.Swapper", "(internal/reflectlite.Value).Len", "internal/bytealg.abigen_runtime_cmpstring"], unfollowed := true, recurses := true, apart := false, narrowed := true }
def FnShutUptoSaid : Prop := fnShutUptoRow.holds Tryz.pinned (OpenSpec.upto fnShutSpec)

/-- 'laws.FnRetry', WHERE WHAT IT READS IS OF BULK AT MOST 1048576: true; the input reads as it did. -/
def fnRetryUptoRow : OpenClaim := { program := "ytmcdjilbkmhfoaagreat", sum := "6f0450899e07d03f1d3b755c620e25ab6b1716eb5c5bccfb604e22197615055e", func := "loop.example/g03014/laws.FnRetry", spec := "fnRetry", inPlace := ["internal/reflectlite.ValueOf", "internal/reflectlite.Swapper", "(internal/reflectlite.Value).Len"], unfollowed := true, recurses := true, apart := false, narrowed := true }
def FnRetryUptoSaid : Prop := fnRetryUptoRow.holds Tryz.pinned (OpenSpec.upto fnRetrySpec)

/-- 'laws.FnKept', WHERE WHAT IT READS IS OF BULK AT MOST 1048576: true; the input reads as it did. -/
def fnKeptUptoRow : OpenClaim := { program := "ytmcdjilbkmhfoaagreat", sum := "6f0450899e07d03f1d3b755c620e25ab6b1716eb5c5bccfb604e22197615055e", func := "loop.example/g03014/laws.FnKept", spec := "fnKept", inPlace := ["internal/reflectlite.ValueOf", "internal/reflectlite.Swapper", "(internal/reflectlite.Value).Len"], unfollowed := true, recurses := true, apart := false, narrowed := true }
def FnKeptUptoSaid : Prop := fnKeptUptoRow.holds Tryz.pinned (OpenSpec.upto fnKeptSpec)

/-- 'laws.FnSeenAll', WHERE WHAT IT READS IS OF BULK AT MOST 1048576: true; the input reads as it did. -/
def fnSeenAllUptoRow : OpenClaim := { program := "ytmcdjilbkmhfoaagreat", sum := "6f0450899e07d03f1d3b755c620e25ab6b1716eb5c5bccfb604e22197615055e", func := "loop.example/g03014/laws.FnSeenAll", spec := "fnSeenAll", inPlace := ["internal/reflectlite.ValueOf", "internal/reflectlite.Swapper", "(internal/reflectlite.Value).Len", "internal/bytealg.abigen_runtime_cmpstring"], unfollowed := true, recurses := true, apart := false, narrowed := true }
def FnSeenAllUptoSaid : Prop := fnSeenAllUptoRow.holds Tryz.pinned (OpenSpec.upto fnSeenAllSpec)

end Rows
end Go.Proofs.YtmcdjilbkmhfoaaGreat
