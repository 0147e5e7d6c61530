/-
  DERIVED. GIVEN WITH THE SEED: THE CARDS: each row of YtgdcengoopjplaaDoorRows.lean that lists a variable, with what it lists TIED to the program's text (the seventh form; the later family's looks); each row that meets fmt, with fmt's text TOLD by the authors' own Lean function (tested against real Go, not proved from fmt's source: count such statements apart). THE CARD IS WHAT COUNTS. Prove the row's statement (the work); the ties are given (YtgdcengoopjplaaDoorTie.lean); close each card by the builder's one call (the guide's Derived/Test/ToyasCard.lean, 'card_holds'). Laid BY PROGRAM, IN A SANDBOX (cutbox-door.mjs). By AI agents, Wed Nov 11 2026. No macro, syntax, notation, axiom, sorry.
-/
import Derived.Test.YtgdcengoopjplaaDoorRows
import GoSem.ClaimSeven
namespace Go.Proofs.YtgdcengoopjplaaDoor
namespace Rows

/-- THE TIED CARD OF 'laws.FnExactStatement'. -/
def fnExactStatementCard : Claim7 := { stood := { row := fnExactStatementRow, standIns := [], harness := (true, "1151ca74d15761f0b42379eefbed3ee35e30b5b417d7c191f01bf6cb6c7d0f9b"), looks := false }, kinds := [], alts := [], laidByText := true, laidKinds := [.data, .data, .data], laidTests := true, laidLooks := .later }
def FnExactStatementCardSaid : Prop := Claim7.holds Tryd.pinned (.plain (OpenSpec.ofChange fnExactStatementSpec)) fnExactStatementCard

/-- THE TIED CARD OF 'laws.FnBooks'. -/
def fnBooksCard : Claim7 := { stood := { row := fnBooksRow, standIns := [], harness := (true, "1151ca74d15761f0b42379eefbed3ee35e30b5b417d7c191f01bf6cb6c7d0f9b"), looks := false }, kinds := [], alts := [], laidByText := true, laidKinds := [.data, .data, .data], laidTests := true, laidLooks := .later }
def FnBooksCardSaid : Prop := Claim7.holds Tryd.pinned (.plain (OpenSpec.ofChange fnBooksSpec)) fnBooksCard

/-- THE SECOND FORM's CARD OF 'laws.FnExactStatement'. -/
def fnExactStatementUptoCard : Claim7 := { stood := { row := fnExactStatementUptoRow, standIns := [], harness := (true, "1151ca74d15761f0b42379eefbed3ee35e30b5b417d7c191f01bf6cb6c7d0f9b"), looks := false }, kinds := [], alts := [], laidByText := true, laidKinds := [.data, .data, .data], laidTests := true, laidLooks := .later }
def FnExactStatementUptoCardSaid : Prop := Claim7.holds Tryd.pinned (.plain (OpenSpec.upto fnExactStatementSpec)) fnExactStatementUptoCard

/-- THE SECOND FORM's CARD OF 'laws.FnBooks'. -/
def fnBooksUptoCard : Claim7 := { stood := { row := fnBooksUptoRow, standIns := [], harness := (true, "1151ca74d15761f0b42379eefbed3ee35e30b5b417d7c191f01bf6cb6c7d0f9b"), looks := false }, kinds := [], alts := [], laidByText := true, laidKinds := [.data, .data, .data], laidTests := true, laidLooks := .later }
def FnBooksUptoCardSaid : Prop := Claim7.holds Tryd.pinned (.plain (OpenSpec.upto fnBooksSpec)) fnBooksUptoCard
end Rows
end Go.Proofs.YtgdcengoopjplaaDoor
