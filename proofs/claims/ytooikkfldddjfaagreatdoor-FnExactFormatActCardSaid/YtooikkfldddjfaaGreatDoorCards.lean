/-
  DERIVED. GIVEN WITH THE SEED: THE CARDS: each row of YtooikkfldddjfaaGreatDoorRows.lean that lists a variable, with what it lists TIED to the program's text (the seventh form; the later family's looks); each row that meets fmt, with fmt's text TOLD by the authors' own Lean function (tested against real Go, not proved from fmt's source: count such statements apart). THE CARD IS WHAT COUNTS. Prove the row's statement (the work); the ties are given (YtooikkfldddjfaaGreatDoorTie.lean); close each card by the builder's one call (the guide's Derived/Test/ToyasCard.lean, 'card_holds'). Laid BY PROGRAM, IN A SANDBOX (cutbox-door.mjs). By AI agents, Wed Nov 11 2026. No macro, syntax, notation, axiom, sorry.
-/
import Derived.Test.YtooikkfldddjfaaGreatDoorRows
import GoSem.ClaimSeven
namespace Go.Proofs.YtooikkfldddjfaaGreatDoor
namespace Rows

/-- THE TIED CARD OF 'laws.FnExactFormatAct'. -/
def fnExactFormatActCard : Claim7 := { stood := { row := fnExactFormatActRow, standIns := [], harness := (true, "d1bdeaedc78dbe769c4088325b154fe58f71331d8ad9f4a8877f949504a779be"), looks := false }, kinds := [], alts := [], laidByText := true, laidKinds := [.data, .data, .data], laidTests := true, laidLooks := .later }
def FnExactFormatActCardSaid : Prop := Claim7.holds Tryz.pinned (.plain (OpenSpec.ofChange fnExactFormatActSpec)) fnExactFormatActCard

/-- THE TIED CARD OF 'laws.FnExactFormatJournal'. -/
def fnExactFormatJournalCard : Claim7 := { stood := { row := fnExactFormatJournalRow, standIns := [], harness := (true, "d1bdeaedc78dbe769c4088325b154fe58f71331d8ad9f4a8877f949504a779be"), looks := false }, kinds := [], alts := [], laidByText := true, laidKinds := [.data, .data, .data], laidTests := true, laidLooks := .later }
def FnExactFormatJournalCardSaid : Prop := Claim7.holds Tryz.pinned (.plain (OpenSpec.ofChange fnExactFormatJournalSpec)) fnExactFormatJournalCard

/-- THE SECOND FORM's CARD OF 'laws.FnExactFormatAct'. -/
def fnExactFormatActUptoCard : Claim7 := { stood := { row := fnExactFormatActUptoRow, standIns := [], harness := (true, "d1bdeaedc78dbe769c4088325b154fe58f71331d8ad9f4a8877f949504a779be"), looks := false }, kinds := [], alts := [], laidByText := true, laidKinds := [.data, .data, .data], laidTests := true, laidLooks := .later }
def FnExactFormatActUptoCardSaid : Prop := Claim7.holds Tryz.pinned (.plain (OpenSpec.upto fnExactFormatActSpec)) fnExactFormatActUptoCard

/-- THE SECOND FORM's CARD OF 'laws.FnExactFormatJournal'. -/
def fnExactFormatJournalUptoCard : Claim7 := { stood := { row := fnExactFormatJournalUptoRow, standIns := [], harness := (true, "d1bdeaedc78dbe769c4088325b154fe58f71331d8ad9f4a8877f949504a779be"), looks := false }, kinds := [], alts := [], laidByText := true, laidKinds := [.data, .data, .data], laidTests := true, laidLooks := .later }
def FnExactFormatJournalUptoCardSaid : Prop := Claim7.holds Tryz.pinned (.plain (OpenSpec.upto fnExactFormatJournalSpec)) fnExactFormatJournalUptoCard
end Rows
end Go.Proofs.YtooikkfldddjfaaGreatDoor
