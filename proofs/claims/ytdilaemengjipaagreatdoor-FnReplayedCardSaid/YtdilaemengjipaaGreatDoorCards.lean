/-
  DERIVED. GIVEN WITH THE SEED: THE CARDS: each row of YtdilaemengjipaaGreatDoorRows.lean that lists a variable, with what it lists TIED to the program's text (the seventh form; the later family's looks); each row that meets fmt, with fmt's text TOLD by the authors' own Lean function (tested against real Go, not proved from fmt's source: count such statements apart). THE CARD IS WHAT COUNTS. Prove the row's statement (the work); the ties are given (YtdilaemengjipaaGreatDoorTie.lean); close each card by the builder's one call (the guide's Derived/Test/ToyasCard.lean, 'card_holds'). Laid BY PROGRAM, IN A SANDBOX (cutbox-door.mjs). By AI agents, Wed Nov 11 2026. No macro, syntax, notation, axiom, sorry.
-/
import Derived.Test.YtdilaemengjipaaGreatDoorRows
import GoSem.ClaimSeven
namespace Go.Proofs.YtdilaemengjipaaGreatDoor
namespace Rows

/-- THE TIED CARD OF 'laws.FnActKeeps'. -/
def fnActKeepsCard : Claim7 := { stood := { row := fnActKeepsRow, standIns := [], harness := (true, "85abed5d2b73ad9d346d0520e0be9189fdbd5b7b1f01ab74970bd0f1e2b056ec"), looks := true }, kinds := [], alts := [], laidByText := true, laidKinds := [.data, .data, .data], laidTests := true, laidLooks := .later }
def FnActKeepsCardSaid : Prop := Claim7.holds Tryz.pinned (.plain (OpenSpec.ofChange fnActKeepsSpec)) fnActKeepsCard

/-- THE TIED CARD OF 'laws.FnJournal'. -/
def fnJournalCard : Claim7 := { stood := { row := fnJournalRow, standIns := [], harness := (true, "85abed5d2b73ad9d346d0520e0be9189fdbd5b7b1f01ab74970bd0f1e2b056ec"), looks := true }, kinds := [], alts := [], laidByText := true, laidKinds := [.data, .data, .data, .data, .sentinel, .sentinel, .pinned], laidTests := true, laidLooks := .later }
def FnJournalCardSaid : Prop := Claim7.holds Tryz.pinned (.plain (OpenSpec.ofChange fnJournalSpec)) fnJournalCard

/-- THE TIED CARD OF 'laws.FnReplayed'. -/
def fnReplayedCard : Claim7 := { stood := { row := fnReplayedRow, standIns := [], harness := (true, "85abed5d2b73ad9d346d0520e0be9189fdbd5b7b1f01ab74970bd0f1e2b056ec"), looks := true }, kinds := [], alts := [], laidByText := true, laidKinds := [.data, .data, .data, .data, .sentinel, .sentinel, .pinned], laidTests := true, laidLooks := .later }
def FnReplayedCardSaid : Prop := Claim7.holds Tryz.pinned (.plain (OpenSpec.ofChange fnReplayedSpec)) fnReplayedCard

/-- THE SECOND FORM's CARD OF 'laws.FnActKeeps'. -/
def fnActKeepsUptoCard : Claim7 := { stood := { row := fnActKeepsUptoRow, standIns := [], harness := (true, "85abed5d2b73ad9d346d0520e0be9189fdbd5b7b1f01ab74970bd0f1e2b056ec"), looks := true }, kinds := [], alts := [], laidByText := true, laidKinds := [.data, .data, .data], laidTests := true, laidLooks := .later }
def FnActKeepsUptoCardSaid : Prop := Claim7.holds Tryz.pinned (.plain (OpenSpec.upto fnActKeepsSpec)) fnActKeepsUptoCard

/-- THE SECOND FORM's CARD OF 'laws.FnJournal'. -/
def fnJournalUptoCard : Claim7 := { stood := { row := fnJournalUptoRow, standIns := [], harness := (true, "85abed5d2b73ad9d346d0520e0be9189fdbd5b7b1f01ab74970bd0f1e2b056ec"), looks := true }, kinds := [], alts := [], laidByText := true, laidKinds := [.data, .data, .data, .data, .sentinel, .sentinel, .pinned], laidTests := true, laidLooks := .later }
def FnJournalUptoCardSaid : Prop := Claim7.holds Tryz.pinned (.plain (OpenSpec.upto fnJournalSpec)) fnJournalUptoCard

/-- THE SECOND FORM's CARD OF 'laws.FnReplayed'. -/
def fnReplayedUptoCard : Claim7 := { stood := { row := fnReplayedUptoRow, standIns := [], harness := (true, "85abed5d2b73ad9d346d0520e0be9189fdbd5b7b1f01ab74970bd0f1e2b056ec"), looks := true }, kinds := [], alts := [], laidByText := true, laidKinds := [.data, .data, .data, .data, .sentinel, .sentinel, .pinned], laidTests := true, laidLooks := .later }
def FnReplayedUptoCardSaid : Prop := Claim7.holds Tryz.pinned (.plain (OpenSpec.upto fnReplayedSpec)) fnReplayedUptoCard
end Rows
end Go.Proofs.YtdilaemengjipaaGreatDoor
