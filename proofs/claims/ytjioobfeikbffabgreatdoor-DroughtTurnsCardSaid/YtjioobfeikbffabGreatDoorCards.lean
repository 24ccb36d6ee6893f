/-
  DERIVED. GIVEN WITH THE SEED: THE CARDS: each row of YtjioobfeikbffabGreatDoorRows.lean that lists a variable, with what it lists TIED to the program's text (the seventh form; the later family's looks); each row that meets fmt, with fmt's text TOLD by the authors' own Lean function (tested against real Go, not proved from fmt's source: count such statements apart). THE CARD IS WHAT COUNTS. Prove the row's statement (the work); the ties are given (YtjioobfeikbffabGreatDoorTie.lean); close each card by the builder's one call (the guide's Derived/Test/ToyasCard.lean, 'card_holds'). Laid BY PROGRAM, IN A SANDBOX (cutbox-door.mjs). By AI agents, Wed Nov 11 2026. No macro, syntax, notation, axiom, sorry.
-/
import Derived.Test.YtjioobfeikbffabGreatDoorRows
import GoSem.ClaimSeven
namespace Go.Proofs.YtjioobfeikbffabGreatDoor
namespace Rows

/-- THE TIED CARD OF 'quinarialaw07.DroughtWidened'. -/
def droughtWidenedCard : Claim7 := { stood := { row := droughtWidenedRow, standIns := [], harness := (true, "605176bc61018f00465620714c1e0869168517d74690ffdc3cbf548e1c53f26e"), looks := true }, kinds := [], alts := [], laidByText := true, laidKinds := [.data, .data, .data, .data, .pinned], laidTests := true, laidLooks := .later }
def DroughtWidenedCardSaid : Prop := Claim7.holds Tryz.pinned (.plain (OpenSpec.ofChange droughtWidenedSpec)) droughtWidenedCard

/-- THE TIED CARD OF 'quinarialaw07.DroughtSwaps'. -/
def droughtSwapsCard : Claim7 := { stood := { row := droughtSwapsRow, standIns := [], harness := (true, "605176bc61018f00465620714c1e0869168517d74690ffdc3cbf548e1c53f26e"), looks := true }, kinds := [], alts := [], laidByText := true, laidKinds := [.data, .data, .data, .data, .pinned], laidTests := true, laidLooks := .later }
def DroughtSwapsCardSaid : Prop := Claim7.holds Tryz.pinned (.plain (OpenSpec.ofChange droughtSwapsSpec)) droughtSwapsCard

/-- THE TIED CARD OF 'quinarialaw07.DroughtJust'. -/
def droughtJustCard : Claim7 := { stood := { row := droughtJustRow, standIns := [], harness := (true, "605176bc61018f00465620714c1e0869168517d74690ffdc3cbf548e1c53f26e"), looks := true }, kinds := [], alts := [], laidByText := true, laidKinds := [.data, .data, .data, .data, .pinned], laidTests := true, laidLooks := .later }
def DroughtJustCardSaid : Prop := Claim7.holds Tryz.pinned (.plain (OpenSpec.ofChange droughtJustSpec)) droughtJustCard

/-- THE TIED CARD OF 'quinarialaw07.DroughtTurns'. -/
def droughtTurnsCard : Claim7 := { stood := { row := droughtTurnsRow, standIns := [], harness := (true, "605176bc61018f00465620714c1e0869168517d74690ffdc3cbf548e1c53f26e"), looks := true }, kinds := [], alts := [], laidByText := true, laidKinds := [.data, .data, .data, .data, .pinned], laidTests := true, laidLooks := .later }
def DroughtTurnsCardSaid : Prop := Claim7.holds Tryz.pinned (.plain (OpenSpec.ofChange droughtTurnsSpec)) droughtTurnsCard

/-- THE TIED CARD OF 'quinarialaw07.DroughtTurned'. -/
def droughtTurnedCard : Claim7 := { stood := { row := droughtTurnedRow, standIns := [], harness := (true, "605176bc61018f00465620714c1e0869168517d74690ffdc3cbf548e1c53f26e"), looks := true }, kinds := [], alts := [], laidByText := true, laidKinds := [.data, .data, .data, .data, .pinned], laidTests := true, laidLooks := .later }
def DroughtTurnedCardSaid : Prop := Claim7.holds Tryz.pinned (.plain (OpenSpec.ofChange droughtTurnedSpec)) droughtTurnedCard

/-- THE TIED CARD OF 'quinarialaw07.DroughtSwapped'. -/
def droughtSwappedCard : Claim7 := { stood := { row := droughtSwappedRow, standIns := [], harness := (true, "605176bc61018f00465620714c1e0869168517d74690ffdc3cbf548e1c53f26e"), looks := true }, kinds := [], alts := [], laidByText := true, laidKinds := [.data, .data, .data, .data, .pinned], laidTests := true, laidLooks := .later }
def DroughtSwappedCardSaid : Prop := Claim7.holds Tryz.pinned (.plain (OpenSpec.ofChange droughtSwappedSpec)) droughtSwappedCard

/-- THE TIED CARD OF 'quinarialaw07.DroughtPrints'. -/
def droughtPrintsCard : Claim7 := { stood := { row := droughtPrintsRow, standIns := [], harness := (true, "605176bc61018f00465620714c1e0869168517d74690ffdc3cbf548e1c53f26e"), looks := true }, kinds := [], alts := [], laidByText := true, laidKinds := [.data, .data, .data, .data, .pinned], laidTests := true, laidLooks := .later }
def DroughtPrintsCardSaid : Prop := Claim7.holds Tryz.pinned (.plain (OpenSpec.ofChange droughtPrintsSpec)) droughtPrintsCard

/-- THE TIED CARD OF 'quinarialaw07.DroughtReads'. -/
def droughtReadsCard : Claim7 := { stood := { row := droughtReadsRow, standIns := [], harness := (true, "605176bc61018f00465620714c1e0869168517d74690ffdc3cbf548e1c53f26e"), looks := true }, kinds := [], alts := [], laidByText := true, laidKinds := [.data, .data, .data, .data, .pinned], laidTests := true, laidLooks := .later }
def DroughtReadsCardSaid : Prop := Claim7.holds Tryz.pinned (.plain (OpenSpec.ofChange droughtReadsSpec)) droughtReadsCard

/-- THE TIED CARD OF 'quinarialaw07.DroughtSpoilt'. -/
def droughtSpoiltCard : Claim7 := { stood := { row := droughtSpoiltRow, standIns := [], harness := (true, "605176bc61018f00465620714c1e0869168517d74690ffdc3cbf548e1c53f26e"), looks := true }, kinds := [], alts := [], laidByText := true, laidKinds := [.data, .data, .data, .data, .pinned], laidTests := true, laidLooks := .later }
def DroughtSpoiltCardSaid : Prop := Claim7.holds Tryz.pinned (.plain (OpenSpec.ofChange droughtSpoiltSpec)) droughtSpoiltCard

/-- THE TIED CARD OF 'quinarialaw07.DroughtFits'. -/
def droughtFitsCard : Claim7 := { stood := { row := droughtFitsRow, standIns := [], harness := (true, "605176bc61018f00465620714c1e0869168517d74690ffdc3cbf548e1c53f26e"), looks := true }, kinds := [], alts := [], laidByText := true, laidKinds := [.data, .data, .data, .data, .pinned], laidTests := true, laidLooks := .later }
def DroughtFitsCardSaid : Prop := Claim7.holds Tryz.pinned (.plain (OpenSpec.ofChange droughtFitsSpec)) droughtFitsCard

/-- THE SECOND FORM's CARD OF 'quinarialaw07.DroughtWidened'. -/
def droughtWidenedUptoCard : Claim7 := { stood := { row := droughtWidenedUptoRow, standIns := [], harness := (true, "605176bc61018f00465620714c1e0869168517d74690ffdc3cbf548e1c53f26e"), looks := true }, kinds := [], alts := [], laidByText := true, laidKinds := [.data, .data, .data, .data, .pinned], laidTests := true, laidLooks := .later }
def DroughtWidenedUptoCardSaid : Prop := Claim7.holds Tryz.pinned (.plain (OpenSpec.upto droughtWidenedSpec)) droughtWidenedUptoCard

/-- THE SECOND FORM's CARD OF 'quinarialaw07.DroughtSwaps'. -/
def droughtSwapsUptoCard : Claim7 := { stood := { row := droughtSwapsUptoRow, standIns := [], harness := (true, "605176bc61018f00465620714c1e0869168517d74690ffdc3cbf548e1c53f26e"), looks := true }, kinds := [], alts := [], laidByText := true, laidKinds := [.data, .data, .data, .data, .pinned], laidTests := true, laidLooks := .later }
def DroughtSwapsUptoCardSaid : Prop := Claim7.holds Tryz.pinned (.plain (OpenSpec.upto droughtSwapsSpec)) droughtSwapsUptoCard

/-- THE SECOND FORM's CARD OF 'quinarialaw07.DroughtJust'. -/
def droughtJustUptoCard : Claim7 := { stood := { row := droughtJustUptoRow, standIns := [], harness := (true, "605176bc61018f00465620714c1e0869168517d74690ffdc3cbf548e1c53f26e"), looks := true }, kinds := [], alts := [], laidByText := true, laidKinds := [.data, .data, .data, .data, .pinned], laidTests := true, laidLooks := .later }
def DroughtJustUptoCardSaid : Prop := Claim7.holds Tryz.pinned (.plain (OpenSpec.upto droughtJustSpec)) droughtJustUptoCard

/-- THE SECOND FORM's CARD OF 'quinarialaw07.DroughtTurns'. -/
def droughtTurnsUptoCard : Claim7 := { stood := { row := droughtTurnsUptoRow, standIns := [], harness := (true, "605176bc61018f00465620714c1e0869168517d74690ffdc3cbf548e1c53f26e"), looks := true }, kinds := [], alts := [], laidByText := true, laidKinds := [.data, .data, .data, .data, .pinned], laidTests := true, laidLooks := .later }
def DroughtTurnsUptoCardSaid : Prop := Claim7.holds Tryz.pinned (.plain (OpenSpec.upto droughtTurnsSpec)) droughtTurnsUptoCard

/-- THE SECOND FORM's CARD OF 'quinarialaw07.DroughtTurned'. -/
def droughtTurnedUptoCard : Claim7 := { stood := { row := droughtTurnedUptoRow, standIns := [], harness := (true, "605176bc61018f00465620714c1e0869168517d74690ffdc3cbf548e1c53f26e"), looks := true }, kinds := [], alts := [], laidByText := true, laidKinds := [.data, .data, .data, .data, .pinned], laidTests := true, laidLooks := .later }
def DroughtTurnedUptoCardSaid : Prop := Claim7.holds Tryz.pinned (.plain (OpenSpec.upto droughtTurnedSpec)) droughtTurnedUptoCard

/-- THE SECOND FORM's CARD OF 'quinarialaw07.DroughtSwapped'. -/
def droughtSwappedUptoCard : Claim7 := { stood := { row := droughtSwappedUptoRow, standIns := [], harness := (true, "605176bc61018f00465620714c1e0869168517d74690ffdc3cbf548e1c53f26e"), looks := true }, kinds := [], alts := [], laidByText := true, laidKinds := [.data, .data, .data, .data, .pinned], laidTests := true, laidLooks := .later }
def DroughtSwappedUptoCardSaid : Prop := Claim7.holds Tryz.pinned (.plain (OpenSpec.upto droughtSwappedSpec)) droughtSwappedUptoCard

/-- THE SECOND FORM's CARD OF 'quinarialaw07.DroughtPrints'. -/
def droughtPrintsUptoCard : Claim7 := { stood := { row := droughtPrintsUptoRow, standIns := [], harness := (true, "605176bc61018f00465620714c1e0869168517d74690ffdc3cbf548e1c53f26e"), looks := true }, kinds := [], alts := [], laidByText := true, laidKinds := [.data, .data, .data, .data, .pinned], laidTests := true, laidLooks := .later }
def DroughtPrintsUptoCardSaid : Prop := Claim7.holds Tryz.pinned (.plain (OpenSpec.upto droughtPrintsSpec)) droughtPrintsUptoCard

/-- THE SECOND FORM's CARD OF 'quinarialaw07.DroughtReads'. -/
def droughtReadsUptoCard : Claim7 := { stood := { row := droughtReadsUptoRow, standIns := [], harness := (true, "605176bc61018f00465620714c1e0869168517d74690ffdc3cbf548e1c53f26e"), looks := true }, kinds := [], alts := [], laidByText := true, laidKinds := [.data, .data, .data, .data, .pinned], laidTests := true, laidLooks := .later }
def DroughtReadsUptoCardSaid : Prop := Claim7.holds Tryz.pinned (.plain (OpenSpec.upto droughtReadsSpec)) droughtReadsUptoCard

/-- THE SECOND FORM's CARD OF 'quinarialaw07.DroughtSpoilt'. -/
def droughtSpoiltUptoCard : Claim7 := { stood := { row := droughtSpoiltUptoRow, standIns := [], harness := (true, "605176bc61018f00465620714c1e0869168517d74690ffdc3cbf548e1c53f26e"), looks := true }, kinds := [], alts := [], laidByText := true, laidKinds := [.data, .data, .data, .data, .pinned], laidTests := true, laidLooks := .later }
def DroughtSpoiltUptoCardSaid : Prop := Claim7.holds Tryz.pinned (.plain (OpenSpec.upto droughtSpoiltSpec)) droughtSpoiltUptoCard

/-- THE SECOND FORM's CARD OF 'quinarialaw07.DroughtFits'. -/
def droughtFitsUptoCard : Claim7 := { stood := { row := droughtFitsUptoRow, standIns := [], harness := (true, "605176bc61018f00465620714c1e0869168517d74690ffdc3cbf548e1c53f26e"), looks := true }, kinds := [], alts := [], laidByText := true, laidKinds := [.data, .data, .data, .data, .pinned], laidTests := true, laidLooks := .later }
def DroughtFitsUptoCardSaid : Prop := Claim7.holds Tryz.pinned (.plain (OpenSpec.upto droughtFitsSpec)) droughtFitsUptoCard
end Rows
end Go.Proofs.YtjioobfeikbffabGreatDoor
