/-
  DERIVED. GIVEN WITH THE SEED: THE CARDS: each row of YtjioobfeikbffaaGreatDoorRows.lean that lists a variable, with what it lists TIED to the program's text (the seventh form; the later family's looks); each row that meets fmt, with fmt's text TOLD by the authors' own Lean function (tested against real Go, not proved from fmt's source: count such statements apart). THE CARD IS WHAT COUNTS. Prove the row's statement (the work); the ties are given (YtjioobfeikbffaaGreatDoorTie.lean); close each card by the builder's one call (the guide's Derived/Test/ToyasCard.lean, 'card_holds'). Laid BY PROGRAM, IN A SANDBOX (cutbox-door.mjs). By AI agents, Wed Nov 11 2026. No macro, syntax, notation, axiom, sorry.
-/
import Derived.Test.YtjioobfeikbffaaGreatDoorRows
import GoSem.ClaimSeven
namespace Go.Proofs.YtjioobfeikbffaaGreatDoor
namespace Rows

/-- THE TIED CARD OF 'quinarialaw07.DroughtShares'. -/
def droughtSharesCard : Claim7 := { stood := { row := droughtSharesRow, standIns := [], harness := (true, "aa5eec99bde0b45caeda0c4f37c933420e61f0bc110d31d158a5f42c1117fa42"), looks := true }, kinds := [], alts := [], laidByText := true, laidKinds := [.data, .data, .data, .data, .pinned], laidTests := true, laidLooks := .later }
def DroughtSharesCardSaid : Prop := Claim7.holds Tryz.pinned (.plain (OpenSpec.ofChange droughtSharesSpec)) droughtSharesCard

/-- THE TIED CARD OF 'quinarialaw07.DroughtFirst'. -/
def droughtFirstCard : Claim7 := { stood := { row := droughtFirstRow, standIns := [], harness := (true, "aa5eec99bde0b45caeda0c4f37c933420e61f0bc110d31d158a5f42c1117fa42"), looks := true }, kinds := [], alts := [], laidByText := true, laidKinds := [.data, .data, .data, .data, .pinned], laidTests := true, laidLooks := .later }
def DroughtFirstCardSaid : Prop := Claim7.holds Tryz.pinned (.plain (OpenSpec.ofChange droughtFirstSpec)) droughtFirstCard

/-- THE TIED CARD OF 'quinarialaw07.DroughtBinds'. -/
def droughtBindsCard : Claim7 := { stood := { row := droughtBindsRow, standIns := [], harness := (true, "aa5eec99bde0b45caeda0c4f37c933420e61f0bc110d31d158a5f42c1117fa42"), looks := true }, kinds := [], alts := [], laidByText := true, laidKinds := [.data, .data, .data, .data, .pinned], laidTests := true, laidLooks := .later }
def DroughtBindsCardSaid : Prop := Claim7.holds Tryz.pinned (.plain (OpenSpec.ofChange droughtBindsSpec)) droughtBindsCard

/-- THE TIED CARD OF 'quinarialaw07.DroughtBound'. -/
def droughtBoundCard : Claim7 := { stood := { row := droughtBoundRow, standIns := [], harness := (true, "aa5eec99bde0b45caeda0c4f37c933420e61f0bc110d31d158a5f42c1117fa42"), looks := true }, kinds := [], alts := [], laidByText := true, laidKinds := [.data, .data, .data, .data, .pinned], laidTests := true, laidLooks := .later }
def DroughtBoundCardSaid : Prop := Claim7.holds Tryz.pinned (.plain (OpenSpec.ofChange droughtBoundSpec)) droughtBoundCard

/-- THE TIED CARD OF 'quinarialaw07.DroughtCuts'. -/
def droughtCutsCard : Claim7 := { stood := { row := droughtCutsRow, standIns := [], harness := (true, "aa5eec99bde0b45caeda0c4f37c933420e61f0bc110d31d158a5f42c1117fa42"), looks := true }, kinds := [], alts := [], laidByText := true, laidKinds := [.data, .data, .data, .data, .pinned], laidTests := true, laidLooks := .later }
def DroughtCutsCardSaid : Prop := Claim7.holds Tryz.pinned (.plain (OpenSpec.ofChange droughtCutsSpec)) droughtCutsCard

/-- THE TIED CARD OF 'quinarialaw07.DroughtWhole'. -/
def droughtWholeCard : Claim7 := { stood := { row := droughtWholeRow, standIns := [], harness := (true, "aa5eec99bde0b45caeda0c4f37c933420e61f0bc110d31d158a5f42c1117fa42"), looks := true }, kinds := [], alts := [], laidByText := true, laidKinds := [.data, .data, .data, .data, .pinned], laidTests := true, laidLooks := .later }
def DroughtWholeCardSaid : Prop := Claim7.holds Tryz.pinned (.plain (OpenSpec.ofChange droughtWholeSpec)) droughtWholeCard

/-- THE TIED CARD OF 'quinarialaw07.DroughtSpans'. -/
def droughtSpansCard : Claim7 := { stood := { row := droughtSpansRow, standIns := [], harness := (true, "aa5eec99bde0b45caeda0c4f37c933420e61f0bc110d31d158a5f42c1117fa42"), looks := true }, kinds := [], alts := [], laidByText := true, laidKinds := [.data, .data, .data, .data, .pinned], laidTests := true, laidLooks := .later }
def DroughtSpansCardSaid : Prop := Claim7.holds Tryz.pinned (.plain (OpenSpec.ofChange droughtSpansSpec)) droughtSpansCard

/-- THE TIED CARD OF 'quinarialaw07.DroughtMonotone'. -/
def droughtMonotoneCard : Claim7 := { stood := { row := droughtMonotoneRow, standIns := [], harness := (true, "aa5eec99bde0b45caeda0c4f37c933420e61f0bc110d31d158a5f42c1117fa42"), looks := true }, kinds := [], alts := [], laidByText := true, laidKinds := [.data, .data, .data, .data, .pinned], laidTests := true, laidLooks := .later }
def DroughtMonotoneCardSaid : Prop := Claim7.holds Tryz.pinned (.plain (OpenSpec.ofChange droughtMonotoneSpec)) droughtMonotoneCard

/-- THE TIED CARD OF 'quinarialaw07.DroughtNeeds'. -/
def droughtNeedsCard : Claim7 := { stood := { row := droughtNeedsRow, standIns := [], harness := (true, "aa5eec99bde0b45caeda0c4f37c933420e61f0bc110d31d158a5f42c1117fa42"), looks := true }, kinds := [], alts := [], laidByText := true, laidKinds := [.data, .data, .data, .data, .pinned], laidTests := true, laidLooks := .later }
def DroughtNeedsCardSaid : Prop := Claim7.holds Tryz.pinned (.plain (OpenSpec.ofChange droughtNeedsSpec)) droughtNeedsCard

/-- THE TIED CARD OF 'quinarialaw07.DroughtEnough'. -/
def droughtEnoughCard : Claim7 := { stood := { row := droughtEnoughRow, standIns := [], harness := (true, "aa5eec99bde0b45caeda0c4f37c933420e61f0bc110d31d158a5f42c1117fa42"), looks := true }, kinds := [], alts := [], laidByText := true, laidKinds := [.data, .data, .data, .data, .pinned], laidTests := true, laidLooks := .later }
def DroughtEnoughCardSaid : Prop := Claim7.holds Tryz.pinned (.plain (OpenSpec.ofChange droughtEnoughSpec)) droughtEnoughCard

/-- THE SECOND FORM's CARD OF 'quinarialaw07.DroughtShares'. -/
def droughtSharesUptoCard : Claim7 := { stood := { row := droughtSharesUptoRow, standIns := [], harness := (true, "aa5eec99bde0b45caeda0c4f37c933420e61f0bc110d31d158a5f42c1117fa42"), looks := true }, kinds := [], alts := [], laidByText := true, laidKinds := [.data, .data, .data, .data, .pinned], laidTests := true, laidLooks := .later }
def DroughtSharesUptoCardSaid : Prop := Claim7.holds Tryz.pinned (.plain (OpenSpec.upto droughtSharesSpec)) droughtSharesUptoCard

/-- THE SECOND FORM's CARD OF 'quinarialaw07.DroughtFirst'. -/
def droughtFirstUptoCard : Claim7 := { stood := { row := droughtFirstUptoRow, standIns := [], harness := (true, "aa5eec99bde0b45caeda0c4f37c933420e61f0bc110d31d158a5f42c1117fa42"), looks := true }, kinds := [], alts := [], laidByText := true, laidKinds := [.data, .data, .data, .data, .pinned], laidTests := true, laidLooks := .later }
def DroughtFirstUptoCardSaid : Prop := Claim7.holds Tryz.pinned (.plain (OpenSpec.upto droughtFirstSpec)) droughtFirstUptoCard

/-- THE SECOND FORM's CARD OF 'quinarialaw07.DroughtBinds'. -/
def droughtBindsUptoCard : Claim7 := { stood := { row := droughtBindsUptoRow, standIns := [], harness := (true, "aa5eec99bde0b45caeda0c4f37c933420e61f0bc110d31d158a5f42c1117fa42"), looks := true }, kinds := [], alts := [], laidByText := true, laidKinds := [.data, .data, .data, .data, .pinned], laidTests := true, laidLooks := .later }
def DroughtBindsUptoCardSaid : Prop := Claim7.holds Tryz.pinned (.plain (OpenSpec.upto droughtBindsSpec)) droughtBindsUptoCard

/-- THE SECOND FORM's CARD OF 'quinarialaw07.DroughtBound'. -/
def droughtBoundUptoCard : Claim7 := { stood := { row := droughtBoundUptoRow, standIns := [], harness := (true, "aa5eec99bde0b45caeda0c4f37c933420e61f0bc110d31d158a5f42c1117fa42"), looks := true }, kinds := [], alts := [], laidByText := true, laidKinds := [.data, .data, .data, .data, .pinned], laidTests := true, laidLooks := .later }
def DroughtBoundUptoCardSaid : Prop := Claim7.holds Tryz.pinned (.plain (OpenSpec.upto droughtBoundSpec)) droughtBoundUptoCard

/-- THE SECOND FORM's CARD OF 'quinarialaw07.DroughtCuts'. -/
def droughtCutsUptoCard : Claim7 := { stood := { row := droughtCutsUptoRow, standIns := [], harness := (true, "aa5eec99bde0b45caeda0c4f37c933420e61f0bc110d31d158a5f42c1117fa42"), looks := true }, kinds := [], alts := [], laidByText := true, laidKinds := [.data, .data, .data, .data, .pinned], laidTests := true, laidLooks := .later }
def DroughtCutsUptoCardSaid : Prop := Claim7.holds Tryz.pinned (.plain (OpenSpec.upto droughtCutsSpec)) droughtCutsUptoCard

/-- THE SECOND FORM's CARD OF 'quinarialaw07.DroughtWhole'. -/
def droughtWholeUptoCard : Claim7 := { stood := { row := droughtWholeUptoRow, standIns := [], harness := (true, "aa5eec99bde0b45caeda0c4f37c933420e61f0bc110d31d158a5f42c1117fa42"), looks := true }, kinds := [], alts := [], laidByText := true, laidKinds := [.data, .data, .data, .data, .pinned], laidTests := true, laidLooks := .later }
def DroughtWholeUptoCardSaid : Prop := Claim7.holds Tryz.pinned (.plain (OpenSpec.upto droughtWholeSpec)) droughtWholeUptoCard

/-- THE SECOND FORM's CARD OF 'quinarialaw07.DroughtSpans'. -/
def droughtSpansUptoCard : Claim7 := { stood := { row := droughtSpansUptoRow, standIns := [], harness := (true, "aa5eec99bde0b45caeda0c4f37c933420e61f0bc110d31d158a5f42c1117fa42"), looks := true }, kinds := [], alts := [], laidByText := true, laidKinds := [.data, .data, .data, .data, .pinned], laidTests := true, laidLooks := .later }
def DroughtSpansUptoCardSaid : Prop := Claim7.holds Tryz.pinned (.plain (OpenSpec.upto droughtSpansSpec)) droughtSpansUptoCard

/-- THE SECOND FORM's CARD OF 'quinarialaw07.DroughtMonotone'. -/
def droughtMonotoneUptoCard : Claim7 := { stood := { row := droughtMonotoneUptoRow, standIns := [], harness := (true, "aa5eec99bde0b45caeda0c4f37c933420e61f0bc110d31d158a5f42c1117fa42"), looks := true }, kinds := [], alts := [], laidByText := true, laidKinds := [.data, .data, .data, .data, .pinned], laidTests := true, laidLooks := .later }
def DroughtMonotoneUptoCardSaid : Prop := Claim7.holds Tryz.pinned (.plain (OpenSpec.upto droughtMonotoneSpec)) droughtMonotoneUptoCard

/-- THE SECOND FORM's CARD OF 'quinarialaw07.DroughtNeeds'. -/
def droughtNeedsUptoCard : Claim7 := { stood := { row := droughtNeedsUptoRow, standIns := [], harness := (true, "aa5eec99bde0b45caeda0c4f37c933420e61f0bc110d31d158a5f42c1117fa42"), looks := true }, kinds := [], alts := [], laidByText := true, laidKinds := [.data, .data, .data, .data, .pinned], laidTests := true, laidLooks := .later }
def DroughtNeedsUptoCardSaid : Prop := Claim7.holds Tryz.pinned (.plain (OpenSpec.upto droughtNeedsSpec)) droughtNeedsUptoCard

/-- THE SECOND FORM's CARD OF 'quinarialaw07.DroughtEnough'. -/
def droughtEnoughUptoCard : Claim7 := { stood := { row := droughtEnoughUptoRow, standIns := [], harness := (true, "aa5eec99bde0b45caeda0c4f37c933420e61f0bc110d31d158a5f42c1117fa42"), looks := true }, kinds := [], alts := [], laidByText := true, laidKinds := [.data, .data, .data, .data, .pinned], laidTests := true, laidLooks := .later }
def DroughtEnoughUptoCardSaid : Prop := Claim7.holds Tryz.pinned (.plain (OpenSpec.upto droughtEnoughSpec)) droughtEnoughUptoCard
end Rows
end Go.Proofs.YtjioobfeikbffaaGreatDoor
