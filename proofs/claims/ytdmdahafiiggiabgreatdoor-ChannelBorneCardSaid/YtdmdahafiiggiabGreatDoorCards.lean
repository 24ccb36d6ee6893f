/-
  DERIVED. GIVEN WITH THE SEED: THE CARDS: each row of YtdmdahafiiggiabGreatDoorRows.lean that lists a variable, with what it lists TIED to the program's text (the seventh form; the later family's looks); each row that meets fmt, with fmt's text TOLD by the authors' own Lean function (tested against real Go, not proved from fmt's source: count such statements apart). THE CARD IS WHAT COUNTS. Prove the row's statement (the work); the ties are given (YtdmdahafiiggiabGreatDoorTie.lean); close each card by the builder's one call (the guide's Derived/Test/ToyasCard.lean, 'card_holds'). Laid BY PROGRAM, IN A SANDBOX (cutbox-door.mjs). By AI agents, Wed Nov 11 2026. No macro, syntax, notation, axiom, sorry.
-/
import Derived.Test.YtdmdahafiiggiabGreatDoorRows
import GoSem.ClaimSeven
namespace Go.Proofs.YtdmdahafiiggiabGreatDoor
namespace Rows

/-- THE TIED CARD OF 'quinarialaw02.ChannelPressures'. -/
def channelPressuresCard : Claim7 := { stood := { row := channelPressuresRow, standIns := [], harness := (true, "c15a2f7afcd98d7a71ca0f6701f532d7d9cc83b708c76c9929d99b5006687326"), looks := true }, kinds := [], alts := [], laidByText := true, laidKinds := [.data, .data, .data, .data, .pinned], laidTests := true, laidLooks := .later }
def ChannelPressuresCardSaid : Prop := Claim7.holds Tryz.pinned (.plain (OpenSpec.ofChange channelPressuresSpec)) channelPressuresCard

/-- THE TIED CARD OF 'quinarialaw02.ChannelHeights'. -/
def channelHeightsCard : Claim7 := { stood := { row := channelHeightsRow, standIns := [], harness := (true, "c15a2f7afcd98d7a71ca0f6701f532d7d9cc83b708c76c9929d99b5006687326"), looks := true }, kinds := [], alts := [], laidByText := true, laidKinds := [.data, .data, .data, .data, .pinned], laidTests := true, laidLooks := .later }
def ChannelHeightsCardSaid : Prop := Claim7.holds Tryz.pinned (.plain (OpenSpec.ofChange channelHeightsSpec)) channelHeightsCard

/-- THE TIED CARD OF 'quinarialaw02.ChannelBursts'. -/
def channelBurstsCard : Claim7 := { stood := { row := channelBurstsRow, standIns := [], harness := (true, "c15a2f7afcd98d7a71ca0f6701f532d7d9cc83b708c76c9929d99b5006687326"), looks := true }, kinds := [], alts := [], laidByText := true, laidKinds := [.data, .data, .data, .data, .pinned], laidTests := true, laidLooks := .later }
def ChannelBurstsCardSaid : Prop := Claim7.holds Tryz.pinned (.plain (OpenSpec.ofChange channelBurstsSpec)) channelBurstsCard

/-- THE TIED CARD OF 'quinarialaw02.ChannelBorne'. -/
def channelBorneCard : Claim7 := { stood := { row := channelBorneRow, standIns := [], harness := (true, "c15a2f7afcd98d7a71ca0f6701f532d7d9cc83b708c76c9929d99b5006687326"), looks := true }, kinds := [], alts := [], laidByText := true, laidKinds := [.data, .data, .data, .data, .pinned], laidTests := true, laidLooks := .later }
def ChannelBorneCardSaid : Prop := Claim7.holds Tryz.pinned (.plain (OpenSpec.ofChange channelBorneSpec)) channelBorneCard

/-- THE TIED CARD OF 'quinarialaw02.ChannelPipes'. -/
def channelPipesCard : Claim7 := { stood := { row := channelPipesRow, standIns := [], harness := (true, "c15a2f7afcd98d7a71ca0f6701f532d7d9cc83b708c76c9929d99b5006687326"), looks := true }, kinds := [], alts := [], laidByText := true, laidKinds := [.data, .data, .data, .data, .pinned], laidTests := true, laidLooks := .later }
def ChannelPipesCardSaid : Prop := Claim7.holds Tryz.pinned (.plain (OpenSpec.ofChange channelPipesSpec)) channelPipesCard

/-- THE TIED CARD OF 'quinarialaw02.ChannelCheaper'. -/
def channelCheaperCard : Claim7 := { stood := { row := channelCheaperRow, standIns := [], harness := (true, "c15a2f7afcd98d7a71ca0f6701f532d7d9cc83b708c76c9929d99b5006687326"), looks := true }, kinds := [], alts := [], laidByText := true, laidKinds := [.data, .data, .data, .data, .pinned], laidTests := true, laidLooks := .later }
def ChannelCheaperCardSaid : Prop := Claim7.holds Tryz.pinned (.plain (OpenSpec.ofChange channelCheaperSpec)) channelCheaperCard

/-- THE TIED CARD OF 'quinarialaw02.ChannelMore'. -/
def channelMoreCard : Claim7 := { stood := { row := channelMoreRow, standIns := [], harness := (true, "c15a2f7afcd98d7a71ca0f6701f532d7d9cc83b708c76c9929d99b5006687326"), looks := true }, kinds := [], alts := [], laidByText := true, laidKinds := [.data, .data, .data, .data, .pinned], laidTests := true, laidLooks := .later }
def ChannelMoreCardSaid : Prop := Claim7.holds Tryz.pinned (.plain (OpenSpec.ofChange channelMoreSpec)) channelMoreCard

/-- THE TIED CARD OF 'quinarialaw02.ChannelCarries'. -/
def channelCarriesCard : Claim7 := { stood := { row := channelCarriesRow, standIns := [], harness := (true, "c15a2f7afcd98d7a71ca0f6701f532d7d9cc83b708c76c9929d99b5006687326"), looks := true }, kinds := [], alts := [], laidByText := true, laidKinds := [.data, .data, .data, .data, .pinned], laidTests := true, laidLooks := .later }
def ChannelCarriesCardSaid : Prop := Claim7.holds Tryz.pinned (.plain (OpenSpec.ofChange channelCarriesSpec)) channelCarriesCard

/-- THE TIED CARD OF 'quinarialaw02.ChannelPrints'. -/
def channelPrintsCard : Claim7 := { stood := { row := channelPrintsRow, standIns := [], harness := (true, "c15a2f7afcd98d7a71ca0f6701f532d7d9cc83b708c76c9929d99b5006687326"), looks := true }, kinds := [], alts := [], laidByText := true, laidKinds := [.data, .data, .data, .data, .pinned], laidTests := true, laidLooks := .later }
def ChannelPrintsCardSaid : Prop := Claim7.holds Tryz.pinned (.plain (OpenSpec.ofChange channelPrintsSpec)) channelPrintsCard

/-- THE TIED CARD OF 'quinarialaw02.ChannelSpoilt'. -/
def channelSpoiltCard : Claim7 := { stood := { row := channelSpoiltRow, standIns := [], harness := (true, "c15a2f7afcd98d7a71ca0f6701f532d7d9cc83b708c76c9929d99b5006687326"), looks := true }, kinds := [], alts := [], laidByText := true, laidKinds := [.data, .data, .data, .data, .pinned], laidTests := true, laidLooks := .later }
def ChannelSpoiltCardSaid : Prop := Claim7.holds Tryz.pinned (.plain (OpenSpec.ofChange channelSpoiltSpec)) channelSpoiltCard

/-- THE SECOND FORM's CARD OF 'quinarialaw02.ChannelPressures'. -/
def channelPressuresUptoCard : Claim7 := { stood := { row := channelPressuresUptoRow, standIns := [], harness := (true, "c15a2f7afcd98d7a71ca0f6701f532d7d9cc83b708c76c9929d99b5006687326"), looks := true }, kinds := [], alts := [], laidByText := true, laidKinds := [.data, .data, .data, .data, .pinned], laidTests := true, laidLooks := .later }
def ChannelPressuresUptoCardSaid : Prop := Claim7.holds Tryz.pinned (.plain (OpenSpec.upto channelPressuresSpec)) channelPressuresUptoCard

/-- THE SECOND FORM's CARD OF 'quinarialaw02.ChannelHeights'. -/
def channelHeightsUptoCard : Claim7 := { stood := { row := channelHeightsUptoRow, standIns := [], harness := (true, "c15a2f7afcd98d7a71ca0f6701f532d7d9cc83b708c76c9929d99b5006687326"), looks := true }, kinds := [], alts := [], laidByText := true, laidKinds := [.data, .data, .data, .data, .pinned], laidTests := true, laidLooks := .later }
def ChannelHeightsUptoCardSaid : Prop := Claim7.holds Tryz.pinned (.plain (OpenSpec.upto channelHeightsSpec)) channelHeightsUptoCard

/-- THE SECOND FORM's CARD OF 'quinarialaw02.ChannelBursts'. -/
def channelBurstsUptoCard : Claim7 := { stood := { row := channelBurstsUptoRow, standIns := [], harness := (true, "c15a2f7afcd98d7a71ca0f6701f532d7d9cc83b708c76c9929d99b5006687326"), looks := true }, kinds := [], alts := [], laidByText := true, laidKinds := [.data, .data, .data, .data, .pinned], laidTests := true, laidLooks := .later }
def ChannelBurstsUptoCardSaid : Prop := Claim7.holds Tryz.pinned (.plain (OpenSpec.upto channelBurstsSpec)) channelBurstsUptoCard

/-- THE SECOND FORM's CARD OF 'quinarialaw02.ChannelBorne'. -/
def channelBorneUptoCard : Claim7 := { stood := { row := channelBorneUptoRow, standIns := [], harness := (true, "c15a2f7afcd98d7a71ca0f6701f532d7d9cc83b708c76c9929d99b5006687326"), looks := true }, kinds := [], alts := [], laidByText := true, laidKinds := [.data, .data, .data, .data, .pinned], laidTests := true, laidLooks := .later }
def ChannelBorneUptoCardSaid : Prop := Claim7.holds Tryz.pinned (.plain (OpenSpec.upto channelBorneSpec)) channelBorneUptoCard

/-- THE SECOND FORM's CARD OF 'quinarialaw02.ChannelPipes'. -/
def channelPipesUptoCard : Claim7 := { stood := { row := channelPipesUptoRow, standIns := [], harness := (true, "c15a2f7afcd98d7a71ca0f6701f532d7d9cc83b708c76c9929d99b5006687326"), looks := true }, kinds := [], alts := [], laidByText := true, laidKinds := [.data, .data, .data, .data, .pinned], laidTests := true, laidLooks := .later }
def ChannelPipesUptoCardSaid : Prop := Claim7.holds Tryz.pinned (.plain (OpenSpec.upto channelPipesSpec)) channelPipesUptoCard

/-- THE SECOND FORM's CARD OF 'quinarialaw02.ChannelCheaper'. -/
def channelCheaperUptoCard : Claim7 := { stood := { row := channelCheaperUptoRow, standIns := [], harness := (true, "c15a2f7afcd98d7a71ca0f6701f532d7d9cc83b708c76c9929d99b5006687326"), looks := true }, kinds := [], alts := [], laidByText := true, laidKinds := [.data, .data, .data, .data, .pinned], laidTests := true, laidLooks := .later }
def ChannelCheaperUptoCardSaid : Prop := Claim7.holds Tryz.pinned (.plain (OpenSpec.upto channelCheaperSpec)) channelCheaperUptoCard

/-- THE SECOND FORM's CARD OF 'quinarialaw02.ChannelMore'. -/
def channelMoreUptoCard : Claim7 := { stood := { row := channelMoreUptoRow, standIns := [], harness := (true, "c15a2f7afcd98d7a71ca0f6701f532d7d9cc83b708c76c9929d99b5006687326"), looks := true }, kinds := [], alts := [], laidByText := true, laidKinds := [.data, .data, .data, .data, .pinned], laidTests := true, laidLooks := .later }
def ChannelMoreUptoCardSaid : Prop := Claim7.holds Tryz.pinned (.plain (OpenSpec.upto channelMoreSpec)) channelMoreUptoCard

/-- THE SECOND FORM's CARD OF 'quinarialaw02.ChannelCarries'. -/
def channelCarriesUptoCard : Claim7 := { stood := { row := channelCarriesUptoRow, standIns := [], harness := (true, "c15a2f7afcd98d7a71ca0f6701f532d7d9cc83b708c76c9929d99b5006687326"), looks := true }, kinds := [], alts := [], laidByText := true, laidKinds := [.data, .data, .data, .data, .pinned], laidTests := true, laidLooks := .later }
def ChannelCarriesUptoCardSaid : Prop := Claim7.holds Tryz.pinned (.plain (OpenSpec.upto channelCarriesSpec)) channelCarriesUptoCard

/-- THE SECOND FORM's CARD OF 'quinarialaw02.ChannelPrints'. -/
def channelPrintsUptoCard : Claim7 := { stood := { row := channelPrintsUptoRow, standIns := [], harness := (true, "c15a2f7afcd98d7a71ca0f6701f532d7d9cc83b708c76c9929d99b5006687326"), looks := true }, kinds := [], alts := [], laidByText := true, laidKinds := [.data, .data, .data, .data, .pinned], laidTests := true, laidLooks := .later }
def ChannelPrintsUptoCardSaid : Prop := Claim7.holds Tryz.pinned (.plain (OpenSpec.upto channelPrintsSpec)) channelPrintsUptoCard

/-- THE SECOND FORM's CARD OF 'quinarialaw02.ChannelSpoilt'. -/
def channelSpoiltUptoCard : Claim7 := { stood := { row := channelSpoiltUptoRow, standIns := [], harness := (true, "c15a2f7afcd98d7a71ca0f6701f532d7d9cc83b708c76c9929d99b5006687326"), looks := true }, kinds := [], alts := [], laidByText := true, laidKinds := [.data, .data, .data, .data, .pinned], laidTests := true, laidLooks := .later }
def ChannelSpoiltUptoCardSaid : Prop := Claim7.holds Tryz.pinned (.plain (OpenSpec.upto channelSpoiltSpec)) channelSpoiltUptoCard
end Rows
end Go.Proofs.YtdmdahafiiggiabGreatDoor
