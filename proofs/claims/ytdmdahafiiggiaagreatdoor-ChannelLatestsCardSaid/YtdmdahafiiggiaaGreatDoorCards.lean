/-
  DERIVED. GIVEN WITH THE SEED: THE CARDS: each row of YtdmdahafiiggiaaGreatDoorRows.lean that lists a variable, with what it lists TIED to the program's text (the seventh form; the later family's looks); each row that meets fmt, with fmt's text TOLD by the authors' own Lean function (tested against real Go, not proved from fmt's source: count such statements apart). THE CARD IS WHAT COUNTS. Prove the row's statement (the work); the ties are given (YtdmdahafiiggiaaGreatDoorTie.lean); close each card by the builder's one call (the guide's Derived/Test/ToyasCard.lean, 'card_holds'). Laid BY PROGRAM, IN A SANDBOX (cutbox-door.mjs). By AI agents, Wed Nov 11 2026. No macro, syntax, notation, axiom, sorry.
-/
import Derived.Test.YtdmdahafiiggiaaGreatDoorRows
import GoSem.ClaimSeven
namespace Go.Proofs.YtdmdahafiiggiaaGreatDoor
namespace Rows

/-- THE TIED CARD OF 'quinarialaw02.ChannelTrue'. -/
def channelTrueCard : Claim7 := { stood := { row := channelTrueRow, standIns := [], harness := (true, "61361e55ba202bda80c53111a8c107b0f6585fd00466848434963a5e5cfc9de8"), looks := true }, kinds := [], alts := [], laidByText := true, laidKinds := [.data, .data, .data, .data, .pinned], laidTests := true, laidLooks := .later }
def ChannelTrueCardSaid : Prop := Claim7.holds Tryz.pinned (.plain (OpenSpec.ofChange channelTrueSpec)) channelTrueCard

/-- THE TIED CARD OF 'quinarialaw02.ChannelLines'. -/
def channelLinesCard : Claim7 := { stood := { row := channelLinesRow, standIns := [], harness := (true, "61361e55ba202bda80c53111a8c107b0f6585fd00466848434963a5e5cfc9de8"), looks := true }, kinds := [], alts := [], laidByText := true, laidKinds := [.data, .data, .data, .data, .pinned], laidTests := true, laidLooks := .later }
def ChannelLinesCardSaid : Prop := Claim7.holds Tryz.pinned (.plain (OpenSpec.ofChange channelLinesSpec)) channelLinesCard

/-- THE TIED CARD OF 'quinarialaw02.ChannelNarrow'. -/
def channelNarrowCard : Claim7 := { stood := { row := channelNarrowRow, standIns := [], harness := (true, "61361e55ba202bda80c53111a8c107b0f6585fd00466848434963a5e5cfc9de8"), looks := true }, kinds := [], alts := [], laidByText := true, laidKinds := [.data, .data, .data, .data, .pinned], laidTests := true, laidLooks := .later }
def ChannelNarrowCardSaid : Prop := Claim7.holds Tryz.pinned (.plain (OpenSpec.ofChange channelNarrowSpec)) channelNarrowCard

/-- THE TIED CARD OF 'quinarialaw02.ChannelLatests'. -/
def channelLatestsCard : Claim7 := { stood := { row := channelLatestsRow, standIns := [], harness := (true, "61361e55ba202bda80c53111a8c107b0f6585fd00466848434963a5e5cfc9de8"), looks := true }, kinds := [], alts := [], laidByText := true, laidKinds := [.data, .data, .data, .data, .pinned], laidTests := true, laidLooks := .later }
def ChannelLatestsCardSaid : Prop := Claim7.holds Tryz.pinned (.plain (OpenSpec.ofChange channelLatestsSpec)) channelLatestsCard

/-- THE TIED CARD OF 'quinarialaw02.ChannelLast'. -/
def channelLastCard : Claim7 := { stood := { row := channelLastRow, standIns := [], harness := (true, "61361e55ba202bda80c53111a8c107b0f6585fd00466848434963a5e5cfc9de8"), looks := true }, kinds := [], alts := [], laidByText := true, laidKinds := [.data, .data, .data, .data, .pinned], laidTests := true, laidLooks := .later }
def ChannelLastCardSaid : Prop := Claim7.holds Tryz.pinned (.plain (OpenSpec.ofChange channelLastSpec)) channelLastCard

/-- THE TIED CARD OF 'quinarialaw02.ChannelBroad'. -/
def channelBroadCard : Claim7 := { stood := { row := channelBroadRow, standIns := [], harness := (true, "61361e55ba202bda80c53111a8c107b0f6585fd00466848434963a5e5cfc9de8"), looks := true }, kinds := [], alts := [], laidByText := true, laidKinds := [.data, .data, .data, .data, .pinned], laidTests := true, laidLooks := .later }
def ChannelBroadCardSaid : Prop := Claim7.holds Tryz.pinned (.plain (OpenSpec.ofChange channelBroadSpec)) channelBroadCard

/-- THE TIED CARD OF 'quinarialaw02.ChannelPlans'. -/
def channelPlansCard : Claim7 := { stood := { row := channelPlansRow, standIns := [], harness := (true, "61361e55ba202bda80c53111a8c107b0f6585fd00466848434963a5e5cfc9de8"), looks := true }, kinds := [], alts := [], laidByText := true, laidKinds := [.data, .data, .data, .data, .pinned], laidTests := true, laidLooks := .later }
def ChannelPlansCardSaid : Prop := Claim7.holds Tryz.pinned (.plain (OpenSpec.ofChange channelPlansSpec)) channelPlansCard

/-- THE TIED CARD OF 'quinarialaw02.ChannelBetter'. -/
def channelBetterCard : Claim7 := { stood := { row := channelBetterRow, standIns := [], harness := (true, "61361e55ba202bda80c53111a8c107b0f6585fd00466848434963a5e5cfc9de8"), looks := true }, kinds := [], alts := [], laidByText := true, laidKinds := [.data, .data, .data, .data, .pinned], laidTests := true, laidLooks := .later }
def ChannelBetterCardSaid : Prop := Claim7.holds Tryz.pinned (.plain (OpenSpec.ofChange channelBetterSpec)) channelBetterCard

/-- THE TIED CARD OF 'quinarialaw02.ChannelLimes'. -/
def channelLimesCard : Claim7 := { stood := { row := channelLimesRow, standIns := [], harness := (true, "61361e55ba202bda80c53111a8c107b0f6585fd00466848434963a5e5cfc9de8"), looks := true }, kinds := [], alts := [], laidByText := true, laidKinds := [.data, .data, .data, .data, .pinned], laidTests := true, laidLooks := .later }
def ChannelLimesCardSaid : Prop := Claim7.holds Tryz.pinned (.plain (OpenSpec.ofChange channelLimesSpec)) channelLimesCard

/-- THE TIED CARD OF 'quinarialaw02.ChannelProven'. -/
def channelProvenCard : Claim7 := { stood := { row := channelProvenRow, standIns := [], harness := (true, "61361e55ba202bda80c53111a8c107b0f6585fd00466848434963a5e5cfc9de8"), looks := true }, kinds := [], alts := [], laidByText := true, laidKinds := [.data, .data, .data, .data, .pinned], laidTests := true, laidLooks := .later }
def ChannelProvenCardSaid : Prop := Claim7.holds Tryz.pinned (.plain (OpenSpec.ofChange channelProvenSpec)) channelProvenCard

/-- THE SECOND FORM's CARD OF 'quinarialaw02.ChannelTrue'. -/
def channelTrueUptoCard : Claim7 := { stood := { row := channelTrueUptoRow, standIns := [], harness := (true, "61361e55ba202bda80c53111a8c107b0f6585fd00466848434963a5e5cfc9de8"), looks := true }, kinds := [], alts := [], laidByText := true, laidKinds := [.data, .data, .data, .data, .pinned], laidTests := true, laidLooks := .later }
def ChannelTrueUptoCardSaid : Prop := Claim7.holds Tryz.pinned (.plain (OpenSpec.upto channelTrueSpec)) channelTrueUptoCard

/-- THE SECOND FORM's CARD OF 'quinarialaw02.ChannelLines'. -/
def channelLinesUptoCard : Claim7 := { stood := { row := channelLinesUptoRow, standIns := [], harness := (true, "61361e55ba202bda80c53111a8c107b0f6585fd00466848434963a5e5cfc9de8"), looks := true }, kinds := [], alts := [], laidByText := true, laidKinds := [.data, .data, .data, .data, .pinned], laidTests := true, laidLooks := .later }
def ChannelLinesUptoCardSaid : Prop := Claim7.holds Tryz.pinned (.plain (OpenSpec.upto channelLinesSpec)) channelLinesUptoCard

/-- THE SECOND FORM's CARD OF 'quinarialaw02.ChannelNarrow'. -/
def channelNarrowUptoCard : Claim7 := { stood := { row := channelNarrowUptoRow, standIns := [], harness := (true, "61361e55ba202bda80c53111a8c107b0f6585fd00466848434963a5e5cfc9de8"), looks := true }, kinds := [], alts := [], laidByText := true, laidKinds := [.data, .data, .data, .data, .pinned], laidTests := true, laidLooks := .later }
def ChannelNarrowUptoCardSaid : Prop := Claim7.holds Tryz.pinned (.plain (OpenSpec.upto channelNarrowSpec)) channelNarrowUptoCard

/-- THE SECOND FORM's CARD OF 'quinarialaw02.ChannelLatests'. -/
def channelLatestsUptoCard : Claim7 := { stood := { row := channelLatestsUptoRow, standIns := [], harness := (true, "61361e55ba202bda80c53111a8c107b0f6585fd00466848434963a5e5cfc9de8"), looks := true }, kinds := [], alts := [], laidByText := true, laidKinds := [.data, .data, .data, .data, .pinned], laidTests := true, laidLooks := .later }
def ChannelLatestsUptoCardSaid : Prop := Claim7.holds Tryz.pinned (.plain (OpenSpec.upto channelLatestsSpec)) channelLatestsUptoCard

/-- THE SECOND FORM's CARD OF 'quinarialaw02.ChannelLast'. -/
def channelLastUptoCard : Claim7 := { stood := { row := channelLastUptoRow, standIns := [], harness := (true, "61361e55ba202bda80c53111a8c107b0f6585fd00466848434963a5e5cfc9de8"), looks := true }, kinds := [], alts := [], laidByText := true, laidKinds := [.data, .data, .data, .data, .pinned], laidTests := true, laidLooks := .later }
def ChannelLastUptoCardSaid : Prop := Claim7.holds Tryz.pinned (.plain (OpenSpec.upto channelLastSpec)) channelLastUptoCard

/-- THE SECOND FORM's CARD OF 'quinarialaw02.ChannelBroad'. -/
def channelBroadUptoCard : Claim7 := { stood := { row := channelBroadUptoRow, standIns := [], harness := (true, "61361e55ba202bda80c53111a8c107b0f6585fd00466848434963a5e5cfc9de8"), looks := true }, kinds := [], alts := [], laidByText := true, laidKinds := [.data, .data, .data, .data, .pinned], laidTests := true, laidLooks := .later }
def ChannelBroadUptoCardSaid : Prop := Claim7.holds Tryz.pinned (.plain (OpenSpec.upto channelBroadSpec)) channelBroadUptoCard

/-- THE SECOND FORM's CARD OF 'quinarialaw02.ChannelPlans'. -/
def channelPlansUptoCard : Claim7 := { stood := { row := channelPlansUptoRow, standIns := [], harness := (true, "61361e55ba202bda80c53111a8c107b0f6585fd00466848434963a5e5cfc9de8"), looks := true }, kinds := [], alts := [], laidByText := true, laidKinds := [.data, .data, .data, .data, .pinned], laidTests := true, laidLooks := .later }
def ChannelPlansUptoCardSaid : Prop := Claim7.holds Tryz.pinned (.plain (OpenSpec.upto channelPlansSpec)) channelPlansUptoCard

/-- THE SECOND FORM's CARD OF 'quinarialaw02.ChannelBetter'. -/
def channelBetterUptoCard : Claim7 := { stood := { row := channelBetterUptoRow, standIns := [], harness := (true, "61361e55ba202bda80c53111a8c107b0f6585fd00466848434963a5e5cfc9de8"), looks := true }, kinds := [], alts := [], laidByText := true, laidKinds := [.data, .data, .data, .data, .pinned], laidTests := true, laidLooks := .later }
def ChannelBetterUptoCardSaid : Prop := Claim7.holds Tryz.pinned (.plain (OpenSpec.upto channelBetterSpec)) channelBetterUptoCard

/-- THE SECOND FORM's CARD OF 'quinarialaw02.ChannelLimes'. -/
def channelLimesUptoCard : Claim7 := { stood := { row := channelLimesUptoRow, standIns := [], harness := (true, "61361e55ba202bda80c53111a8c107b0f6585fd00466848434963a5e5cfc9de8"), looks := true }, kinds := [], alts := [], laidByText := true, laidKinds := [.data, .data, .data, .data, .pinned], laidTests := true, laidLooks := .later }
def ChannelLimesUptoCardSaid : Prop := Claim7.holds Tryz.pinned (.plain (OpenSpec.upto channelLimesSpec)) channelLimesUptoCard

/-- THE SECOND FORM's CARD OF 'quinarialaw02.ChannelProven'. -/
def channelProvenUptoCard : Claim7 := { stood := { row := channelProvenUptoRow, standIns := [], harness := (true, "61361e55ba202bda80c53111a8c107b0f6585fd00466848434963a5e5cfc9de8"), looks := true }, kinds := [], alts := [], laidByText := true, laidKinds := [.data, .data, .data, .data, .pinned], laidTests := true, laidLooks := .later }
def ChannelProvenUptoCardSaid : Prop := Claim7.holds Tryz.pinned (.plain (OpenSpec.upto channelProvenSpec)) channelProvenUptoCard
end Rows
end Go.Proofs.YtdmdahafiiggiaaGreatDoor
