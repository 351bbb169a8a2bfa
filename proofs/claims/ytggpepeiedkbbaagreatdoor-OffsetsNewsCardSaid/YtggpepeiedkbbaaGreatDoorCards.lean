/-
  DERIVED. GIVEN WITH THE SEED: THE CARDS: each row of YtggpepeiedkbbaaGreatDoorRows.lean that lists a variable, with what it lists TIED to the program's text (the seventh form; the later family's looks); each row that meets fmt, with fmt's text TOLD by the authors' own Lean function (tested against real Go, not proved from fmt's source: count such statements apart). THE CARD IS WHAT COUNTS. Prove the row's statement (the work); the ties are given (YtggpepeiedkbbaaGreatDoorTie.lean); close each card by the builder's one call (the guide's Derived/Test/ToyasCard.lean, 'card_holds'). Laid BY PROGRAM, IN A SANDBOX (cutbox-door.mjs). By AI agents, Wed Nov 11 2026. No macro, syntax, notation, axiom, sorry.
-/
import Derived.Test.YtggpepeiedkbbaaGreatDoorRows
import GoSem.ClaimSeven
namespace Go.Proofs.YtggpepeiedkbbaaGreatDoor
namespace Rows

/-- THE TIED CARD OF 'ribbandlaw01.OffsetsBetween'. -/
def offsetsBetweenCard : Claim7 := { stood := { row := offsetsBetweenRow, standIns := [], harness := (true, "efa58da0d05803ae4d87aecc1d7dc94e05dff7fe0015b2fcbfa254297eea66aa"), looks := false }, kinds := [], alts := [], goes := true, laidByText := true, laidKinds := [.data, .data, .data, .data, .funcsDeep], laidTests := true, laidLooks := .later }
def OffsetsBetweenCardSaid : Prop := Claim7.holds Tryz.pinned (.plain (OpenSpec.ofChange offsetsBetweenSpec)) offsetsBetweenCard

/-- THE TIED CARD OF 'ribbandlaw01.OffsetsSplit'. -/
def offsetsSplitCard : Claim7 := { stood := { row := offsetsSplitRow, standIns := [], harness := (true, "efa58da0d05803ae4d87aecc1d7dc94e05dff7fe0015b2fcbfa254297eea66aa"), looks := false }, kinds := [], alts := [], goes := true, laidByText := true, laidKinds := [.data, .data, .data, .data, .funcsDeep], laidTests := true, laidLooks := .later }
def OffsetsSplitCardSaid : Prop := Claim7.holds Tryz.pinned (.plain (OpenSpec.ofChange offsetsSplitSpec)) offsetsSplitCard

/-- THE TIED CARD OF 'ribbandlaw01.OffsetsRising'. -/
def offsetsRisingCard : Claim7 := { stood := { row := offsetsRisingRow, standIns := [], harness := (true, "efa58da0d05803ae4d87aecc1d7dc94e05dff7fe0015b2fcbfa254297eea66aa"), looks := false }, kinds := [], alts := [], goes := true, laidByText := true, laidKinds := [.data, .data, .data, .data, .funcsDeep], laidTests := true, laidLooks := .later }
def OffsetsRisingCardSaid : Prop := Claim7.holds Tryz.pinned (.plain (OpenSpec.ofChange offsetsRisingSpec)) offsetsRisingCard

/-- THE TIED CARD OF 'ribbandlaw01.OffsetsTurned'. -/
def offsetsTurnedCard : Claim7 := { stood := { row := offsetsTurnedRow, standIns := [], harness := (true, "efa58da0d05803ae4d87aecc1d7dc94e05dff7fe0015b2fcbfa254297eea66aa"), looks := false }, kinds := [], alts := [], goes := true, laidByText := true, laidKinds := [.data, .data, .data, .data, .funcsDeep], laidTests := true, laidLooks := .later }
def OffsetsTurnedCardSaid : Prop := Claim7.holds Tryz.pinned (.plain (OpenSpec.ofChange offsetsTurnedSpec)) offsetsTurnedCard

/-- THE TIED CARD OF 'ribbandlaw01.OffsetsApart'. -/
def offsetsApartCard : Claim7 := { stood := { row := offsetsApartRow, standIns := [], harness := (true, "efa58da0d05803ae4d87aecc1d7dc94e05dff7fe0015b2fcbfa254297eea66aa"), looks := false }, kinds := [], alts := [], goes := true, laidByText := true, laidKinds := [.data, .data, .data, .data, .funcsDeep], laidTests := true, laidLooks := .later }
def OffsetsApartCardSaid : Prop := Claim7.holds Tryz.pinned (.plain (OpenSpec.ofChange offsetsApartSpec)) offsetsApartCard

/-- THE TIED CARD OF 'ribbandlaw01.OffsetsFewest'. -/
def offsetsFewestCard : Claim7 := { stood := { row := offsetsFewestRow, standIns := [], harness := (true, "efa58da0d05803ae4d87aecc1d7dc94e05dff7fe0015b2fcbfa254297eea66aa"), looks := false }, kinds := [], alts := [], goes := true, laidByText := true, laidKinds := [.data, .data, .data, .data, .funcsDeep], laidTests := true, laidLooks := .later }
def OffsetsFewestCardSaid : Prop := Claim7.holds Tryz.pinned (.plain (OpenSpec.ofChange offsetsFewestSpec)) offsetsFewestCard

/-- THE TIED CARD OF 'ribbandlaw01.OffsetsClashes'. -/
def offsetsClashesCard : Claim7 := { stood := { row := offsetsClashesRow, standIns := [], harness := (true, "efa58da0d05803ae4d87aecc1d7dc94e05dff7fe0015b2fcbfa254297eea66aa"), looks := false }, kinds := [], alts := [], goes := true, laidByText := true, laidKinds := [.data, .data, .data, .data, .funcsDeep], laidTests := true, laidLooks := .later }
def OffsetsClashesCardSaid : Prop := Claim7.holds Tryz.pinned (.plain (OpenSpec.ofChange offsetsClashesSpec)) offsetsClashesCard

/-- THE TIED CARD OF 'ribbandlaw01.OffsetsAsked'. -/
def offsetsAskedCard : Claim7 := { stood := { row := offsetsAskedRow, standIns := [], harness := (true, "efa58da0d05803ae4d87aecc1d7dc94e05dff7fe0015b2fcbfa254297eea66aa"), looks := false }, kinds := [], alts := [], goes := true, laidByText := true, laidKinds := [.data, .data, .data, .data, .funcsDeep], laidTests := true, laidLooks := .later }
def OffsetsAskedCardSaid : Prop := Claim7.holds Tryz.pinned (.plain (OpenSpec.ofChange offsetsAskedSpec)) offsetsAskedCard

/-- THE TIED CARD OF 'ribbandlaw01.OffsetsRead'. -/
def offsetsReadCard : Claim7 := { stood := { row := offsetsReadRow, standIns := [], harness := (true, "efa58da0d05803ae4d87aecc1d7dc94e05dff7fe0015b2fcbfa254297eea66aa"), looks := false }, kinds := [], alts := [], goes := true, laidByText := true, laidKinds := [.data, .data, .data, .data, .funcsDeep], laidTests := true, laidLooks := .later }
def OffsetsReadCardSaid : Prop := Claim7.holds Tryz.pinned (.plain (OpenSpec.ofChange offsetsReadSpec)) offsetsReadCard

/-- THE TIED CARD OF 'ribbandlaw01.OffsetsPut'. -/
def offsetsPutCard : Claim7 := { stood := { row := offsetsPutRow, standIns := [], harness := (true, "efa58da0d05803ae4d87aecc1d7dc94e05dff7fe0015b2fcbfa254297eea66aa"), looks := false }, kinds := [], alts := [], goes := true, laidByText := true, laidKinds := [.data, .data, .data, .data, .funcsDeep], laidTests := true, laidLooks := .later }
def OffsetsPutCardSaid : Prop := Claim7.holds Tryz.pinned (.plain (OpenSpec.ofChange offsetsPutSpec)) offsetsPutCard

/-- THE TIED CARD OF 'ribbandlaw01.OffsetsRound'. -/
def offsetsRoundCard : Claim7 := { stood := { row := offsetsRoundRow, standIns := [], harness := (true, "efa58da0d05803ae4d87aecc1d7dc94e05dff7fe0015b2fcbfa254297eea66aa"), looks := false }, kinds := [], alts := [], goes := true, laidByText := true, laidKinds := [.data, .data, .data, .data, .funcsDeep], laidTests := true, laidLooks := .later }
def OffsetsRoundCardSaid : Prop := Claim7.holds Tryz.pinned (.plain (OpenSpec.ofChange offsetsRoundSpec)) offsetsRoundCard

/-- THE TIED CARD OF 'ribbandlaw01.OffsetsFigures'. -/
def offsetsFiguresCard : Claim7 := { stood := { row := offsetsFiguresRow, standIns := [], harness := (true, "efa58da0d05803ae4d87aecc1d7dc94e05dff7fe0015b2fcbfa254297eea66aa"), looks := false }, kinds := [], alts := [], goes := true, laidByText := true, laidKinds := [.data, .data, .data, .data, .funcsDeep], laidTests := true, laidLooks := .later }
def OffsetsFiguresCardSaid : Prop := Claim7.holds Tryz.pinned (.plain (OpenSpec.ofChange offsetsFiguresSpec)) offsetsFiguresCard

/-- THE TIED CARD OF 'ribbandlaw01.OffsetsNews'. -/
def offsetsNewsCard : Claim7 := { stood := { row := offsetsNewsRow, standIns := [], harness := (true, "efa58da0d05803ae4d87aecc1d7dc94e05dff7fe0015b2fcbfa254297eea66aa"), looks := false }, kinds := [], alts := [], goes := true, laidByText := true, laidKinds := [.data, .data, .data, .data, .funcsDeep], laidTests := true, laidLooks := .later }
def OffsetsNewsCardSaid : Prop := Claim7.holds Tryz.pinned (.plain (OpenSpec.ofChange offsetsNewsSpec)) offsetsNewsCard

/-- THE TIED CARD OF 'ribbandlaw01.OffsetsDropped'. -/
def offsetsDroppedCard : Claim7 := { stood := { row := offsetsDroppedRow, standIns := [], harness := (true, "efa58da0d05803ae4d87aecc1d7dc94e05dff7fe0015b2fcbfa254297eea66aa"), looks := false }, kinds := [], alts := [], goes := true, laidByText := true, laidKinds := [.data, .data, .data, .data, .funcsDeep], laidTests := true, laidLooks := .later }
def OffsetsDroppedCardSaid : Prop := Claim7.holds Tryz.pinned (.plain (OpenSpec.ofChange offsetsDroppedSpec)) offsetsDroppedCard

/-- THE TIED CARD OF 'ribbandlaw01.OffsetsBoats'. -/
def offsetsBoatsCard : Claim7 := { stood := { row := offsetsBoatsRow, standIns := [], harness := (true, "efa58da0d05803ae4d87aecc1d7dc94e05dff7fe0015b2fcbfa254297eea66aa"), looks := false }, kinds := [], alts := [], goes := true, laidByText := true, laidKinds := [.data, .data, .data, .data, .funcsDeep], laidTests := true, laidLooks := .later }
def OffsetsBoatsCardSaid : Prop := Claim7.holds Tryz.pinned (.plain (OpenSpec.ofChange offsetsBoatsSpec)) offsetsBoatsCard

/-- THE TIED CARD OF 'ribbandlaw01.OffsetsReal'. -/
def offsetsRealCard : Claim7 := { stood := { row := offsetsRealRow, standIns := [], harness := (true, "efa58da0d05803ae4d87aecc1d7dc94e05dff7fe0015b2fcbfa254297eea66aa"), looks := false }, kinds := [], alts := [], goes := true, laidByText := true, laidKinds := [.data, .data, .data, .data, .funcsDeep], laidTests := true, laidLooks := .later }
def OffsetsRealCardSaid : Prop := Claim7.holds Tryz.pinned (.plain (OpenSpec.ofChange offsetsRealSpec)) offsetsRealCard

/-- THE SECOND FORM's CARD OF 'ribbandlaw01.OffsetsBetween'. -/
def offsetsBetweenUptoCard : Claim7 := { stood := { row := offsetsBetweenUptoRow, standIns := [], harness := (true, "efa58da0d05803ae4d87aecc1d7dc94e05dff7fe0015b2fcbfa254297eea66aa"), looks := false }, kinds := [], alts := [], goes := true, laidByText := true, laidKinds := [.data, .data, .data, .data, .funcsDeep], laidTests := true, laidLooks := .later }
def OffsetsBetweenUptoCardSaid : Prop := Claim7.holds Tryz.pinned (.plain (OpenSpec.upto offsetsBetweenSpec)) offsetsBetweenUptoCard

/-- THE SECOND FORM's CARD OF 'ribbandlaw01.OffsetsSplit'. -/
def offsetsSplitUptoCard : Claim7 := { stood := { row := offsetsSplitUptoRow, standIns := [], harness := (true, "efa58da0d05803ae4d87aecc1d7dc94e05dff7fe0015b2fcbfa254297eea66aa"), looks := false }, kinds := [], alts := [], goes := true, laidByText := true, laidKinds := [.data, .data, .data, .data, .funcsDeep], laidTests := true, laidLooks := .later }
def OffsetsSplitUptoCardSaid : Prop := Claim7.holds Tryz.pinned (.plain (OpenSpec.upto offsetsSplitSpec)) offsetsSplitUptoCard

/-- THE SECOND FORM's CARD OF 'ribbandlaw01.OffsetsRising'. -/
def offsetsRisingUptoCard : Claim7 := { stood := { row := offsetsRisingUptoRow, standIns := [], harness := (true, "efa58da0d05803ae4d87aecc1d7dc94e05dff7fe0015b2fcbfa254297eea66aa"), looks := false }, kinds := [], alts := [], goes := true, laidByText := true, laidKinds := [.data, .data, .data, .data, .funcsDeep], laidTests := true, laidLooks := .later }
def OffsetsRisingUptoCardSaid : Prop := Claim7.holds Tryz.pinned (.plain (OpenSpec.upto offsetsRisingSpec)) offsetsRisingUptoCard

/-- THE SECOND FORM's CARD OF 'ribbandlaw01.OffsetsTurned'. -/
def offsetsTurnedUptoCard : Claim7 := { stood := { row := offsetsTurnedUptoRow, standIns := [], harness := (true, "efa58da0d05803ae4d87aecc1d7dc94e05dff7fe0015b2fcbfa254297eea66aa"), looks := false }, kinds := [], alts := [], goes := true, laidByText := true, laidKinds := [.data, .data, .data, .data, .funcsDeep], laidTests := true, laidLooks := .later }
def OffsetsTurnedUptoCardSaid : Prop := Claim7.holds Tryz.pinned (.plain (OpenSpec.upto offsetsTurnedSpec)) offsetsTurnedUptoCard

/-- THE SECOND FORM's CARD OF 'ribbandlaw01.OffsetsApart'. -/
def offsetsApartUptoCard : Claim7 := { stood := { row := offsetsApartUptoRow, standIns := [], harness := (true, "efa58da0d05803ae4d87aecc1d7dc94e05dff7fe0015b2fcbfa254297eea66aa"), looks := false }, kinds := [], alts := [], goes := true, laidByText := true, laidKinds := [.data, .data, .data, .data, .funcsDeep], laidTests := true, laidLooks := .later }
def OffsetsApartUptoCardSaid : Prop := Claim7.holds Tryz.pinned (.plain (OpenSpec.upto offsetsApartSpec)) offsetsApartUptoCard

/-- THE SECOND FORM's CARD OF 'ribbandlaw01.OffsetsFewest'. -/
def offsetsFewestUptoCard : Claim7 := { stood := { row := offsetsFewestUptoRow, standIns := [], harness := (true, "efa58da0d05803ae4d87aecc1d7dc94e05dff7fe0015b2fcbfa254297eea66aa"), looks := false }, kinds := [], alts := [], goes := true, laidByText := true, laidKinds := [.data, .data, .data, .data, .funcsDeep], laidTests := true, laidLooks := .later }
def OffsetsFewestUptoCardSaid : Prop := Claim7.holds Tryz.pinned (.plain (OpenSpec.upto offsetsFewestSpec)) offsetsFewestUptoCard

/-- THE SECOND FORM's CARD OF 'ribbandlaw01.OffsetsClashes'. -/
def offsetsClashesUptoCard : Claim7 := { stood := { row := offsetsClashesUptoRow, standIns := [], harness := (true, "efa58da0d05803ae4d87aecc1d7dc94e05dff7fe0015b2fcbfa254297eea66aa"), looks := false }, kinds := [], alts := [], goes := true, laidByText := true, laidKinds := [.data, .data, .data, .data, .funcsDeep], laidTests := true, laidLooks := .later }
def OffsetsClashesUptoCardSaid : Prop := Claim7.holds Tryz.pinned (.plain (OpenSpec.upto offsetsClashesSpec)) offsetsClashesUptoCard

/-- THE SECOND FORM's CARD OF 'ribbandlaw01.OffsetsAsked'. -/
def offsetsAskedUptoCard : Claim7 := { stood := { row := offsetsAskedUptoRow, standIns := [], harness := (true, "efa58da0d05803ae4d87aecc1d7dc94e05dff7fe0015b2fcbfa254297eea66aa"), looks := false }, kinds := [], alts := [], goes := true, laidByText := true, laidKinds := [.data, .data, .data, .data, .funcsDeep], laidTests := true, laidLooks := .later }
def OffsetsAskedUptoCardSaid : Prop := Claim7.holds Tryz.pinned (.plain (OpenSpec.upto offsetsAskedSpec)) offsetsAskedUptoCard

/-- THE SECOND FORM's CARD OF 'ribbandlaw01.OffsetsRead'. -/
def offsetsReadUptoCard : Claim7 := { stood := { row := offsetsReadUptoRow, standIns := [], harness := (true, "efa58da0d05803ae4d87aecc1d7dc94e05dff7fe0015b2fcbfa254297eea66aa"), looks := false }, kinds := [], alts := [], goes := true, laidByText := true, laidKinds := [.data, .data, .data, .data, .funcsDeep], laidTests := true, laidLooks := .later }
def OffsetsReadUptoCardSaid : Prop := Claim7.holds Tryz.pinned (.plain (OpenSpec.upto offsetsReadSpec)) offsetsReadUptoCard

/-- THE SECOND FORM's CARD OF 'ribbandlaw01.OffsetsPut'. -/
def offsetsPutUptoCard : Claim7 := { stood := { row := offsetsPutUptoRow, standIns := [], harness := (true, "efa58da0d05803ae4d87aecc1d7dc94e05dff7fe0015b2fcbfa254297eea66aa"), looks := false }, kinds := [], alts := [], goes := true, laidByText := true, laidKinds := [.data, .data, .data, .data, .funcsDeep], laidTests := true, laidLooks := .later }
def OffsetsPutUptoCardSaid : Prop := Claim7.holds Tryz.pinned (.plain (OpenSpec.upto offsetsPutSpec)) offsetsPutUptoCard

/-- THE SECOND FORM's CARD OF 'ribbandlaw01.OffsetsRound'. -/
def offsetsRoundUptoCard : Claim7 := { stood := { row := offsetsRoundUptoRow, standIns := [], harness := (true, "efa58da0d05803ae4d87aecc1d7dc94e05dff7fe0015b2fcbfa254297eea66aa"), looks := false }, kinds := [], alts := [], goes := true, laidByText := true, laidKinds := [.data, .data, .data, .data, .funcsDeep], laidTests := true, laidLooks := .later }
def OffsetsRoundUptoCardSaid : Prop := Claim7.holds Tryz.pinned (.plain (OpenSpec.upto offsetsRoundSpec)) offsetsRoundUptoCard

/-- THE SECOND FORM's CARD OF 'ribbandlaw01.OffsetsFigures'. -/
def offsetsFiguresUptoCard : Claim7 := { stood := { row := offsetsFiguresUptoRow, standIns := [], harness := (true, "efa58da0d05803ae4d87aecc1d7dc94e05dff7fe0015b2fcbfa254297eea66aa"), looks := false }, kinds := [], alts := [], goes := true, laidByText := true, laidKinds := [.data, .data, .data, .data, .funcsDeep], laidTests := true, laidLooks := .later }
def OffsetsFiguresUptoCardSaid : Prop := Claim7.holds Tryz.pinned (.plain (OpenSpec.upto offsetsFiguresSpec)) offsetsFiguresUptoCard

/-- THE SECOND FORM's CARD OF 'ribbandlaw01.OffsetsNews'. -/
def offsetsNewsUptoCard : Claim7 := { stood := { row := offsetsNewsUptoRow, standIns := [], harness := (true, "efa58da0d05803ae4d87aecc1d7dc94e05dff7fe0015b2fcbfa254297eea66aa"), looks := false }, kinds := [], alts := [], goes := true, laidByText := true, laidKinds := [.data, .data, .data, .data, .funcsDeep], laidTests := true, laidLooks := .later }
def OffsetsNewsUptoCardSaid : Prop := Claim7.holds Tryz.pinned (.plain (OpenSpec.upto offsetsNewsSpec)) offsetsNewsUptoCard

/-- THE SECOND FORM's CARD OF 'ribbandlaw01.OffsetsDropped'. -/
def offsetsDroppedUptoCard : Claim7 := { stood := { row := offsetsDroppedUptoRow, standIns := [], harness := (true, "efa58da0d05803ae4d87aecc1d7dc94e05dff7fe0015b2fcbfa254297eea66aa"), looks := false }, kinds := [], alts := [], goes := true, laidByText := true, laidKinds := [.data, .data, .data, .data, .funcsDeep], laidTests := true, laidLooks := .later }
def OffsetsDroppedUptoCardSaid : Prop := Claim7.holds Tryz.pinned (.plain (OpenSpec.upto offsetsDroppedSpec)) offsetsDroppedUptoCard

/-- THE SECOND FORM's CARD OF 'ribbandlaw01.OffsetsBoats'. -/
def offsetsBoatsUptoCard : Claim7 := { stood := { row := offsetsBoatsUptoRow, standIns := [], harness := (true, "efa58da0d05803ae4d87aecc1d7dc94e05dff7fe0015b2fcbfa254297eea66aa"), looks := false }, kinds := [], alts := [], goes := true, laidByText := true, laidKinds := [.data, .data, .data, .data, .funcsDeep], laidTests := true, laidLooks := .later }
def OffsetsBoatsUptoCardSaid : Prop := Claim7.holds Tryz.pinned (.plain (OpenSpec.upto offsetsBoatsSpec)) offsetsBoatsUptoCard

/-- THE SECOND FORM's CARD OF 'ribbandlaw01.OffsetsReal'. -/
def offsetsRealUptoCard : Claim7 := { stood := { row := offsetsRealUptoRow, standIns := [], harness := (true, "efa58da0d05803ae4d87aecc1d7dc94e05dff7fe0015b2fcbfa254297eea66aa"), looks := false }, kinds := [], alts := [], goes := true, laidByText := true, laidKinds := [.data, .data, .data, .data, .funcsDeep], laidTests := true, laidLooks := .later }
def OffsetsRealUptoCardSaid : Prop := Claim7.holds Tryz.pinned (.plain (OpenSpec.upto offsetsRealSpec)) offsetsRealUptoCard
end Rows
end Go.Proofs.YtggpepeiedkbbaaGreatDoor
