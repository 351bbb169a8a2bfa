/-
  DERIVED. GIVEN WITH THE SEED: THE CARDS: each row of YtlbkicemccikgaaGreatDoorRows.lean that lists a variable, with what it lists TIED to the program's text (the seventh form; the later family's looks); each row that meets fmt, with fmt's text TOLD by the authors' own Lean function (tested against real Go, not proved from fmt's source: count such statements apart). THE CARD IS WHAT COUNTS. Prove the row's statement (the work); the ties are given (YtlbkicemccikgaaGreatDoorTie.lean); close each card by the builder's one call (the guide's Derived/Test/ToyasCard.lean, 'card_holds'). Laid BY PROGRAM, IN A SANDBOX (cutbox-door.mjs). By AI agents, Wed Nov 11 2026. No macro, syntax, notation, axiom, sorry.
-/
import Derived.Test.YtlbkicemccikgaaGreatDoorRows
import GoSem.ClaimSeven
namespace Go.Proofs.YtlbkicemccikgaaGreatDoor
namespace Rows

/-- THE TIED CARD OF 'ribbandlaw02.BattenLines'. -/
def battenLinesCard : Claim7 := { stood := { row := battenLinesRow, standIns := [], harness := (true, "03349bc71d9aa5b6362bd449fcfd3cb52e85abaaf90408fe44bc4d9eb17cb839"), looks := false }, kinds := [], alts := [], goes := true, laidByText := true, laidKinds := [.funcs], laidTests := true, laidLooks := .later }
def BattenLinesCardSaid : Prop := Claim7.holds Tryz.pinned (.plain (OpenSpec.ofChange battenLinesSpec)) battenLinesCard

/-- THE TIED CARD OF 'ribbandlaw02.BattenBoats'. -/
def battenBoatsCard : Claim7 := { stood := { row := battenBoatsRow, standIns := [], harness := (true, "03349bc71d9aa5b6362bd449fcfd3cb52e85abaaf90408fe44bc4d9eb17cb839"), looks := false }, kinds := [], alts := [], goes := true, laidByText := true, laidKinds := [.funcs], laidTests := true, laidLooks := .later }
def BattenBoatsCardSaid : Prop := Claim7.holds Tryz.pinned (.plain (OpenSpec.ofChange battenBoatsSpec)) battenBoatsCard

/-- THE TIED CARD OF 'ribbandlaw02.BattenReal'. -/
def battenRealCard : Claim7 := { stood := { row := battenRealRow, standIns := [], harness := (true, "03349bc71d9aa5b6362bd449fcfd3cb52e85abaaf90408fe44bc4d9eb17cb839"), looks := false }, kinds := [], alts := [], goes := true, laidByText := true, laidKinds := [.funcs], laidTests := true, laidLooks := .later }
def BattenRealCardSaid : Prop := Claim7.holds Tryz.pinned (.plain (OpenSpec.ofChange battenRealSpec)) battenRealCard

/-- THE TIED CARD OF 'ribbandlaw02.BattenStraight'. -/
def battenStraightCard : Claim7 := { stood := { row := battenStraightRow, standIns := [], harness := (true, "03349bc71d9aa5b6362bd449fcfd3cb52e85abaaf90408fe44bc4d9eb17cb839"), looks := false }, kinds := [], alts := [], goes := true, laidByText := true, laidKinds := [.funcs], laidTests := true, laidLooks := .later }
def BattenStraightCardSaid : Prop := Claim7.holds Tryz.pinned (.plain (OpenSpec.ofChange battenStraightSpec)) battenStraightCard

/-- THE TIED CARD OF 'ribbandlaw02.BattenNear'. -/
def battenNearCard : Claim7 := { stood := { row := battenNearRow, standIns := [], harness := (true, "03349bc71d9aa5b6362bd449fcfd3cb52e85abaaf90408fe44bc4d9eb17cb839"), looks := false }, kinds := [], alts := [], goes := true, laidByText := true, laidKinds := [.funcs], laidTests := true, laidLooks := .later }
def BattenNearCardSaid : Prop := Claim7.holds Tryz.pinned (.plain (OpenSpec.ofChange battenNearSpec)) battenNearCard

/-- THE TIED CARD OF 'ribbandlaw02.BattenPulls'. -/
def battenPullsCard : Claim7 := { stood := { row := battenPullsRow, standIns := [], harness := (true, "03349bc71d9aa5b6362bd449fcfd3cb52e85abaaf90408fe44bc4d9eb17cb839"), looks := false }, kinds := [], alts := [], goes := true, laidByText := true, laidKinds := [.funcs], laidTests := true, laidLooks := .later }
def BattenPullsCardSaid : Prop := Claim7.holds Tryz.pinned (.plain (OpenSpec.ofChange battenPullsSpec)) battenPullsCard

/-- THE TIED CARD OF 'ribbandlaw02.BattenTurned'. -/
def battenTurnedCard : Claim7 := { stood := { row := battenTurnedRow, standIns := [], harness := (true, "03349bc71d9aa5b6362bd449fcfd3cb52e85abaaf90408fe44bc4d9eb17cb839"), looks := false }, kinds := [], alts := [], goes := true, laidByText := true, laidKinds := [.funcs], laidTests := true, laidLooks := .later }
def BattenTurnedCardSaid : Prop := Claim7.holds Tryz.pinned (.plain (OpenSpec.ofChange battenTurnedSpec)) battenTurnedCard

/-- THE TIED CARD OF 'ribbandlaw02.BattenLifted'. -/
def battenLiftedCard : Claim7 := { stood := { row := battenLiftedRow, standIns := [], harness := (true, "03349bc71d9aa5b6362bd449fcfd3cb52e85abaaf90408fe44bc4d9eb17cb839"), looks := false }, kinds := [], alts := [], goes := true, laidByText := true, laidKinds := [.funcs], laidTests := true, laidLooks := .later }
def BattenLiftedCardSaid : Prop := Claim7.holds Tryz.pinned (.plain (OpenSpec.ofChange battenLiftedSpec)) battenLiftedCard

/-- THE TIED CARD OF 'ribbandlaw02.BattenStiffer'. -/
def battenStifferCard : Claim7 := { stood := { row := battenStifferRow, standIns := [], harness := (true, "03349bc71d9aa5b6362bd449fcfd3cb52e85abaaf90408fe44bc4d9eb17cb839"), looks := false }, kinds := [], alts := [], goes := true, laidByText := true, laidKinds := [.funcs], laidTests := true, laidLooks := .later }
def BattenStifferCardSaid : Prop := Claim7.holds Tryz.pinned (.plain (OpenSpec.ofChange battenStifferSpec)) battenStifferCard

/-- THE TIED CARD OF 'ribbandlaw02.BattenClashes'. -/
def battenClashesCard : Claim7 := { stood := { row := battenClashesRow, standIns := [], harness := (true, "03349bc71d9aa5b6362bd449fcfd3cb52e85abaaf90408fe44bc4d9eb17cb839"), looks := false }, kinds := [], alts := [], goes := true, laidByText := true, laidKinds := [.funcs], laidTests := true, laidLooks := .later }
def BattenClashesCardSaid : Prop := Claim7.holds Tryz.pinned (.plain (OpenSpec.ofChange battenClashesSpec)) battenClashesCard

/-- THE TIED CARD OF 'ribbandlaw02.BattenAsked'. -/
def battenAskedCard : Claim7 := { stood := { row := battenAskedRow, standIns := [], harness := (true, "03349bc71d9aa5b6362bd449fcfd3cb52e85abaaf90408fe44bc4d9eb17cb839"), looks := false }, kinds := [], alts := [], goes := true, laidByText := true, laidKinds := [.funcs], laidTests := true, laidLooks := .later }
def BattenAskedCardSaid : Prop := Claim7.holds Tryz.pinned (.plain (OpenSpec.ofChange battenAskedSpec)) battenAskedCard

/-- THE TIED CARD OF 'ribbandlaw02.BattenSpliced'. -/
def battenSplicedCard : Claim7 := { stood := { row := battenSplicedRow, standIns := [], harness := (true, "03349bc71d9aa5b6362bd449fcfd3cb52e85abaaf90408fe44bc4d9eb17cb839"), looks := false }, kinds := [], alts := [], goes := true, laidByText := true, laidKinds := [.funcs], laidTests := true, laidLooks := .later }
def BattenSplicedCardSaid : Prop := Claim7.holds Tryz.pinned (.plain (OpenSpec.ofChange battenSplicedSpec)) battenSplicedCard

/-- THE TIED CARD OF 'ribbandlaw02.BattenAnyOrder'. -/
def battenAnyOrderCard : Claim7 := { stood := { row := battenAnyOrderRow, standIns := [], harness := (true, "03349bc71d9aa5b6362bd449fcfd3cb52e85abaaf90408fe44bc4d9eb17cb839"), looks := false }, kinds := [], alts := [], goes := true, laidByText := true, laidKinds := [.funcs], laidTests := true, laidLooks := .later }
def BattenAnyOrderCardSaid : Prop := Claim7.holds Tryz.pinned (.plain (OpenSpec.ofChange battenAnyOrderSpec)) battenAnyOrderCard

/-- THE TIED CARD OF 'ribbandlaw02.BattenNews'. -/
def battenNewsCard : Claim7 := { stood := { row := battenNewsRow, standIns := [], harness := (true, "03349bc71d9aa5b6362bd449fcfd3cb52e85abaaf90408fe44bc4d9eb17cb839"), looks := false }, kinds := [], alts := [], goes := true, laidByText := true, laidKinds := [.funcs], laidTests := true, laidLooks := .later }
def BattenNewsCardSaid : Prop := Claim7.holds Tryz.pinned (.plain (OpenSpec.ofChange battenNewsSpec)) battenNewsCard

/-- THE TIED CARD OF 'ribbandlaw02.BattenReached'. -/
def battenReachedCard : Claim7 := { stood := { row := battenReachedRow, standIns := [], harness := (true, "03349bc71d9aa5b6362bd449fcfd3cb52e85abaaf90408fe44bc4d9eb17cb839"), looks := false }, kinds := [], alts := [], goes := true, laidByText := true, laidKinds := [.funcs], laidTests := true, laidLooks := .later }
def BattenReachedCardSaid : Prop := Claim7.holds Tryz.pinned (.plain (OpenSpec.ofChange battenReachedSpec)) battenReachedCard

/-- THE TIED CARD OF 'ribbandlaw02.BattenLearnt'. -/
def battenLearntCard : Claim7 := { stood := { row := battenLearntRow, standIns := [], harness := (true, "03349bc71d9aa5b6362bd449fcfd3cb52e85abaaf90408fe44bc4d9eb17cb839"), looks := false }, kinds := [], alts := [], goes := true, laidByText := true, laidKinds := [.funcs], laidTests := true, laidLooks := .later }
def BattenLearntCardSaid : Prop := Claim7.holds Tryz.pinned (.plain (OpenSpec.ofChange battenLearntSpec)) battenLearntCard

/-- THE SECOND FORM's CARD OF 'ribbandlaw02.BattenLines'. -/
def battenLinesUptoCard : Claim7 := { stood := { row := battenLinesUptoRow, standIns := [], harness := (true, "03349bc71d9aa5b6362bd449fcfd3cb52e85abaaf90408fe44bc4d9eb17cb839"), looks := false }, kinds := [], alts := [], goes := true, laidByText := true, laidKinds := [.funcs], laidTests := true, laidLooks := .later }
def BattenLinesUptoCardSaid : Prop := Claim7.holds Tryz.pinned (.plain (OpenSpec.upto battenLinesSpec)) battenLinesUptoCard

/-- THE SECOND FORM's CARD OF 'ribbandlaw02.BattenBoats'. -/
def battenBoatsUptoCard : Claim7 := { stood := { row := battenBoatsUptoRow, standIns := [], harness := (true, "03349bc71d9aa5b6362bd449fcfd3cb52e85abaaf90408fe44bc4d9eb17cb839"), looks := false }, kinds := [], alts := [], goes := true, laidByText := true, laidKinds := [.funcs], laidTests := true, laidLooks := .later }
def BattenBoatsUptoCardSaid : Prop := Claim7.holds Tryz.pinned (.plain (OpenSpec.upto battenBoatsSpec)) battenBoatsUptoCard

/-- THE SECOND FORM's CARD OF 'ribbandlaw02.BattenReal'. -/
def battenRealUptoCard : Claim7 := { stood := { row := battenRealUptoRow, standIns := [], harness := (true, "03349bc71d9aa5b6362bd449fcfd3cb52e85abaaf90408fe44bc4d9eb17cb839"), looks := false }, kinds := [], alts := [], goes := true, laidByText := true, laidKinds := [.funcs], laidTests := true, laidLooks := .later }
def BattenRealUptoCardSaid : Prop := Claim7.holds Tryz.pinned (.plain (OpenSpec.upto battenRealSpec)) battenRealUptoCard

/-- THE SECOND FORM's CARD OF 'ribbandlaw02.BattenStraight'. -/
def battenStraightUptoCard : Claim7 := { stood := { row := battenStraightUptoRow, standIns := [], harness := (true, "03349bc71d9aa5b6362bd449fcfd3cb52e85abaaf90408fe44bc4d9eb17cb839"), looks := false }, kinds := [], alts := [], goes := true, laidByText := true, laidKinds := [.funcs], laidTests := true, laidLooks := .later }
def BattenStraightUptoCardSaid : Prop := Claim7.holds Tryz.pinned (.plain (OpenSpec.upto battenStraightSpec)) battenStraightUptoCard

/-- THE SECOND FORM's CARD OF 'ribbandlaw02.BattenNear'. -/
def battenNearUptoCard : Claim7 := { stood := { row := battenNearUptoRow, standIns := [], harness := (true, "03349bc71d9aa5b6362bd449fcfd3cb52e85abaaf90408fe44bc4d9eb17cb839"), looks := false }, kinds := [], alts := [], goes := true, laidByText := true, laidKinds := [.funcs], laidTests := true, laidLooks := .later }
def BattenNearUptoCardSaid : Prop := Claim7.holds Tryz.pinned (.plain (OpenSpec.upto battenNearSpec)) battenNearUptoCard

/-- THE SECOND FORM's CARD OF 'ribbandlaw02.BattenPulls'. -/
def battenPullsUptoCard : Claim7 := { stood := { row := battenPullsUptoRow, standIns := [], harness := (true, "03349bc71d9aa5b6362bd449fcfd3cb52e85abaaf90408fe44bc4d9eb17cb839"), looks := false }, kinds := [], alts := [], goes := true, laidByText := true, laidKinds := [.funcs], laidTests := true, laidLooks := .later }
def BattenPullsUptoCardSaid : Prop := Claim7.holds Tryz.pinned (.plain (OpenSpec.upto battenPullsSpec)) battenPullsUptoCard

/-- THE SECOND FORM's CARD OF 'ribbandlaw02.BattenTurned'. -/
def battenTurnedUptoCard : Claim7 := { stood := { row := battenTurnedUptoRow, standIns := [], harness := (true, "03349bc71d9aa5b6362bd449fcfd3cb52e85abaaf90408fe44bc4d9eb17cb839"), looks := false }, kinds := [], alts := [], goes := true, laidByText := true, laidKinds := [.funcs], laidTests := true, laidLooks := .later }
def BattenTurnedUptoCardSaid : Prop := Claim7.holds Tryz.pinned (.plain (OpenSpec.upto battenTurnedSpec)) battenTurnedUptoCard

/-- THE SECOND FORM's CARD OF 'ribbandlaw02.BattenLifted'. -/
def battenLiftedUptoCard : Claim7 := { stood := { row := battenLiftedUptoRow, standIns := [], harness := (true, "03349bc71d9aa5b6362bd449fcfd3cb52e85abaaf90408fe44bc4d9eb17cb839"), looks := false }, kinds := [], alts := [], goes := true, laidByText := true, laidKinds := [.funcs], laidTests := true, laidLooks := .later }
def BattenLiftedUptoCardSaid : Prop := Claim7.holds Tryz.pinned (.plain (OpenSpec.upto battenLiftedSpec)) battenLiftedUptoCard

/-- THE SECOND FORM's CARD OF 'ribbandlaw02.BattenStiffer'. -/
def battenStifferUptoCard : Claim7 := { stood := { row := battenStifferUptoRow, standIns := [], harness := (true, "03349bc71d9aa5b6362bd449fcfd3cb52e85abaaf90408fe44bc4d9eb17cb839"), looks := false }, kinds := [], alts := [], goes := true, laidByText := true, laidKinds := [.funcs], laidTests := true, laidLooks := .later }
def BattenStifferUptoCardSaid : Prop := Claim7.holds Tryz.pinned (.plain (OpenSpec.upto battenStifferSpec)) battenStifferUptoCard

/-- THE SECOND FORM's CARD OF 'ribbandlaw02.BattenClashes'. -/
def battenClashesUptoCard : Claim7 := { stood := { row := battenClashesUptoRow, standIns := [], harness := (true, "03349bc71d9aa5b6362bd449fcfd3cb52e85abaaf90408fe44bc4d9eb17cb839"), looks := false }, kinds := [], alts := [], goes := true, laidByText := true, laidKinds := [.funcs], laidTests := true, laidLooks := .later }
def BattenClashesUptoCardSaid : Prop := Claim7.holds Tryz.pinned (.plain (OpenSpec.upto battenClashesSpec)) battenClashesUptoCard

/-- THE SECOND FORM's CARD OF 'ribbandlaw02.BattenAsked'. -/
def battenAskedUptoCard : Claim7 := { stood := { row := battenAskedUptoRow, standIns := [], harness := (true, "03349bc71d9aa5b6362bd449fcfd3cb52e85abaaf90408fe44bc4d9eb17cb839"), looks := false }, kinds := [], alts := [], goes := true, laidByText := true, laidKinds := [.funcs], laidTests := true, laidLooks := .later }
def BattenAskedUptoCardSaid : Prop := Claim7.holds Tryz.pinned (.plain (OpenSpec.upto battenAskedSpec)) battenAskedUptoCard

/-- THE SECOND FORM's CARD OF 'ribbandlaw02.BattenSpliced'. -/
def battenSplicedUptoCard : Claim7 := { stood := { row := battenSplicedUptoRow, standIns := [], harness := (true, "03349bc71d9aa5b6362bd449fcfd3cb52e85abaaf90408fe44bc4d9eb17cb839"), looks := false }, kinds := [], alts := [], goes := true, laidByText := true, laidKinds := [.funcs], laidTests := true, laidLooks := .later }
def BattenSplicedUptoCardSaid : Prop := Claim7.holds Tryz.pinned (.plain (OpenSpec.upto battenSplicedSpec)) battenSplicedUptoCard

/-- THE SECOND FORM's CARD OF 'ribbandlaw02.BattenAnyOrder'. -/
def battenAnyOrderUptoCard : Claim7 := { stood := { row := battenAnyOrderUptoRow, standIns := [], harness := (true, "03349bc71d9aa5b6362bd449fcfd3cb52e85abaaf90408fe44bc4d9eb17cb839"), looks := false }, kinds := [], alts := [], goes := true, laidByText := true, laidKinds := [.funcs], laidTests := true, laidLooks := .later }
def BattenAnyOrderUptoCardSaid : Prop := Claim7.holds Tryz.pinned (.plain (OpenSpec.upto battenAnyOrderSpec)) battenAnyOrderUptoCard

/-- THE SECOND FORM's CARD OF 'ribbandlaw02.BattenNews'. -/
def battenNewsUptoCard : Claim7 := { stood := { row := battenNewsUptoRow, standIns := [], harness := (true, "03349bc71d9aa5b6362bd449fcfd3cb52e85abaaf90408fe44bc4d9eb17cb839"), looks := false }, kinds := [], alts := [], goes := true, laidByText := true, laidKinds := [.funcs], laidTests := true, laidLooks := .later }
def BattenNewsUptoCardSaid : Prop := Claim7.holds Tryz.pinned (.plain (OpenSpec.upto battenNewsSpec)) battenNewsUptoCard

/-- THE SECOND FORM's CARD OF 'ribbandlaw02.BattenReached'. -/
def battenReachedUptoCard : Claim7 := { stood := { row := battenReachedUptoRow, standIns := [], harness := (true, "03349bc71d9aa5b6362bd449fcfd3cb52e85abaaf90408fe44bc4d9eb17cb839"), looks := false }, kinds := [], alts := [], goes := true, laidByText := true, laidKinds := [.funcs], laidTests := true, laidLooks := .later }
def BattenReachedUptoCardSaid : Prop := Claim7.holds Tryz.pinned (.plain (OpenSpec.upto battenReachedSpec)) battenReachedUptoCard

/-- THE SECOND FORM's CARD OF 'ribbandlaw02.BattenLearnt'. -/
def battenLearntUptoCard : Claim7 := { stood := { row := battenLearntUptoRow, standIns := [], harness := (true, "03349bc71d9aa5b6362bd449fcfd3cb52e85abaaf90408fe44bc4d9eb17cb839"), looks := false }, kinds := [], alts := [], goes := true, laidByText := true, laidKinds := [.funcs], laidTests := true, laidLooks := .later }
def BattenLearntUptoCardSaid : Prop := Claim7.holds Tryz.pinned (.plain (OpenSpec.upto battenLearntSpec)) battenLearntUptoCard
end Rows
end Go.Proofs.YtlbkicemccikgaaGreatDoor
