/-
  DERIVED. GIVEN WITH THE SEED: THE CARDS: each row of YtkaokkedapnfhaaGreatDoorRows.lean that lists a variable, with what it lists TIED to the program's text (the seventh form; the later family's looks); each row that meets fmt, with fmt's text TOLD by the authors' own Lean function (tested against real Go, not proved from fmt's source: count such statements apart). THE CARD IS WHAT COUNTS. Prove the row's statement (the work); the ties are given (YtkaokkedapnfhaaGreatDoorTie.lean); close each card by the builder's one call (the guide's Derived/Test/ToyasCard.lean, 'card_holds'). Laid BY PROGRAM, IN A SANDBOX (cutbox-door.mjs). By AI agents, Wed Nov 11 2026. No macro, syntax, notation, axiom, sorry.
-/
import Derived.Test.YtkaokkedapnfhaaGreatDoorRows
import GoSem.ClaimSeven
namespace Go.Proofs.YtkaokkedapnfhaaGreatDoor
namespace Rows

/-- THE TIED CARD OF 'ribbandlaw01.OffsetsBoats'. -/
def offsetsBoatsCard : Claim7 := { stood := { row := offsetsBoatsRow, standIns := [], harness := (true, "4ff7c1189c36e74e17a2183620bba8cf811f65bafb89284bc5cdf1d26adc3536"), looks := false }, kinds := [], alts := [], goes := true, laidByText := true, laidKinds := [.data, .data, .data, .data, .funcsDeep], laidTests := true, laidLooks := .later }
def OffsetsBoatsCardSaid : Prop := Claim7.holds Tryz.pinned (.plain (OpenSpec.ofChange offsetsBoatsSpec)) offsetsBoatsCard

/-- THE SECOND FORM's CARD OF 'ribbandlaw01.OffsetsBoats'. -/
def offsetsBoatsUptoCard : Claim7 := { stood := { row := offsetsBoatsUptoRow, standIns := [], harness := (true, "4ff7c1189c36e74e17a2183620bba8cf811f65bafb89284bc5cdf1d26adc3536"), looks := false }, kinds := [], alts := [], goes := true, laidByText := true, laidKinds := [.data, .data, .data, .data, .funcsDeep], laidTests := true, laidLooks := .later }
def OffsetsBoatsUptoCardSaid : Prop := Claim7.holds Tryz.pinned (.plain (OpenSpec.upto offsetsBoatsSpec)) offsetsBoatsUptoCard
end Rows
end Go.Proofs.YtkaokkedapnfhaaGreatDoor
