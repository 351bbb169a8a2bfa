/-
  DERIVED. GIVEN WITH THE SEED: THE CARDS: each row of YtgplnpdblmcdoaaGreatDoorRows.lean that lists a variable, with what it lists TIED to the program's text (the seventh form; the later family's looks); each row that meets fmt, with fmt's text TOLD by the authors' own Lean function (tested against real Go, not proved from fmt's source: count such statements apart). THE CARD IS WHAT COUNTS. Prove the row's statement (the work); the ties are given (YtgplnpdblmcdoaaGreatDoorTie.lean); close each card by the builder's one call (the guide's Derived/Test/ToyasCard.lean, 'card_holds'). Laid BY PROGRAM, IN A SANDBOX (cutbox-door.mjs). By AI agents, Wed Nov 11 2026. No macro, syntax, notation, axiom, sorry.
-/
import Derived.Test.YtgplnpdblmcdoaaGreatDoorRows
import GoSem.ClaimSeven
namespace Go.Proofs.YtgplnpdblmcdoaaGreatDoor
namespace Rows

/-- THE TIED CARD OF 'ribbandlaw03.FrameBent'. -/
def frameBentCard : Claim7 := { stood := { row := frameBentRow, standIns := [], harness := (true, "fd546b74efcf1b7f38a82da1dc349b368d6f336ca6002d65bfc415943250be8b"), looks := false }, kinds := [], alts := [], goes := true, laidByText := true, laidKinds := [.funcs, .funcs], laidTests := true, laidLooks := .later }
def FrameBentCardSaid : Prop := Claim7.holds Tryz.pinned (.plain (OpenSpec.ofChange frameBentSpec)) frameBentCard

/-- THE TIED CARD OF 'ribbandlaw03.FrameMarked'. -/
def frameMarkedCard : Claim7 := { stood := { row := frameMarkedRow, standIns := [], harness := (true, "fd546b74efcf1b7f38a82da1dc349b368d6f336ca6002d65bfc415943250be8b"), looks := false }, kinds := [], alts := [], goes := true, laidByText := true, laidKinds := [.funcs, .funcs], laidTests := true, laidLooks := .later }
def FrameMarkedCardSaid : Prop := Claim7.holds Tryz.pinned (.plain (OpenSpec.ofChange frameMarkedSpec)) frameMarkedCard
end Rows
end Go.Proofs.YtgplnpdblmcdoaaGreatDoor
