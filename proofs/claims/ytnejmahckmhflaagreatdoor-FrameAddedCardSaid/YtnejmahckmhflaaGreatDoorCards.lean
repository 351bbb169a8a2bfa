/-
  DERIVED. GIVEN WITH THE SEED: THE CARDS: each row of YtnejmahckmhflaaGreatDoorRows.lean that lists a variable, with what it lists TIED to the program's text (the seventh form; the later family's looks); each row that meets fmt, with fmt's text TOLD by the authors' own Lean function (tested against real Go, not proved from fmt's source: count such statements apart). THE CARD IS WHAT COUNTS. Prove the row's statement (the work); the ties are given (YtnejmahckmhflaaGreatDoorTie.lean); close each card by the builder's one call (the guide's Derived/Test/ToyasCard.lean, 'card_holds'). Laid BY PROGRAM, IN A SANDBOX (cutbox-door.mjs). By AI agents, Wed Nov 11 2026. No macro, syntax, notation, axiom, sorry.
-/
import Derived.Test.YtnejmahckmhflaaGreatDoorRows
import GoSem.ClaimSeven
namespace Go.Proofs.YtnejmahckmhflaaGreatDoor
namespace Rows

/-- THE TIED CARD OF 'ribbandlaw03.FrameShapes'. -/
def frameShapesCard : Claim7 := { stood := { row := frameShapesRow, standIns := [], harness := (true, "002ec0a8c20dc5b1fd129f9c865db77d8f34e85aea65577f891b0925f2518361"), looks := false }, kinds := [], alts := [], goes := true, laidByText := true, laidKinds := [.funcs], laidTests := true, laidLooks := .later }
def FrameShapesCardSaid : Prop := Claim7.holds Tryz.pinned (.plain (OpenSpec.ofChange frameShapesSpec)) frameShapesCard

/-- THE TIED CARD OF 'ribbandlaw03.FrameBoats'. -/
def frameBoatsCard : Claim7 := { stood := { row := frameBoatsRow, standIns := [], harness := (true, "002ec0a8c20dc5b1fd129f9c865db77d8f34e85aea65577f891b0925f2518361"), looks := false }, kinds := [], alts := [], goes := true, laidByText := true, laidKinds := [.funcs], laidTests := true, laidLooks := .later }
def FrameBoatsCardSaid : Prop := Claim7.holds Tryz.pinned (.plain (OpenSpec.ofChange frameBoatsSpec)) frameBoatsCard

/-- THE TIED CARD OF 'ribbandlaw03.FrameReal'. -/
def frameRealCard : Claim7 := { stood := { row := frameRealRow, standIns := [], harness := (true, "002ec0a8c20dc5b1fd129f9c865db77d8f34e85aea65577f891b0925f2518361"), looks := false }, kinds := [], alts := [], goes := true, laidByText := true, laidKinds := [.funcs], laidTests := true, laidLooks := .later }
def FrameRealCardSaid : Prop := Claim7.holds Tryz.pinned (.plain (OpenSpec.ofChange frameRealSpec)) frameRealCard

/-- THE TIED CARD OF 'ribbandlaw03.FrameEnds'. -/
def frameEndsCard : Claim7 := { stood := { row := frameEndsRow, standIns := [], harness := (true, "002ec0a8c20dc5b1fd129f9c865db77d8f34e85aea65577f891b0925f2518361"), looks := false }, kinds := [], alts := [], goes := true, laidByText := true, laidKinds := [.funcs], laidTests := true, laidLooks := .later }
def FrameEndsCardSaid : Prop := Claim7.holds Tryz.pinned (.plain (OpenSpec.ofChange frameEndsSpec)) frameEndsCard

/-- THE TIED CARD OF 'ribbandlaw03.FrameRoots'. -/
def frameRootsCard : Claim7 := { stood := { row := frameRootsRow, standIns := [], harness := (true, "002ec0a8c20dc5b1fd129f9c865db77d8f34e85aea65577f891b0925f2518361"), looks := false }, kinds := [], alts := [], goes := true, laidByText := true, laidKinds := [.funcs], laidTests := true, laidLooks := .later }
def FrameRootsCardSaid : Prop := Claim7.holds Tryz.pinned (.plain (OpenSpec.ofChange frameRootsSpec)) frameRootsCard

/-- THE TIED CARD OF 'ribbandlaw03.FrameGirths'. -/
def frameGirthsCard : Claim7 := { stood := { row := frameGirthsRow, standIns := [], harness := (true, "002ec0a8c20dc5b1fd129f9c865db77d8f34e85aea65577f891b0925f2518361"), looks := false }, kinds := [], alts := [], goes := true, laidByText := true, laidKinds := [.funcs], laidTests := true, laidLooks := .later }
def FrameGirthsCardSaid : Prop := Claim7.holds Tryz.pinned (.plain (OpenSpec.ofChange frameGirthsSpec)) frameGirthsCard

/-- THE TIED CARD OF 'ribbandlaw03.FrameStraight'. -/
def frameStraightCard : Claim7 := { stood := { row := frameStraightRow, standIns := [], harness := (true, "002ec0a8c20dc5b1fd129f9c865db77d8f34e85aea65577f891b0925f2518361"), looks := false }, kinds := [], alts := [], goes := true, laidByText := true, laidKinds := [.funcs], laidTests := true, laidLooks := .later }
def FrameStraightCardSaid : Prop := Claim7.holds Tryz.pinned (.plain (OpenSpec.ofChange frameStraightSpec)) frameStraightCard

/-- THE TIED CARD OF 'ribbandlaw03.FrameAdded'. -/
def frameAddedCard : Claim7 := { stood := { row := frameAddedRow, standIns := [], harness := (true, "002ec0a8c20dc5b1fd129f9c865db77d8f34e85aea65577f891b0925f2518361"), looks := false }, kinds := [], alts := [], goes := true, laidByText := true, laidKinds := [.funcs], laidTests := true, laidLooks := .later }
def FrameAddedCardSaid : Prop := Claim7.holds Tryz.pinned (.plain (OpenSpec.ofChange frameAddedSpec)) frameAddedCard

/-- THE TIED CARD OF 'ribbandlaw03.FrameBroader'. -/
def frameBroaderCard : Claim7 := { stood := { row := frameBroaderRow, standIns := [], harness := (true, "002ec0a8c20dc5b1fd129f9c865db77d8f34e85aea65577f891b0925f2518361"), looks := false }, kinds := [], alts := [], goes := true, laidByText := true, laidKinds := [.funcs], laidTests := true, laidLooks := .later }
def FrameBroaderCardSaid : Prop := Claim7.holds Tryz.pinned (.plain (OpenSpec.ofChange frameBroaderSpec)) frameBroaderCard

/-- THE TIED CARD OF 'ribbandlaw03.FrameClashes'. -/
def frameClashesCard : Claim7 := { stood := { row := frameClashesRow, standIns := [], harness := (true, "002ec0a8c20dc5b1fd129f9c865db77d8f34e85aea65577f891b0925f2518361"), looks := false }, kinds := [], alts := [], goes := true, laidByText := true, laidKinds := [.funcs], laidTests := true, laidLooks := .later }
def FrameClashesCardSaid : Prop := Claim7.holds Tryz.pinned (.plain (OpenSpec.ofChange frameClashesSpec)) frameClashesCard

/-- THE TIED CARD OF 'ribbandlaw03.FrameAsked'. -/
def frameAskedCard : Claim7 := { stood := { row := frameAskedRow, standIns := [], harness := (true, "002ec0a8c20dc5b1fd129f9c865db77d8f34e85aea65577f891b0925f2518361"), looks := false }, kinds := [], alts := [], goes := true, laidByText := true, laidKinds := [.funcs], laidTests := true, laidLooks := .later }
def FrameAskedCardSaid : Prop := Claim7.holds Tryz.pinned (.plain (OpenSpec.ofChange frameAskedSpec)) frameAskedCard

/-- THE TIED CARD OF 'ribbandlaw03.FrameReached'. -/
def frameReachedCard : Claim7 := { stood := { row := frameReachedRow, standIns := [], harness := (true, "002ec0a8c20dc5b1fd129f9c865db77d8f34e85aea65577f891b0925f2518361"), looks := false }, kinds := [], alts := [], goes := true, laidByText := true, laidKinds := [.funcs], laidTests := true, laidLooks := .later }
def FrameReachedCardSaid : Prop := Claim7.holds Tryz.pinned (.plain (OpenSpec.ofChange frameReachedSpec)) frameReachedCard

/-- THE TIED CARD OF 'ribbandlaw03.FrameNews'. -/
def frameNewsCard : Claim7 := { stood := { row := frameNewsRow, standIns := [], harness := (true, "002ec0a8c20dc5b1fd129f9c865db77d8f34e85aea65577f891b0925f2518361"), looks := false }, kinds := [], alts := [], goes := true, laidByText := true, laidKinds := [.funcs], laidTests := true, laidLooks := .later }
def FrameNewsCardSaid : Prop := Claim7.holds Tryz.pinned (.plain (OpenSpec.ofChange frameNewsSpec)) frameNewsCard

/-- THE TIED CARD OF 'ribbandlaw03.FrameLearnt'. -/
def frameLearntCard : Claim7 := { stood := { row := frameLearntRow, standIns := [], harness := (true, "002ec0a8c20dc5b1fd129f9c865db77d8f34e85aea65577f891b0925f2518361"), looks := false }, kinds := [], alts := [], goes := true, laidByText := true, laidKinds := [.funcs], laidTests := true, laidLooks := .later }
def FrameLearntCardSaid : Prop := Claim7.holds Tryz.pinned (.plain (OpenSpec.ofChange frameLearntSpec)) frameLearntCard
end Rows
end Go.Proofs.YtnejmahckmhflaaGreatDoor
