/-
  NARROWER THAN 'FOR EVERY INPUT', by the rows' own cells (each row's printed sentence says how): FrameShapes: calm, laid · FrameBoats: calm, laid · FrameReal: calm, laid · FrameEnds: calm, laid · FrameRoots: calm, laid · FrameGirths: calm, laid · FrameStraight: calm, laid · FrameAdded: calm, laid · FrameBroader: calm, laid · FrameClashes: calm, laid · FrameAsked: calm, laid · FrameReached: calm, laid · FrameNews: calm, laid · FrameLearnt: calm, laid.
  DERIVED. THE GIVEN ROWS OF THIS SEAT. 14 by the template 'for every input the law returns true; each argument reads behind the call as it read before'; 0 by the template 'total and deterministic' (their statements: YtnejmahckmhflaaGreatDoorTotals.lean).
  GIVEN WITH THE SEED: the statements are not yours to turn. If you find one false, say at which input.
  Laid BY PROGRAM, IN A SANDBOX (cutbox-rows.mjs): the forced cells as the released guide's own fill.sh prints them over the translation 0343e79a8b7c5f78… (all of the seat's roots in one cut). By AI agents, Wed Nov 11 2026. No macro, syntax, notation, axiom, sorry.
-/
import Derived.Test.YtnejmahckmhflaaGreatDoorChecked
import GoSem.Claim
import GoSem.ClaimJoined
import GoSem.ClaimMapViews
import Derived.JoinedTies
import Derived.KernelRfl
namespace Go.Proofs.YtnejmahckmhflaaGreatDoor
/- THE CELL 'sum', in the pinned program and in every row, IS THE sha256 OF THE DUMP (.gsa) THAT YtnejmahckmhflaaGreatDoorProg.lean LOADS. Nothing in Lean hashes anything: it is a label: what it is worth is what the hold of that sum in a sandbox is worth. -/
noncomputable def Tryz.pinned : Pinned := { name := "ytnejmahckmhflaagreatdoor", sum := "0343e79a8b7c5f78000d977b1aa8cb23f03b56ef56a59ebcc0f58833401e3ee8", checked := Tryz.checked }
namespace Rows
def none {H : Type} : Left H := { results := [], args := [] }

/- WHAT THE LISTED PACKAGE-LEVEL VARIABLES READ AS WHEN THE CALL BEGINS. Each datum BY PROGRAM (the guide's laid-datum.mjs) off the statement by which the dump's own 'gosem.cut.vars' lays the variable. In a bare row this is a premise. The card (YtnejmahckmhflaaGreatDoorCards.lean) ties it to the program's text. -/
def laid_ribband_frame_checks {H : Type} : DataW H := .iface "func table" (.agg [.iface "func" (.lit (.string [40, 114, 105, 98, 98, 97, 110, 100, 47, 102, 114, 97, 109, 101, 46, 98, 111, 111, 107, 41, 46, 112, 111, 105, 110, 116, 115])), .iface "func" (.lit (.string [40, 114, 105, 98, 98, 97, 110, 100, 47, 102, 114, 97, 109, 101, 46, 98, 111, 111, 107, 41, 46, 116, 97, 112, 101, 115])), .iface "func" (.lit (.string [40, 114, 105, 98, 98, 97, 110, 100, 47, 102, 114, 97, 109, 101, 46, 98, 111, 111, 107, 41, 46, 115, 116, 105, 99, 107, 115]))])

/-- 'ribbandlaw03.FrameShapes': WHATEVER THE INPUT: true; the input reads as it did. -/
def frameShapesSpec : ChangeSpec := { name := "frameShapes", fn := fun _ => fun
  | [d1, d2, d3, d4, d5, d6] => { results := [.lit (.bool true)], args := [d1, d2, d3, d4, d5, d6] }
  | _ => none }
def frameShapesRow : OpenClaim := { program := "ytnejmahckmhflaagreatdoor", sum := "0343e79a8b7c5f78000d977b1aa8cb23f03b56ef56a59ebcc0f58833401e3ee8", func := "ribband/ribbandlaw03.FrameShapes", spec := "frameShapes", inPlace := ["(*sync.WaitGroup).Add", "internal/race.ReleaseMerge", "internal/race.Disable", "internal/race.Enable", "internal/synctest.IsInBubble", "internal/synctest.Associate[sync.WaitGroup]", "sync.fatal", "sync/atomic.OrUint64", "sync/atomic.AddUint64", "internal/race.Read", "sync/atomic.LoadUint64", "sync/atomic.StoreUint64", "internal/synctest.Disassociate[sync.WaitGroup]", "sync.runtime_Semrelease", "(*sync.WaitGroup).Done", "(*internal/sync.Mutex).Lock", "sync/atomic.CompareAndSwapInt32", "internal/race.Acquire", "(*internal/sync.Mutex).lockSlow", "internal/sync.runtime_canSpin", "internal/sync.runtime_doSpin", "internal/sync.throw", "internal/sync.runtime_nanotime", "internal/sync.runtime_SemacquireMutex", "sync/atomic.AddInt32", "(*internal/sync.Mutex).Unlock", "(*internal/sync.Mutex).unlockSlow", "internal/sync.fatal", "internal/sync.runtime_Semrelease", "(*sync.WaitGroup).Wait", "internal/synctest.IsAssociated[sync.WaitGroup]", "sync/atomic.CompareAndSwapUint64", "internal/race.Write", "sync.runtime_SemacquireWaitGroup"], unfollowed := true, recurses := true, named := ["ribband/frame.checks"], plainKeys := false, leaving := true, apart := false, calm := true, outside := [.timePasses], laid := [("ribband/frame.checks", laid_ribband_frame_checks)] }
def FrameShapesSaid : Prop := frameShapesRow.holds Tryz.pinned (OpenSpec.ofChange frameShapesSpec)

/-- ITS FALSE NEIGHBOUR: 'it returns false'. Refute it at one input. -/
def frameShapesWrong : ChangeSpec := { name := "frameShapes", fn := fun _ => fun
  | [d1, d2, d3, d4, d5, d6] => { results := [.lit (.bool false)], args := [d1, d2, d3, d4, d5, d6] }
  | _ => none }
def FrameShapesWrongFalsely : Prop := frameShapesRow.holds Tryz.pinned (OpenSpec.ofChange frameShapesWrong)

/-- 'ribbandlaw03.FrameBoats': WHATEVER THE INPUT: true; the input reads as it did. -/
def frameBoatsSpec : ChangeSpec := { name := "frameBoats", fn := fun _ => fun
  | [d1, d2, d3, d4, d5, d6] => { results := [.lit (.bool true)], args := [d1, d2, d3, d4, d5, d6] }
  | _ => none }
def frameBoatsRow : OpenClaim := { program := "ytnejmahckmhflaagreatdoor", sum := "0343e79a8b7c5f78000d977b1aa8cb23f03b56ef56a59ebcc0f58833401e3ee8", func := "ribband/ribbandlaw03.FrameBoats", spec := "frameBoats", inPlace := ["(*sync.WaitGroup).Add", "internal/race.ReleaseMerge", "internal/race.Disable", "internal/race.Enable", "internal/synctest.IsInBubble", "internal/synctest.Associate[sync.WaitGroup]", "sync.fatal", "sync/atomic.OrUint64", "sync/atomic.AddUint64", "internal/race.Read", "sync/atomic.LoadUint64", "sync/atomic.StoreUint64", "internal/synctest.Disassociate[sync.WaitGroup]", "sync.runtime_Semrelease", "(*sync.WaitGroup).Done", "(*internal/sync.Mutex).Lock", "sync/atomic.CompareAndSwapInt32", "internal/race.Acquire", "(*internal/sync.Mutex).lockSlow", "internal/sync.runtime_canSpin", "internal/sync.runtime_doSpin", "internal/sync.throw", "internal/sync.runtime_nanotime", "internal/sync.runtime_SemacquireMutex", "sync/atomic.AddInt32", "(*internal/sync.Mutex).Unlock", "(*internal/sync.Mutex).unlockSlow", "internal/sync.fatal", "internal/sync.runtime_Semrelease", "(*sync.WaitGroup).Wait", "internal/synctest.IsAssociated[sync.WaitGroup]", "sync/atomic.CompareAndSwapUint64", "internal/race.Write", "sync.runtime_SemacquireWaitGroup"], unfollowed := true, recurses := true, named := ["ribband/frame.checks"], plainKeys := false, leaving := true, apart := false, calm := true, outside := [.timePasses], laid := [("ribband/frame.checks", laid_ribband_frame_checks)] }
def FrameBoatsSaid : Prop := frameBoatsRow.holds Tryz.pinned (OpenSpec.ofChange frameBoatsSpec)

/-- ITS FALSE NEIGHBOUR: 'it returns false'. Refute it at one input. -/
def frameBoatsWrong : ChangeSpec := { name := "frameBoats", fn := fun _ => fun
  | [d1, d2, d3, d4, d5, d6] => { results := [.lit (.bool false)], args := [d1, d2, d3, d4, d5, d6] }
  | _ => none }
def FrameBoatsWrongFalsely : Prop := frameBoatsRow.holds Tryz.pinned (OpenSpec.ofChange frameBoatsWrong)

/-- 'ribbandlaw03.FrameReal': WHATEVER THE INPUT: true; the input reads as it did. -/
def frameRealSpec : ChangeSpec := { name := "frameReal", fn := fun _ => fun
  | [d1, d2, d3, d4, d5] => { results := [.lit (.bool true)], args := [d1, d2, d3, d4, d5] }
  | _ => none }
def frameRealRow : OpenClaim := { program := "ytnejmahckmhflaagreatdoor", sum := "0343e79a8b7c5f78000d977b1aa8cb23f03b56ef56a59ebcc0f58833401e3ee8", func := "ribband/ribbandlaw03.FrameReal", spec := "frameReal", inPlace := ["(*sync.WaitGroup).Add", "internal/race.ReleaseMerge", "internal/race.Disable", "internal/race.Enable", "internal/synctest.IsInBubble", "internal/synctest.Associate[sync.WaitGroup]", "sync.fatal", "sync/atomic.OrUint64", "sync/atomic.AddUint64", "internal/race.Read", "sync/atomic.LoadUint64", "sync/atomic.StoreUint64", "internal/synctest.Disassociate[sync.WaitGroup]", "sync.runtime_Semrelease", "(*sync.WaitGroup).Done", "(*internal/sync.Mutex).Lock", "sync/atomic.CompareAndSwapInt32", "internal/race.Acquire", "(*internal/sync.Mutex).lockSlow", "internal/sync.runtime_canSpin", "internal/sync.runtime_doSpin", "internal/sync.throw", "internal/sync.runtime_nanotime", "internal/sync.runtime_SemacquireMutex", "sync/atomic.AddInt32", "(*internal/sync.Mutex).Unlock", "(*internal/sync.Mutex).unlockSlow", "internal/sync.fatal", "internal/sync.runtime_Semrelease", "(*sync.WaitGroup).Wait", "internal/synctest.IsAssociated[sync.WaitGroup]", "sync/atomic.CompareAndSwapUint64", "internal/race.Write", "sync.runtime_SemacquireWaitGroup"], unfollowed := true, recurses := true, named := ["ribband/frame.checks"], plainKeys := false, leaving := true, apart := false, calm := true, outside := [.timePasses], laid := [("ribband/frame.checks", laid_ribband_frame_checks)] }
def FrameRealSaid : Prop := frameRealRow.holds Tryz.pinned (OpenSpec.ofChange frameRealSpec)

/-- ITS FALSE NEIGHBOUR: 'it returns false'. Refute it at one input. -/
def frameRealWrong : ChangeSpec := { name := "frameReal", fn := fun _ => fun
  | [d1, d2, d3, d4, d5] => { results := [.lit (.bool false)], args := [d1, d2, d3, d4, d5] }
  | _ => none }
def FrameRealWrongFalsely : Prop := frameRealRow.holds Tryz.pinned (OpenSpec.ofChange frameRealWrong)

/-- 'ribbandlaw03.FrameEnds': WHATEVER THE INPUT: true; the input reads as it did. -/
def frameEndsSpec : ChangeSpec := { name := "frameEnds", fn := fun _ => fun
  | [d1, d2, d3] => { results := [.lit (.bool true)], args := [d1, d2, d3] }
  | _ => none }
def frameEndsRow : OpenClaim := { program := "ytnejmahckmhflaagreatdoor", sum := "0343e79a8b7c5f78000d977b1aa8cb23f03b56ef56a59ebcc0f58833401e3ee8", func := "ribband/ribbandlaw03.FrameEnds", spec := "frameEnds", inPlace := ["(*sync.WaitGroup).Add", "internal/race.ReleaseMerge", "internal/race.Disable", "internal/race.Enable", "internal/synctest.IsInBubble", "internal/synctest.Associate[sync.WaitGroup]", "sync.fatal", "sync/atomic.OrUint64", "sync/atomic.AddUint64", "internal/race.Read", "sync/atomic.LoadUint64", "sync/atomic.StoreUint64", "internal/synctest.Disassociate[sync.WaitGroup]", "sync.runtime_Semrelease", "(*sync.WaitGroup).Done", "(*internal/sync.Mutex).Lock", "sync/atomic.CompareAndSwapInt32", "internal/race.Acquire", "(*internal/sync.Mutex).lockSlow", "internal/sync.runtime_canSpin", "internal/sync.runtime_doSpin", "internal/sync.throw", "internal/sync.runtime_nanotime", "internal/sync.runtime_SemacquireMutex", "sync/atomic.AddInt32", "(*internal/sync.Mutex).Unlock", "(*internal/sync.Mutex).unlockSlow", "internal/sync.fatal", "internal/sync.runtime_Semrelease", "(*sync.WaitGroup).Wait", "internal/synctest.IsAssociated[sync.WaitGroup]", "sync/atomic.CompareAndSwapUint64", "internal/race.Write", "sync.runtime_SemacquireWaitGroup"], unfollowed := true, recurses := true, named := ["ribband/frame.checks"], plainKeys := false, leaving := true, apart := false, calm := true, outside := [.timePasses], laid := [("ribband/frame.checks", laid_ribband_frame_checks)] }
def FrameEndsSaid : Prop := frameEndsRow.holds Tryz.pinned (OpenSpec.ofChange frameEndsSpec)

/-- ITS FALSE NEIGHBOUR: 'it returns false'. Refute it at one input. -/
def frameEndsWrong : ChangeSpec := { name := "frameEnds", fn := fun _ => fun
  | [d1, d2, d3] => { results := [.lit (.bool false)], args := [d1, d2, d3] }
  | _ => none }
def FrameEndsWrongFalsely : Prop := frameEndsRow.holds Tryz.pinned (OpenSpec.ofChange frameEndsWrong)

/-- 'ribbandlaw03.FrameRoots': WHATEVER THE INPUT: true; the input reads as it did. -/
def frameRootsSpec : ChangeSpec := { name := "frameRoots", fn := fun _ => fun
  | [d1, d2] => { results := [.lit (.bool true)], args := [d1, d2] }
  | _ => none }
def frameRootsRow : OpenClaim := { program := "ytnejmahckmhflaagreatdoor", sum := "0343e79a8b7c5f78000d977b1aa8cb23f03b56ef56a59ebcc0f58833401e3ee8", func := "ribband/ribbandlaw03.FrameRoots", spec := "frameRoots", inPlace := ["(*sync.WaitGroup).Add", "internal/race.ReleaseMerge", "internal/race.Disable", "internal/race.Enable", "internal/synctest.IsInBubble", "internal/synctest.Associate[sync.WaitGroup]", "sync.fatal", "sync/atomic.OrUint64", "sync/atomic.AddUint64", "internal/race.Read", "sync/atomic.LoadUint64", "sync/atomic.StoreUint64", "internal/synctest.Disassociate[sync.WaitGroup]", "sync.runtime_Semrelease", "(*sync.WaitGroup).Done", "(*internal/sync.Mutex).Lock", "sync/atomic.CompareAndSwapInt32", "internal/race.Acquire", "(*internal/sync.Mutex).lockSlow", "internal/sync.runtime_canSpin", "internal/sync.runtime_doSpin", "internal/sync.throw", "internal/sync.runtime_nanotime", "internal/sync.runtime_SemacquireMutex", "sync/atomic.AddInt32", "(*internal/sync.Mutex).Unlock", "(*internal/sync.Mutex).unlockSlow", "internal/sync.fatal", "internal/sync.runtime_Semrelease", "(*sync.WaitGroup).Wait", "internal/synctest.IsAssociated[sync.WaitGroup]", "sync/atomic.CompareAndSwapUint64", "internal/race.Write", "sync.runtime_SemacquireWaitGroup"], unfollowed := true, recurses := true, named := ["ribband/frame.checks"], plainKeys := false, leaving := true, apart := false, calm := true, outside := [.timePasses], laid := [("ribband/frame.checks", laid_ribband_frame_checks)] }
def FrameRootsSaid : Prop := frameRootsRow.holds Tryz.pinned (OpenSpec.ofChange frameRootsSpec)

/-- ITS FALSE NEIGHBOUR: 'it returns false'. Refute it at one input. -/
def frameRootsWrong : ChangeSpec := { name := "frameRoots", fn := fun _ => fun
  | [d1, d2] => { results := [.lit (.bool false)], args := [d1, d2] }
  | _ => none }
def FrameRootsWrongFalsely : Prop := frameRootsRow.holds Tryz.pinned (OpenSpec.ofChange frameRootsWrong)

/-- 'ribbandlaw03.FrameGirths': WHATEVER THE INPUT: true; the input reads as it did. -/
def frameGirthsSpec : ChangeSpec := { name := "frameGirths", fn := fun _ => fun
  | [d1, d2, d3, d4] => { results := [.lit (.bool true)], args := [d1, d2, d3, d4] }
  | _ => none }
def frameGirthsRow : OpenClaim := { program := "ytnejmahckmhflaagreatdoor", sum := "0343e79a8b7c5f78000d977b1aa8cb23f03b56ef56a59ebcc0f58833401e3ee8", func := "ribband/ribbandlaw03.FrameGirths", spec := "frameGirths", inPlace := ["(*sync.WaitGroup).Add", "internal/race.ReleaseMerge", "internal/race.Disable", "internal/race.Enable", "internal/synctest.IsInBubble", "internal/synctest.Associate[sync.WaitGroup]", "sync.fatal", "sync/atomic.OrUint64", "sync/atomic.AddUint64", "internal/race.Read", "sync/atomic.LoadUint64", "sync/atomic.StoreUint64", "internal/synctest.Disassociate[sync.WaitGroup]", "sync.runtime_Semrelease", "(*sync.WaitGroup).Done", "(*internal/sync.Mutex).Lock", "sync/atomic.CompareAndSwapInt32", "internal/race.Acquire", "(*internal/sync.Mutex).lockSlow", "internal/sync.runtime_canSpin", "internal/sync.runtime_doSpin", "internal/sync.throw", "internal/sync.runtime_nanotime", "internal/sync.runtime_SemacquireMutex", "sync/atomic.AddInt32", "(*internal/sync.Mutex).Unlock", "(*internal/sync.Mutex).unlockSlow", "internal/sync.fatal", "internal/sync.runtime_Semrelease", "(*sync.WaitGroup).Wait", "internal/synctest.IsAssociated[sync.WaitGroup]", "sync/atomic.CompareAndSwapUint64", "internal/race.Write", "sync.runtime_SemacquireWaitGroup"], unfollowed := true, recurses := true, named := ["ribband/frame.checks"], plainKeys := false, leaving := true, apart := false, calm := true, outside := [.timePasses], laid := [("ribband/frame.checks", laid_ribband_frame_checks)] }
def FrameGirthsSaid : Prop := frameGirthsRow.holds Tryz.pinned (OpenSpec.ofChange frameGirthsSpec)

/-- ITS FALSE NEIGHBOUR: 'it returns false'. Refute it at one input. -/
def frameGirthsWrong : ChangeSpec := { name := "frameGirths", fn := fun _ => fun
  | [d1, d2, d3, d4] => { results := [.lit (.bool false)], args := [d1, d2, d3, d4] }
  | _ => none }
def FrameGirthsWrongFalsely : Prop := frameGirthsRow.holds Tryz.pinned (OpenSpec.ofChange frameGirthsWrong)

/-- 'ribbandlaw03.FrameStraight': WHATEVER THE INPUT: true; the input reads as it did. -/
def frameStraightSpec : ChangeSpec := { name := "frameStraight", fn := fun _ => fun
  | [d1, d2, d3, d4, d5] => { results := [.lit (.bool true)], args := [d1, d2, d3, d4, d5] }
  | _ => none }
def frameStraightRow : OpenClaim := { program := "ytnejmahckmhflaagreatdoor", sum := "0343e79a8b7c5f78000d977b1aa8cb23f03b56ef56a59ebcc0f58833401e3ee8", func := "ribband/ribbandlaw03.FrameStraight", spec := "frameStraight", inPlace := ["(*sync.WaitGroup).Add", "internal/race.ReleaseMerge", "internal/race.Disable", "internal/race.Enable", "internal/synctest.IsInBubble", "internal/synctest.Associate[sync.WaitGroup]", "sync.fatal", "sync/atomic.OrUint64", "sync/atomic.AddUint64", "internal/race.Read", "sync/atomic.LoadUint64", "sync/atomic.StoreUint64", "internal/synctest.Disassociate[sync.WaitGroup]", "sync.runtime_Semrelease", "(*sync.WaitGroup).Done", "(*internal/sync.Mutex).Lock", "sync/atomic.CompareAndSwapInt32", "internal/race.Acquire", "(*internal/sync.Mutex).lockSlow", "internal/sync.runtime_canSpin", "internal/sync.runtime_doSpin", "internal/sync.throw", "internal/sync.runtime_nanotime", "internal/sync.runtime_SemacquireMutex", "sync/atomic.AddInt32", "(*internal/sync.Mutex).Unlock", "(*internal/sync.Mutex).unlockSlow", "internal/sync.fatal", "internal/sync.runtime_Semrelease", "(*sync.WaitGroup).Wait", "internal/synctest.IsAssociated[sync.WaitGroup]", "sync/atomic.CompareAndSwapUint64", "internal/race.Write", "sync.runtime_SemacquireWaitGroup"], unfollowed := true, recurses := true, named := ["ribband/frame.checks"], plainKeys := false, leaving := true, apart := false, calm := true, outside := [.timePasses], laid := [("ribband/frame.checks", laid_ribband_frame_checks)] }
def FrameStraightSaid : Prop := frameStraightRow.holds Tryz.pinned (OpenSpec.ofChange frameStraightSpec)

/-- ITS FALSE NEIGHBOUR: 'it returns false'. Refute it at one input. -/
def frameStraightWrong : ChangeSpec := { name := "frameStraight", fn := fun _ => fun
  | [d1, d2, d3, d4, d5] => { results := [.lit (.bool false)], args := [d1, d2, d3, d4, d5] }
  | _ => none }
def FrameStraightWrongFalsely : Prop := frameStraightRow.holds Tryz.pinned (OpenSpec.ofChange frameStraightWrong)

/-- 'ribbandlaw03.FrameAdded': WHATEVER THE INPUT: true; the input reads as it did. -/
def frameAddedSpec : ChangeSpec := { name := "frameAdded", fn := fun _ => fun
  | [d1, d2, d3, d4] => { results := [.lit (.bool true)], args := [d1, d2, d3, d4] }
  | _ => none }
def frameAddedRow : OpenClaim := { program := "ytnejmahckmhflaagreatdoor", sum := "0343e79a8b7c5f78000d977b1aa8cb23f03b56ef56a59ebcc0f58833401e3ee8", func := "ribband/ribbandlaw03.FrameAdded", spec := "frameAdded", inPlace := ["(*sync.WaitGroup).Add", "internal/race.ReleaseMerge", "internal/race.Disable", "internal/race.Enable", "internal/synctest.IsInBubble", "internal/synctest.Associate[sync.WaitGroup]", "sync.fatal", "sync/atomic.OrUint64", "sync/atomic.AddUint64", "internal/race.Read", "sync/atomic.LoadUint64", "sync/atomic.StoreUint64", "internal/synctest.Disassociate[sync.WaitGroup]", "sync.runtime_Semrelease", "(*sync.WaitGroup).Done", "(*internal/sync.Mutex).Lock", "sync/atomic.CompareAndSwapInt32", "internal/race.Acquire", "(*internal/sync.Mutex).lockSlow", "internal/sync.runtime_canSpin", "internal/sync.runtime_doSpin", "internal/sync.throw", "internal/sync.runtime_nanotime", "internal/sync.runtime_SemacquireMutex", "sync/atomic.AddInt32", "(*internal/sync.Mutex).Unlock", "(*internal/sync.Mutex).unlockSlow", "internal/sync.fatal", "internal/sync.runtime_Semrelease", "(*sync.WaitGroup).Wait", "internal/synctest.IsAssociated[sync.WaitGroup]", "sync/atomic.CompareAndSwapUint64", "internal/race.Write", "sync.runtime_SemacquireWaitGroup"], unfollowed := true, recurses := true, named := ["ribband/frame.checks"], plainKeys := false, leaving := true, apart := false, calm := true, outside := [.timePasses], laid := [("ribband/frame.checks", laid_ribband_frame_checks)] }
def FrameAddedSaid : Prop := frameAddedRow.holds Tryz.pinned (OpenSpec.ofChange frameAddedSpec)

/-- ITS FALSE NEIGHBOUR: 'it returns false'. Refute it at one input. -/
def frameAddedWrong : ChangeSpec := { name := "frameAdded", fn := fun _ => fun
  | [d1, d2, d3, d4] => { results := [.lit (.bool false)], args := [d1, d2, d3, d4] }
  | _ => none }
def FrameAddedWrongFalsely : Prop := frameAddedRow.holds Tryz.pinned (OpenSpec.ofChange frameAddedWrong)

/-- 'ribbandlaw03.FrameBroader': WHATEVER THE INPUT: true; the input reads as it did. -/
def frameBroaderSpec : ChangeSpec := { name := "frameBroader", fn := fun _ => fun
  | [d1, d2, d3, d4] => { results := [.lit (.bool true)], args := [d1, d2, d3, d4] }
  | _ => none }
def frameBroaderRow : OpenClaim := { program := "ytnejmahckmhflaagreatdoor", sum := "0343e79a8b7c5f78000d977b1aa8cb23f03b56ef56a59ebcc0f58833401e3ee8", func := "ribband/ribbandlaw03.FrameBroader", spec := "frameBroader", inPlace := ["(*sync.WaitGroup).Add", "internal/race.ReleaseMerge", "internal/race.Disable", "internal/race.Enable", "internal/synctest.IsInBubble", "internal/synctest.Associate[sync.WaitGroup]", "sync.fatal", "sync/atomic.OrUint64", "sync/atomic.AddUint64", "internal/race.Read", "sync/atomic.LoadUint64", "sync/atomic.StoreUint64", "internal/synctest.Disassociate[sync.WaitGroup]", "sync.runtime_Semrelease", "(*sync.WaitGroup).Done", "(*internal/sync.Mutex).Lock", "sync/atomic.CompareAndSwapInt32", "internal/race.Acquire", "(*internal/sync.Mutex).lockSlow", "internal/sync.runtime_canSpin", "internal/sync.runtime_doSpin", "internal/sync.throw", "internal/sync.runtime_nanotime", "internal/sync.runtime_SemacquireMutex", "sync/atomic.AddInt32", "(*internal/sync.Mutex).Unlock", "(*internal/sync.Mutex).unlockSlow", "internal/sync.fatal", "internal/sync.runtime_Semrelease", "(*sync.WaitGroup).Wait", "internal/synctest.IsAssociated[sync.WaitGroup]", "sync/atomic.CompareAndSwapUint64", "internal/race.Write", "sync.runtime_SemacquireWaitGroup"], unfollowed := true, recurses := true, named := ["ribband/frame.checks"], plainKeys := false, leaving := true, apart := false, calm := true, outside := [.timePasses], laid := [("ribband/frame.checks", laid_ribband_frame_checks)] }
def FrameBroaderSaid : Prop := frameBroaderRow.holds Tryz.pinned (OpenSpec.ofChange frameBroaderSpec)

/-- ITS FALSE NEIGHBOUR: 'it returns false'. Refute it at one input. -/
def frameBroaderWrong : ChangeSpec := { name := "frameBroader", fn := fun _ => fun
  | [d1, d2, d3, d4] => { results := [.lit (.bool false)], args := [d1, d2, d3, d4] }
  | _ => none }
def FrameBroaderWrongFalsely : Prop := frameBroaderRow.holds Tryz.pinned (OpenSpec.ofChange frameBroaderWrong)

/-- 'ribbandlaw03.FrameClashes': WHATEVER THE INPUT: true; the input reads as it did. -/
def frameClashesSpec : ChangeSpec := { name := "frameClashes", fn := fun _ => fun
  | [d1, d2] => { results := [.lit (.bool true)], args := [d1, d2] }
  | _ => none }
def frameClashesRow : OpenClaim := { program := "ytnejmahckmhflaagreatdoor", sum := "0343e79a8b7c5f78000d977b1aa8cb23f03b56ef56a59ebcc0f58833401e3ee8", func := "ribband/ribbandlaw03.FrameClashes", spec := "frameClashes", inPlace := ["(*sync.WaitGroup).Add", "internal/race.ReleaseMerge", "internal/race.Disable", "internal/race.Enable", "internal/synctest.IsInBubble", "internal/synctest.Associate[sync.WaitGroup]", "sync.fatal", "sync/atomic.OrUint64", "sync/atomic.AddUint64", "internal/race.Read", "sync/atomic.LoadUint64", "sync/atomic.StoreUint64", "internal/synctest.Disassociate[sync.WaitGroup]", "sync.runtime_Semrelease", "(*sync.WaitGroup).Done", "(*internal/sync.Mutex).Lock", "sync/atomic.CompareAndSwapInt32", "internal/race.Acquire", "(*internal/sync.Mutex).lockSlow", "internal/sync.runtime_canSpin", "internal/sync.runtime_doSpin", "internal/sync.throw", "internal/sync.runtime_nanotime", "internal/sync.runtime_SemacquireMutex", "sync/atomic.AddInt32", "(*internal/sync.Mutex).Unlock", "(*internal/sync.Mutex).unlockSlow", "internal/sync.fatal", "internal/sync.runtime_Semrelease", "(*sync.WaitGroup).Wait", "internal/synctest.IsAssociated[sync.WaitGroup]", "sync/atomic.CompareAndSwapUint64", "internal/race.Write", "sync.runtime_SemacquireWaitGroup"], unfollowed := true, recurses := true, named := ["ribband/frame.checks"], plainKeys := false, leaving := true, apart := false, calm := true, outside := [.timePasses], laid := [("ribband/frame.checks", laid_ribband_frame_checks)] }
def FrameClashesSaid : Prop := frameClashesRow.holds Tryz.pinned (OpenSpec.ofChange frameClashesSpec)

/-- ITS FALSE NEIGHBOUR: 'it returns false'. Refute it at one input. -/
def frameClashesWrong : ChangeSpec := { name := "frameClashes", fn := fun _ => fun
  | [d1, d2] => { results := [.lit (.bool false)], args := [d1, d2] }
  | _ => none }
def FrameClashesWrongFalsely : Prop := frameClashesRow.holds Tryz.pinned (OpenSpec.ofChange frameClashesWrong)

/-- 'ribbandlaw03.FrameAsked': WHATEVER THE INPUT: true; the input reads as it did. -/
def frameAskedSpec : ChangeSpec := { name := "frameAsked", fn := fun _ => fun
  | [d1, d2] => { results := [.lit (.bool true)], args := [d1, d2] }
  | _ => none }
def frameAskedRow : OpenClaim := { program := "ytnejmahckmhflaagreatdoor", sum := "0343e79a8b7c5f78000d977b1aa8cb23f03b56ef56a59ebcc0f58833401e3ee8", func := "ribband/ribbandlaw03.FrameAsked", spec := "frameAsked", inPlace := ["(*sync.WaitGroup).Add", "internal/race.ReleaseMerge", "internal/race.Disable", "internal/race.Enable", "internal/synctest.IsInBubble", "internal/synctest.Associate[sync.WaitGroup]", "sync.fatal", "sync/atomic.OrUint64", "sync/atomic.AddUint64", "internal/race.Read", "sync/atomic.LoadUint64", "sync/atomic.StoreUint64", "internal/synctest.Disassociate[sync.WaitGroup]", "sync.runtime_Semrelease", "(*sync.WaitGroup).Done", "(*internal/sync.Mutex).Lock", "sync/atomic.CompareAndSwapInt32", "internal/race.Acquire", "(*internal/sync.Mutex).lockSlow", "internal/sync.runtime_canSpin", "internal/sync.runtime_doSpin", "internal/sync.throw", "internal/sync.runtime_nanotime", "internal/sync.runtime_SemacquireMutex", "sync/atomic.AddInt32", "(*internal/sync.Mutex).Unlock", "(*internal/sync.Mutex).unlockSlow", "internal/sync.fatal", "internal/sync.runtime_Semrelease", "(*sync.WaitGroup).Wait", "internal/synctest.IsAssociated[sync.WaitGroup]", "sync/atomic.CompareAndSwapUint64", "internal/race.Write", "sync.runtime_SemacquireWaitGroup"], unfollowed := true, recurses := true, named := ["ribband/frame.checks"], plainKeys := false, leaving := true, apart := false, calm := true, outside := [.timePasses], laid := [("ribband/frame.checks", laid_ribband_frame_checks)] }
def FrameAskedSaid : Prop := frameAskedRow.holds Tryz.pinned (OpenSpec.ofChange frameAskedSpec)

/-- ITS FALSE NEIGHBOUR: 'it returns false'. Refute it at one input. -/
def frameAskedWrong : ChangeSpec := { name := "frameAsked", fn := fun _ => fun
  | [d1, d2] => { results := [.lit (.bool false)], args := [d1, d2] }
  | _ => none }
def FrameAskedWrongFalsely : Prop := frameAskedRow.holds Tryz.pinned (OpenSpec.ofChange frameAskedWrong)

/-- 'ribbandlaw03.FrameReached': WHATEVER THE INPUT: true; the input reads as it did. -/
def frameReachedSpec : ChangeSpec := { name := "frameReached", fn := fun _ => fun
  | [d1, d2] => { results := [.lit (.bool true)], args := [d1, d2] }
  | _ => none }
def frameReachedRow : OpenClaim := { program := "ytnejmahckmhflaagreatdoor", sum := "0343e79a8b7c5f78000d977b1aa8cb23f03b56ef56a59ebcc0f58833401e3ee8", func := "ribband/ribbandlaw03.FrameReached", spec := "frameReached", inPlace := ["(*sync.WaitGroup).Add", "internal/race.ReleaseMerge", "internal/race.Disable", "internal/race.Enable", "internal/synctest.IsInBubble", "internal/synctest.Associate[sync.WaitGroup]", "sync.fatal", "sync/atomic.OrUint64", "sync/atomic.AddUint64", "internal/race.Read", "sync/atomic.LoadUint64", "sync/atomic.StoreUint64", "internal/synctest.Disassociate[sync.WaitGroup]", "sync.runtime_Semrelease", "(*sync.WaitGroup).Done", "(*internal/sync.Mutex).Lock", "sync/atomic.CompareAndSwapInt32", "internal/race.Acquire", "(*internal/sync.Mutex).lockSlow", "internal/sync.runtime_canSpin", "internal/sync.runtime_doSpin", "internal/sync.throw", "internal/sync.runtime_nanotime", "internal/sync.runtime_SemacquireMutex", "sync/atomic.AddInt32", "(*internal/sync.Mutex).Unlock", "(*internal/sync.Mutex).unlockSlow", "internal/sync.fatal", "internal/sync.runtime_Semrelease", "(*sync.WaitGroup).Wait", "internal/synctest.IsAssociated[sync.WaitGroup]", "sync/atomic.CompareAndSwapUint64", "internal/race.Write", "sync.runtime_SemacquireWaitGroup"], unfollowed := true, recurses := true, named := ["ribband/frame.checks"], plainKeys := false, leaving := true, apart := false, calm := true, outside := [.timePasses], laid := [("ribband/frame.checks", laid_ribband_frame_checks)] }
def FrameReachedSaid : Prop := frameReachedRow.holds Tryz.pinned (OpenSpec.ofChange frameReachedSpec)

/-- ITS FALSE NEIGHBOUR: 'it returns false'. Refute it at one input. -/
def frameReachedWrong : ChangeSpec := { name := "frameReached", fn := fun _ => fun
  | [d1, d2] => { results := [.lit (.bool false)], args := [d1, d2] }
  | _ => none }
def FrameReachedWrongFalsely : Prop := frameReachedRow.holds Tryz.pinned (OpenSpec.ofChange frameReachedWrong)

/-- 'ribbandlaw03.FrameNews': WHATEVER THE INPUT: true; the input reads as it did. -/
def frameNewsSpec : ChangeSpec := { name := "frameNews", fn := fun _ => fun
  | [d1, d2, d3, d4, d5] => { results := [.lit (.bool true)], args := [d1, d2, d3, d4, d5] }
  | _ => none }
def frameNewsRow : OpenClaim := { program := "ytnejmahckmhflaagreatdoor", sum := "0343e79a8b7c5f78000d977b1aa8cb23f03b56ef56a59ebcc0f58833401e3ee8", func := "ribband/ribbandlaw03.FrameNews", spec := "frameNews", inPlace := ["(*sync.WaitGroup).Add", "internal/race.ReleaseMerge", "internal/race.Disable", "internal/race.Enable", "internal/synctest.IsInBubble", "internal/synctest.Associate[sync.WaitGroup]", "sync.fatal", "sync/atomic.OrUint64", "sync/atomic.AddUint64", "internal/race.Read", "sync/atomic.LoadUint64", "sync/atomic.StoreUint64", "internal/synctest.Disassociate[sync.WaitGroup]", "sync.runtime_Semrelease", "(*sync.WaitGroup).Done", "(*internal/sync.Mutex).Lock", "sync/atomic.CompareAndSwapInt32", "internal/race.Acquire", "(*internal/sync.Mutex).lockSlow", "internal/sync.runtime_canSpin", "internal/sync.runtime_doSpin", "internal/sync.throw", "internal/sync.runtime_nanotime", "internal/sync.runtime_SemacquireMutex", "sync/atomic.AddInt32", "(*internal/sync.Mutex).Unlock", "(*internal/sync.Mutex).unlockSlow", "internal/sync.fatal", "internal/sync.runtime_Semrelease", "(*sync.WaitGroup).Wait", "internal/synctest.IsAssociated[sync.WaitGroup]", "sync/atomic.CompareAndSwapUint64", "internal/race.Write", "sync.runtime_SemacquireWaitGroup"], unfollowed := true, recurses := true, named := ["ribband/frame.checks"], plainKeys := false, leaving := true, apart := false, calm := true, outside := [.timePasses], laid := [("ribband/frame.checks", laid_ribband_frame_checks)] }
def FrameNewsSaid : Prop := frameNewsRow.holds Tryz.pinned (OpenSpec.ofChange frameNewsSpec)

/-- ITS FALSE NEIGHBOUR: 'it returns false'. Refute it at one input. -/
def frameNewsWrong : ChangeSpec := { name := "frameNews", fn := fun _ => fun
  | [d1, d2, d3, d4, d5] => { results := [.lit (.bool false)], args := [d1, d2, d3, d4, d5] }
  | _ => none }
def FrameNewsWrongFalsely : Prop := frameNewsRow.holds Tryz.pinned (OpenSpec.ofChange frameNewsWrong)

/-- 'ribbandlaw03.FrameLearnt': WHATEVER THE INPUT: true; the input reads as it did. -/
def frameLearntSpec : ChangeSpec := { name := "frameLearnt", fn := fun _ => fun
  | [d1, d2, d3, d4, d5, d6, d7, d8] => { results := [.lit (.bool true)], args := [d1, d2, d3, d4, d5, d6, d7, d8] }
  | _ => none }
def frameLearntRow : OpenClaim := { program := "ytnejmahckmhflaagreatdoor", sum := "0343e79a8b7c5f78000d977b1aa8cb23f03b56ef56a59ebcc0f58833401e3ee8", func := "ribband/ribbandlaw03.FrameLearnt", spec := "frameLearnt", inPlace := ["(*sync.WaitGroup).Add", "internal/race.ReleaseMerge", "internal/race.Disable", "internal/race.Enable", "internal/synctest.IsInBubble", "internal/synctest.Associate[sync.WaitGroup]", "sync.fatal", "sync/atomic.OrUint64", "sync/atomic.AddUint64", "internal/race.Read", "sync/atomic.LoadUint64", "sync/atomic.StoreUint64", "internal/synctest.Disassociate[sync.WaitGroup]", "sync.runtime_Semrelease", "(*sync.WaitGroup).Done", "(*internal/sync.Mutex).Lock", "sync/atomic.CompareAndSwapInt32", "internal/race.Acquire", "(*internal/sync.Mutex).lockSlow", "internal/sync.runtime_canSpin", "internal/sync.runtime_doSpin", "internal/sync.throw", "internal/sync.runtime_nanotime", "internal/sync.runtime_SemacquireMutex", "sync/atomic.AddInt32", "(*internal/sync.Mutex).Unlock", "(*internal/sync.Mutex).unlockSlow", "internal/sync.fatal", "internal/sync.runtime_Semrelease", "(*sync.WaitGroup).Wait", "internal/synctest.IsAssociated[sync.WaitGroup]", "sync/atomic.CompareAndSwapUint64", "internal/race.Write", "sync.runtime_SemacquireWaitGroup"], unfollowed := true, recurses := true, named := ["ribband/frame.checks"], plainKeys := false, leaving := true, apart := false, calm := true, outside := [.timePasses], laid := [("ribband/frame.checks", laid_ribband_frame_checks)] }
def FrameLearntSaid : Prop := frameLearntRow.holds Tryz.pinned (OpenSpec.ofChange frameLearntSpec)

/-- ITS FALSE NEIGHBOUR: 'it returns false'. Refute it at one input. -/
def frameLearntWrong : ChangeSpec := { name := "frameLearnt", fn := fun _ => fun
  | [d1, d2, d3, d4, d5, d6, d7, d8] => { results := [.lit (.bool false)], args := [d1, d2, d3, d4, d5, d6, d7, d8] }
  | _ => none }
def FrameLearntWrongFalsely : Prop := frameLearntRow.holds Tryz.pinned (OpenSpec.ofChange frameLearntWrong)

end Rows
end Go.Proofs.YtnejmahckmhflaaGreatDoor
