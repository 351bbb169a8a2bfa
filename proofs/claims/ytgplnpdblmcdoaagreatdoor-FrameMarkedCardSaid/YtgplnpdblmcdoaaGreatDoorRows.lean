/-
  NARROWER THAN 'FOR EVERY INPUT', by the rows' own cells (each row's printed sentence says how): FrameBent: calm, laid · FrameMarked: calm, laid.
  DERIVED. THE GIVEN ROWS OF THIS SEAT. 2 by the template 'for every input the law returns true; each argument reads behind the call as it read before'; 0 by the template 'total and deterministic' (their statements: YtgplnpdblmcdoaaGreatDoorTotals.lean).
  GIVEN WITH THE SEED: the statements are not yours to turn. If you find one false, say at which input.
  Laid BY PROGRAM, IN A SANDBOX (cutbox-rows.mjs): the forced cells as the released guide's own fill.sh prints them over the translation 1d9e512cd7a19860… (all of the seat's roots in one cut). By AI agents, Wed Nov 11 2026. No macro, syntax, notation, axiom, sorry.
-/
import Derived.Test.YtgplnpdblmcdoaaGreatDoorChecked
import GoSem.Claim
import GoSem.ClaimJoined
import GoSem.ClaimMapViews
import Derived.JoinedTies
import Derived.KernelRfl
namespace Go.Proofs.YtgplnpdblmcdoaaGreatDoor
/- THE CELL 'sum', in the pinned program and in every row, IS THE sha256 OF THE DUMP (.gsa) THAT YtgplnpdblmcdoaaGreatDoorProg.lean LOADS. Nothing in Lean hashes anything: it is a label: what it is worth is what the hold of that sum in a sandbox is worth. -/
noncomputable def Tryz.pinned : Pinned := { name := "ytgplnpdblmcdoaagreatdoor", sum := "1d9e512cd7a19860c4b774a6411b53d88d3df20859bddbf2dab7707c49d8837f", checked := Tryz.checked }
namespace Rows
def none {H : Type} : Left H := { results := [], args := [] }

/- WHAT THE LISTED PACKAGE-LEVEL VARIABLES READ AS WHEN THE CALL BEGINS. Each datum BY PROGRAM (the guide's laid-datum.mjs) off the statement by which the dump's own 'gosem.cut.vars' lays the variable. In a bare row this is a premise. The card (YtgplnpdblmcdoaaGreatDoorCards.lean) ties it to the program's text. -/
def laid_ribband_batten_checks {H : Type} : DataW H := .iface "func table" (.agg [.iface "func" (.lit (.string [40, 114, 105, 98, 98, 97, 110, 100, 47, 98, 97, 116, 116, 101, 110, 46, 98, 111, 111, 107, 41, 46, 115, 116, 105, 102, 102, 110, 101, 115, 115])), .iface "func" (.lit (.string [40, 114, 105, 98, 98, 97, 110, 100, 47, 98, 97, 116, 116, 101, 110, 46, 98, 111, 111, 107, 41, 46, 109, 97, 114, 107, 115])), .iface "func" (.lit (.string [40, 114, 105, 98, 98, 97, 110, 100, 47, 98, 97, 116, 116, 101, 110, 46, 98, 111, 111, 107, 41, 46, 114, 117, 108, 101, 115]))])
def laid_ribband_frame_checks {H : Type} : DataW H := .iface "func table" (.agg [.iface "func" (.lit (.string [40, 114, 105, 98, 98, 97, 110, 100, 47, 102, 114, 97, 109, 101, 46, 98, 111, 111, 107, 41, 46, 112, 111, 105, 110, 116, 115])), .iface "func" (.lit (.string [40, 114, 105, 98, 98, 97, 110, 100, 47, 102, 114, 97, 109, 101, 46, 98, 111, 111, 107, 41, 46, 116, 97, 112, 101, 115])), .iface "func" (.lit (.string [40, 114, 105, 98, 98, 97, 110, 100, 47, 102, 114, 97, 109, 101, 46, 98, 111, 111, 107, 41, 46, 115, 116, 105, 99, 107, 115]))])

/-- 'ribbandlaw03.FrameBent': WHATEVER THE INPUT: true; the input reads as it did. -/
def frameBentSpec : ChangeSpec := { name := "frameBent", fn := fun _ => fun
  | [d1, d2] => { results := [.lit (.bool true)], args := [d1, d2] }
  | _ => none }
def frameBentRow : OpenClaim := { program := "ytgplnpdblmcdoaagreatdoor", sum := "1d9e512cd7a19860c4b774a6411b53d88d3df20859bddbf2dab7707c49d8837f", func := "ribband/ribbandlaw03.FrameBent", spec := "frameBent", inPlace := ["(*sync.WaitGroup).Add", "internal/race.ReleaseMerge", "internal/race.Disable", "internal/race.Enable", "internal/synctest.IsInBubble", "internal/synctest.Associate[sync.WaitGroup]", "sync.fatal", "sync/atomic.OrUint64", "sync/atomic.AddUint64", "internal/race.Read", "sync/atomic.LoadUint64", "sync/atomic.StoreUint64", "internal/synctest.Disassociate[sync.WaitGroup]", "sync.runtime_Semrelease", "(*sync.WaitGroup).Done", "(*internal/sync.Mutex).Lock", "sync/atomic.CompareAndSwapInt32", "internal/race.Acquire", "(*internal/sync.Mutex).lockSlow", "internal/sync.runtime_canSpin", "internal/sync.runtime_doSpin", "internal/sync.throw", "internal/sync.runtime_nanotime", "internal/sync.runtime_SemacquireMutex", "sync/atomic.AddInt32", "(*internal/sync.Mutex).Unlock", "(*internal/sync.Mutex).unlockSlow", "internal/sync.fatal", "internal/sync.runtime_Semrelease", "(*sync.WaitGroup).Wait", "internal/synctest.IsAssociated[sync.WaitGroup]", "sync/atomic.CompareAndSwapUint64", "internal/race.Write", "sync.runtime_SemacquireWaitGroup"], unfollowed := true, recurses := true, named := ["ribband/frame.checks", "ribband/batten.checks"], plainKeys := false, leaving := true, apart := false, calm := true, outside := [.timePasses], laid := [("ribband/batten.checks", laid_ribband_batten_checks), ("ribband/frame.checks", laid_ribband_frame_checks)] }
def FrameBentSaid : Prop := frameBentRow.holds Tryz.pinned (OpenSpec.ofChange frameBentSpec)

/-- ITS FALSE NEIGHBOUR: 'it returns false'. Refute it at one input. -/
def frameBentWrong : ChangeSpec := { name := "frameBent", fn := fun _ => fun
  | [d1, d2] => { results := [.lit (.bool false)], args := [d1, d2] }
  | _ => none }
def FrameBentWrongFalsely : Prop := frameBentRow.holds Tryz.pinned (OpenSpec.ofChange frameBentWrong)

/-- 'ribbandlaw03.FrameMarked': WHATEVER THE INPUT: true; the input reads as it did. -/
def frameMarkedSpec : ChangeSpec := { name := "frameMarked", fn := fun _ => fun
  | [d1, d2, d3, d4, d5] => { results := [.lit (.bool true)], args := [d1, d2, d3, d4, d5] }
  | _ => none }
def frameMarkedRow : OpenClaim := { program := "ytgplnpdblmcdoaagreatdoor", sum := "1d9e512cd7a19860c4b774a6411b53d88d3df20859bddbf2dab7707c49d8837f", func := "ribband/ribbandlaw03.FrameMarked", spec := "frameMarked", inPlace := ["(*sync.WaitGroup).Add", "internal/race.ReleaseMerge", "internal/race.Disable", "internal/race.Enable", "internal/synctest.IsInBubble", "internal/synctest.Associate[sync.WaitGroup]", "sync.fatal", "sync/atomic.OrUint64", "sync/atomic.AddUint64", "internal/race.Read", "sync/atomic.LoadUint64", "sync/atomic.StoreUint64", "internal/synctest.Disassociate[sync.WaitGroup]", "sync.runtime_Semrelease", "(*sync.WaitGroup).Done", "(*internal/sync.Mutex).Lock", "sync/atomic.CompareAndSwapInt32", "internal/race.Acquire", "(*internal/sync.Mutex).lockSlow", "internal/sync.runtime_canSpin", "internal/sync.runtime_doSpin", "internal/sync.throw", "internal/sync.runtime_nanotime", "internal/sync.runtime_SemacquireMutex", "sync/atomic.AddInt32", "(*internal/sync.Mutex).Unlock", "(*internal/sync.Mutex).unlockSlow", "internal/sync.fatal", "internal/sync.runtime_Semrelease", "(*sync.WaitGroup).Wait", "internal/synctest.IsAssociated[sync.WaitGroup]", "sync/atomic.CompareAndSwapUint64", "internal/race.Write", "sync.runtime_SemacquireWaitGroup"], unfollowed := true, recurses := true, named := ["ribband/frame.checks", "ribband/batten.checks"], plainKeys := false, leaving := true, apart := false, calm := true, outside := [.timePasses], laid := [("ribband/batten.checks", laid_ribband_batten_checks), ("ribband/frame.checks", laid_ribband_frame_checks)] }
def FrameMarkedSaid : Prop := frameMarkedRow.holds Tryz.pinned (OpenSpec.ofChange frameMarkedSpec)

/-- ITS FALSE NEIGHBOUR: 'it returns false'. Refute it at one input. -/
def frameMarkedWrong : ChangeSpec := { name := "frameMarked", fn := fun _ => fun
  | [d1, d2, d3, d4, d5] => { results := [.lit (.bool false)], args := [d1, d2, d3, d4, d5] }
  | _ => none }
def FrameMarkedWrongFalsely : Prop := frameMarkedRow.holds Tryz.pinned (OpenSpec.ofChange frameMarkedWrong)

end Rows
end Go.Proofs.YtgplnpdblmcdoaaGreatDoor
