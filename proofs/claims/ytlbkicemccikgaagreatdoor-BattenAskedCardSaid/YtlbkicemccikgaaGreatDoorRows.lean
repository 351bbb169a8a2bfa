/-
  NARROWER THAN 'FOR EVERY INPUT', by the rows' own cells (each row's printed sentence says how): BattenLines: laid · BattenBoats: laid · BattenReal: laid · BattenStraight: laid · BattenNear: laid · BattenPulls: laid · BattenTurned: laid · BattenLifted: laid · BattenStiffer: laid · BattenClashes: laid · BattenAsked: laid · BattenSpliced: laid · BattenAnyOrder: laid · BattenNews: laid · BattenReached: laid · BattenLearnt: laid.
  DERIVED. THE GIVEN ROWS OF THIS SEAT. 16 by the template 'for every input the law returns true; each argument reads behind the call as it read before'; 0 by the template 'total and deterministic' (their statements: YtlbkicemccikgaaGreatDoorTotals.lean).
  GIVEN WITH THE SEED: the statements are not yours to turn. If you find one false, say at which input.
  Laid BY PROGRAM, IN A SANDBOX (cutbox-rows.mjs): the forced cells as the released guide's own fill.sh prints them over the translation 7bc7824d9d7f1ddd… (all of the seat's roots in one cut). By AI agents, Wed Nov 11 2026. No macro, syntax, notation, axiom, sorry.
-/
import Derived.Test.YtlbkicemccikgaaGreatDoorChecked
import GoSem.Claim
import GoSem.ClaimJoined
import GoSem.ClaimMapViews
import Derived.JoinedTies
import Derived.KernelRfl
namespace Go.Proofs.YtlbkicemccikgaaGreatDoor
/- THE CELL 'sum', in the pinned program and in every row, IS THE sha256 OF THE DUMP (.gsa) THAT YtlbkicemccikgaaGreatDoorProg.lean LOADS. Nothing in Lean hashes anything: it is a label: what it is worth is what the hold of that sum in a sandbox is worth. -/
noncomputable def Tryz.pinned : Pinned := { name := "ytlbkicemccikgaagreatdoor", sum := "7bc7824d9d7f1ddd0bf8d835a098ad578b6f82127d294db6494b41d4d1ea03a3", checked := Tryz.checked }
namespace Rows
def none {H : Type} : Left H := { results := [], args := [] }

/- WHAT THE LISTED PACKAGE-LEVEL VARIABLES READ AS WHEN THE CALL BEGINS. Each datum BY PROGRAM (the guide's laid-datum.mjs) off the statement by which the dump's own 'gosem.cut.vars' lays the variable. In a bare row this is a premise. The card (YtlbkicemccikgaaGreatDoorCards.lean) ties it to the program's text. -/
def laid_ribband_batten_checks {H : Type} : DataW H := .iface "func table" (.agg [.iface "func" (.lit (.string [40, 114, 105, 98, 98, 97, 110, 100, 47, 98, 97, 116, 116, 101, 110, 46, 98, 111, 111, 107, 41, 46, 115, 116, 105, 102, 102, 110, 101, 115, 115])), .iface "func" (.lit (.string [40, 114, 105, 98, 98, 97, 110, 100, 47, 98, 97, 116, 116, 101, 110, 46, 98, 111, 111, 107, 41, 46, 109, 97, 114, 107, 115])), .iface "func" (.lit (.string [40, 114, 105, 98, 98, 97, 110, 100, 47, 98, 97, 116, 116, 101, 110, 46, 98, 111, 111, 107, 41, 46, 114, 117, 108, 101, 115]))])

/-- 'ribbandlaw02.BattenLines': WHATEVER THE INPUT: true; the input reads as it did. -/
def battenLinesSpec : ChangeSpec := { name := "battenLines", fn := fun _ => fun
  | [d1, d2] => { results := [.lit (.bool true)], args := [d1, d2] }
  | _ => none }
def battenLinesRow : OpenClaim := { program := "ytlbkicemccikgaagreatdoor", sum := "7bc7824d9d7f1ddd0bf8d835a098ad578b6f82127d294db6494b41d4d1ea03a3", func := "ribband/ribbandlaw02.BattenLines", spec := "battenLines", unfollowed := true, recurses := true, named := ["ribband/batten.checks"], plainKeys := false, leaving := true, apart := false, laid := [("ribband/batten.checks", laid_ribband_batten_checks)] }
def BattenLinesSaid : Prop := battenLinesRow.holds Tryz.pinned (OpenSpec.ofChange battenLinesSpec)

/-- ITS FALSE NEIGHBOUR: 'it returns false'. Refute it at one input. -/
def battenLinesWrong : ChangeSpec := { name := "battenLines", fn := fun _ => fun
  | [d1, d2] => { results := [.lit (.bool false)], args := [d1, d2] }
  | _ => none }
def BattenLinesWrongFalsely : Prop := battenLinesRow.holds Tryz.pinned (OpenSpec.ofChange battenLinesWrong)

/-- 'ribbandlaw02.BattenBoats': WHATEVER THE INPUT: true; the input reads as it did. -/
def battenBoatsSpec : ChangeSpec := { name := "battenBoats", fn := fun _ => fun
  | [d1, d2, d3] => { results := [.lit (.bool true)], args := [d1, d2, d3] }
  | _ => none }
def battenBoatsRow : OpenClaim := { program := "ytlbkicemccikgaagreatdoor", sum := "7bc7824d9d7f1ddd0bf8d835a098ad578b6f82127d294db6494b41d4d1ea03a3", func := "ribband/ribbandlaw02.BattenBoats", spec := "battenBoats", unfollowed := true, recurses := true, named := ["ribband/batten.checks"], plainKeys := false, leaving := true, apart := false, laid := [("ribband/batten.checks", laid_ribband_batten_checks)] }
def BattenBoatsSaid : Prop := battenBoatsRow.holds Tryz.pinned (OpenSpec.ofChange battenBoatsSpec)

/-- ITS FALSE NEIGHBOUR: 'it returns false'. Refute it at one input. -/
def battenBoatsWrong : ChangeSpec := { name := "battenBoats", fn := fun _ => fun
  | [d1, d2, d3] => { results := [.lit (.bool false)], args := [d1, d2, d3] }
  | _ => none }
def BattenBoatsWrongFalsely : Prop := battenBoatsRow.holds Tryz.pinned (OpenSpec.ofChange battenBoatsWrong)

/-- 'ribbandlaw02.BattenReal': WHATEVER THE INPUT: true; the input reads as it did. -/
def battenRealSpec : ChangeSpec := { name := "battenReal", fn := fun _ => fun
  | [d1, d2, d3] => { results := [.lit (.bool true)], args := [d1, d2, d3] }
  | _ => none }
def battenRealRow : OpenClaim := { program := "ytlbkicemccikgaagreatdoor", sum := "7bc7824d9d7f1ddd0bf8d835a098ad578b6f82127d294db6494b41d4d1ea03a3", func := "ribband/ribbandlaw02.BattenReal", spec := "battenReal", unfollowed := true, recurses := true, named := ["ribband/batten.checks"], plainKeys := false, leaving := true, apart := false, laid := [("ribband/batten.checks", laid_ribband_batten_checks)] }
def BattenRealSaid : Prop := battenRealRow.holds Tryz.pinned (OpenSpec.ofChange battenRealSpec)

/-- ITS FALSE NEIGHBOUR: 'it returns false'. Refute it at one input. -/
def battenRealWrong : ChangeSpec := { name := "battenReal", fn := fun _ => fun
  | [d1, d2, d3] => { results := [.lit (.bool false)], args := [d1, d2, d3] }
  | _ => none }
def BattenRealWrongFalsely : Prop := battenRealRow.holds Tryz.pinned (OpenSpec.ofChange battenRealWrong)

/-- 'ribbandlaw02.BattenStraight': WHATEVER THE INPUT: true; the input reads as it did. -/
def battenStraightSpec : ChangeSpec := { name := "battenStraight", fn := fun _ => fun
  | [d1, d2] => { results := [.lit (.bool true)], args := [d1, d2] }
  | _ => none }
def battenStraightRow : OpenClaim := { program := "ytlbkicemccikgaagreatdoor", sum := "7bc7824d9d7f1ddd0bf8d835a098ad578b6f82127d294db6494b41d4d1ea03a3", func := "ribband/ribbandlaw02.BattenStraight", spec := "battenStraight", unfollowed := true, recurses := true, named := ["ribband/batten.checks"], plainKeys := false, leaving := true, apart := false, laid := [("ribband/batten.checks", laid_ribband_batten_checks)] }
def BattenStraightSaid : Prop := battenStraightRow.holds Tryz.pinned (OpenSpec.ofChange battenStraightSpec)

/-- ITS FALSE NEIGHBOUR: 'it returns false'. Refute it at one input. -/
def battenStraightWrong : ChangeSpec := { name := "battenStraight", fn := fun _ => fun
  | [d1, d2] => { results := [.lit (.bool false)], args := [d1, d2] }
  | _ => none }
def BattenStraightWrongFalsely : Prop := battenStraightRow.holds Tryz.pinned (OpenSpec.ofChange battenStraightWrong)

/-- 'ribbandlaw02.BattenNear': WHATEVER THE INPUT: true; the input reads as it did. -/
def battenNearSpec : ChangeSpec := { name := "battenNear", fn := fun _ => fun
  | [d1, d2, d3] => { results := [.lit (.bool true)], args := [d1, d2, d3] }
  | _ => none }
def battenNearRow : OpenClaim := { program := "ytlbkicemccikgaagreatdoor", sum := "7bc7824d9d7f1ddd0bf8d835a098ad578b6f82127d294db6494b41d4d1ea03a3", func := "ribband/ribbandlaw02.BattenNear", spec := "battenNear", unfollowed := true, recurses := true, named := ["ribband/batten.checks"], plainKeys := false, leaving := true, apart := false, laid := [("ribband/batten.checks", laid_ribband_batten_checks)] }
def BattenNearSaid : Prop := battenNearRow.holds Tryz.pinned (OpenSpec.ofChange battenNearSpec)

/-- ITS FALSE NEIGHBOUR: 'it returns false'. Refute it at one input. -/
def battenNearWrong : ChangeSpec := { name := "battenNear", fn := fun _ => fun
  | [d1, d2, d3] => { results := [.lit (.bool false)], args := [d1, d2, d3] }
  | _ => none }
def BattenNearWrongFalsely : Prop := battenNearRow.holds Tryz.pinned (OpenSpec.ofChange battenNearWrong)

/-- 'ribbandlaw02.BattenPulls': WHATEVER THE INPUT: true; the input reads as it did. -/
def battenPullsSpec : ChangeSpec := { name := "battenPulls", fn := fun _ => fun
  | [d1, d2, d3, d4] => { results := [.lit (.bool true)], args := [d1, d2, d3, d4] }
  | _ => none }
def battenPullsRow : OpenClaim := { program := "ytlbkicemccikgaagreatdoor", sum := "7bc7824d9d7f1ddd0bf8d835a098ad578b6f82127d294db6494b41d4d1ea03a3", func := "ribband/ribbandlaw02.BattenPulls", spec := "battenPulls", unfollowed := true, recurses := true, named := ["ribband/batten.checks"], plainKeys := false, leaving := true, apart := false, laid := [("ribband/batten.checks", laid_ribband_batten_checks)] }
def BattenPullsSaid : Prop := battenPullsRow.holds Tryz.pinned (OpenSpec.ofChange battenPullsSpec)

/-- ITS FALSE NEIGHBOUR: 'it returns false'. Refute it at one input. -/
def battenPullsWrong : ChangeSpec := { name := "battenPulls", fn := fun _ => fun
  | [d1, d2, d3, d4] => { results := [.lit (.bool false)], args := [d1, d2, d3, d4] }
  | _ => none }
def BattenPullsWrongFalsely : Prop := battenPullsRow.holds Tryz.pinned (OpenSpec.ofChange battenPullsWrong)

/-- 'ribbandlaw02.BattenTurned': WHATEVER THE INPUT: true; the input reads as it did. -/
def battenTurnedSpec : ChangeSpec := { name := "battenTurned", fn := fun _ => fun
  | [d1, d2, d3] => { results := [.lit (.bool true)], args := [d1, d2, d3] }
  | _ => none }
def battenTurnedRow : OpenClaim := { program := "ytlbkicemccikgaagreatdoor", sum := "7bc7824d9d7f1ddd0bf8d835a098ad578b6f82127d294db6494b41d4d1ea03a3", func := "ribband/ribbandlaw02.BattenTurned", spec := "battenTurned", unfollowed := true, recurses := true, named := ["ribband/batten.checks"], plainKeys := false, leaving := true, apart := false, laid := [("ribband/batten.checks", laid_ribband_batten_checks)] }
def BattenTurnedSaid : Prop := battenTurnedRow.holds Tryz.pinned (OpenSpec.ofChange battenTurnedSpec)

/-- ITS FALSE NEIGHBOUR: 'it returns false'. Refute it at one input. -/
def battenTurnedWrong : ChangeSpec := { name := "battenTurned", fn := fun _ => fun
  | [d1, d2, d3] => { results := [.lit (.bool false)], args := [d1, d2, d3] }
  | _ => none }
def BattenTurnedWrongFalsely : Prop := battenTurnedRow.holds Tryz.pinned (OpenSpec.ofChange battenTurnedWrong)

/-- 'ribbandlaw02.BattenLifted': WHATEVER THE INPUT: true; the input reads as it did. -/
def battenLiftedSpec : ChangeSpec := { name := "battenLifted", fn := fun _ => fun
  | [d1, d2, d3, d4] => { results := [.lit (.bool true)], args := [d1, d2, d3, d4] }
  | _ => none }
def battenLiftedRow : OpenClaim := { program := "ytlbkicemccikgaagreatdoor", sum := "7bc7824d9d7f1ddd0bf8d835a098ad578b6f82127d294db6494b41d4d1ea03a3", func := "ribband/ribbandlaw02.BattenLifted", spec := "battenLifted", unfollowed := true, recurses := true, named := ["ribband/batten.checks"], plainKeys := false, leaving := true, apart := false, laid := [("ribband/batten.checks", laid_ribband_batten_checks)] }
def BattenLiftedSaid : Prop := battenLiftedRow.holds Tryz.pinned (OpenSpec.ofChange battenLiftedSpec)

/-- ITS FALSE NEIGHBOUR: 'it returns false'. Refute it at one input. -/
def battenLiftedWrong : ChangeSpec := { name := "battenLifted", fn := fun _ => fun
  | [d1, d2, d3, d4] => { results := [.lit (.bool false)], args := [d1, d2, d3, d4] }
  | _ => none }
def BattenLiftedWrongFalsely : Prop := battenLiftedRow.holds Tryz.pinned (OpenSpec.ofChange battenLiftedWrong)

/-- 'ribbandlaw02.BattenStiffer': WHATEVER THE INPUT: true; the input reads as it did. -/
def battenStifferSpec : ChangeSpec := { name := "battenStiffer", fn := fun _ => fun
  | [d1, d2, d3, d4, d5, d6] => { results := [.lit (.bool true)], args := [d1, d2, d3, d4, d5, d6] }
  | _ => none }
def battenStifferRow : OpenClaim := { program := "ytlbkicemccikgaagreatdoor", sum := "7bc7824d9d7f1ddd0bf8d835a098ad578b6f82127d294db6494b41d4d1ea03a3", func := "ribband/ribbandlaw02.BattenStiffer", spec := "battenStiffer", unfollowed := true, recurses := true, named := ["ribband/batten.checks"], plainKeys := false, leaving := true, apart := false, laid := [("ribband/batten.checks", laid_ribband_batten_checks)] }
def BattenStifferSaid : Prop := battenStifferRow.holds Tryz.pinned (OpenSpec.ofChange battenStifferSpec)

/-- ITS FALSE NEIGHBOUR: 'it returns false'. Refute it at one input. -/
def battenStifferWrong : ChangeSpec := { name := "battenStiffer", fn := fun _ => fun
  | [d1, d2, d3, d4, d5, d6] => { results := [.lit (.bool false)], args := [d1, d2, d3, d4, d5, d6] }
  | _ => none }
def BattenStifferWrongFalsely : Prop := battenStifferRow.holds Tryz.pinned (OpenSpec.ofChange battenStifferWrong)

/-- 'ribbandlaw02.BattenClashes': WHATEVER THE INPUT: true; the input reads as it did. -/
def battenClashesSpec : ChangeSpec := { name := "battenClashes", fn := fun _ => fun
  | [d1, d2] => { results := [.lit (.bool true)], args := [d1, d2] }
  | _ => none }
def battenClashesRow : OpenClaim := { program := "ytlbkicemccikgaagreatdoor", sum := "7bc7824d9d7f1ddd0bf8d835a098ad578b6f82127d294db6494b41d4d1ea03a3", func := "ribband/ribbandlaw02.BattenClashes", spec := "battenClashes", unfollowed := true, recurses := true, named := ["ribband/batten.checks"], plainKeys := false, leaving := true, apart := false, laid := [("ribband/batten.checks", laid_ribband_batten_checks)] }
def BattenClashesSaid : Prop := battenClashesRow.holds Tryz.pinned (OpenSpec.ofChange battenClashesSpec)

/-- ITS FALSE NEIGHBOUR: 'it returns false'. Refute it at one input. -/
def battenClashesWrong : ChangeSpec := { name := "battenClashes", fn := fun _ => fun
  | [d1, d2] => { results := [.lit (.bool false)], args := [d1, d2] }
  | _ => none }
def BattenClashesWrongFalsely : Prop := battenClashesRow.holds Tryz.pinned (OpenSpec.ofChange battenClashesWrong)

/-- 'ribbandlaw02.BattenAsked': WHATEVER THE INPUT: true; the input reads as it did. -/
def battenAskedSpec : ChangeSpec := { name := "battenAsked", fn := fun _ => fun
  | [d1, d2] => { results := [.lit (.bool true)], args := [d1, d2] }
  | _ => none }
def battenAskedRow : OpenClaim := { program := "ytlbkicemccikgaagreatdoor", sum := "7bc7824d9d7f1ddd0bf8d835a098ad578b6f82127d294db6494b41d4d1ea03a3", func := "ribband/ribbandlaw02.BattenAsked", spec := "battenAsked", unfollowed := true, recurses := true, named := ["ribband/batten.checks"], plainKeys := false, leaving := true, apart := false, laid := [("ribband/batten.checks", laid_ribband_batten_checks)] }
def BattenAskedSaid : Prop := battenAskedRow.holds Tryz.pinned (OpenSpec.ofChange battenAskedSpec)

/-- ITS FALSE NEIGHBOUR: 'it returns false'. Refute it at one input. -/
def battenAskedWrong : ChangeSpec := { name := "battenAsked", fn := fun _ => fun
  | [d1, d2] => { results := [.lit (.bool false)], args := [d1, d2] }
  | _ => none }
def BattenAskedWrongFalsely : Prop := battenAskedRow.holds Tryz.pinned (OpenSpec.ofChange battenAskedWrong)

/-- 'ribbandlaw02.BattenSpliced': WHATEVER THE INPUT: true; the input reads as it did. -/
def battenSplicedSpec : ChangeSpec := { name := "battenSpliced", fn := fun _ => fun
  | [d1, d2, d3, d4, d5] => { results := [.lit (.bool true)], args := [d1, d2, d3, d4, d5] }
  | _ => none }
def battenSplicedRow : OpenClaim := { program := "ytlbkicemccikgaagreatdoor", sum := "7bc7824d9d7f1ddd0bf8d835a098ad578b6f82127d294db6494b41d4d1ea03a3", func := "ribband/ribbandlaw02.BattenSpliced", spec := "battenSpliced", unfollowed := true, recurses := true, named := ["ribband/batten.checks"], plainKeys := false, leaving := true, apart := false, laid := [("ribband/batten.checks", laid_ribband_batten_checks)] }
def BattenSplicedSaid : Prop := battenSplicedRow.holds Tryz.pinned (OpenSpec.ofChange battenSplicedSpec)

/-- ITS FALSE NEIGHBOUR: 'it returns false'. Refute it at one input. -/
def battenSplicedWrong : ChangeSpec := { name := "battenSpliced", fn := fun _ => fun
  | [d1, d2, d3, d4, d5] => { results := [.lit (.bool false)], args := [d1, d2, d3, d4, d5] }
  | _ => none }
def BattenSplicedWrongFalsely : Prop := battenSplicedRow.holds Tryz.pinned (OpenSpec.ofChange battenSplicedWrong)

/-- 'ribbandlaw02.BattenAnyOrder': WHATEVER THE INPUT: true; the input reads as it did. -/
def battenAnyOrderSpec : ChangeSpec := { name := "battenAnyOrder", fn := fun _ => fun
  | [d1, d2, d3] => { results := [.lit (.bool true)], args := [d1, d2, d3] }
  | _ => none }
def battenAnyOrderRow : OpenClaim := { program := "ytlbkicemccikgaagreatdoor", sum := "7bc7824d9d7f1ddd0bf8d835a098ad578b6f82127d294db6494b41d4d1ea03a3", func := "ribband/ribbandlaw02.BattenAnyOrder", spec := "battenAnyOrder", unfollowed := true, recurses := true, named := ["ribband/batten.checks"], plainKeys := false, leaving := true, apart := false, laid := [("ribband/batten.checks", laid_ribband_batten_checks)] }
def BattenAnyOrderSaid : Prop := battenAnyOrderRow.holds Tryz.pinned (OpenSpec.ofChange battenAnyOrderSpec)

/-- ITS FALSE NEIGHBOUR: 'it returns false'. Refute it at one input. -/
def battenAnyOrderWrong : ChangeSpec := { name := "battenAnyOrder", fn := fun _ => fun
  | [d1, d2, d3] => { results := [.lit (.bool false)], args := [d1, d2, d3] }
  | _ => none }
def BattenAnyOrderWrongFalsely : Prop := battenAnyOrderRow.holds Tryz.pinned (OpenSpec.ofChange battenAnyOrderWrong)

/-- 'ribbandlaw02.BattenNews': WHATEVER THE INPUT: true; the input reads as it did. -/
def battenNewsSpec : ChangeSpec := { name := "battenNews", fn := fun _ => fun
  | [d1, d2, d3, d4, d5, d6] => { results := [.lit (.bool true)], args := [d1, d2, d3, d4, d5, d6] }
  | _ => none }
def battenNewsRow : OpenClaim := { program := "ytlbkicemccikgaagreatdoor", sum := "7bc7824d9d7f1ddd0bf8d835a098ad578b6f82127d294db6494b41d4d1ea03a3", func := "ribband/ribbandlaw02.BattenNews", spec := "battenNews", unfollowed := true, recurses := true, named := ["ribband/batten.checks"], plainKeys := false, leaving := true, apart := false, laid := [("ribband/batten.checks", laid_ribband_batten_checks)] }
def BattenNewsSaid : Prop := battenNewsRow.holds Tryz.pinned (OpenSpec.ofChange battenNewsSpec)

/-- ITS FALSE NEIGHBOUR: 'it returns false'. Refute it at one input. -/
def battenNewsWrong : ChangeSpec := { name := "battenNews", fn := fun _ => fun
  | [d1, d2, d3, d4, d5, d6] => { results := [.lit (.bool false)], args := [d1, d2, d3, d4, d5, d6] }
  | _ => none }
def BattenNewsWrongFalsely : Prop := battenNewsRow.holds Tryz.pinned (OpenSpec.ofChange battenNewsWrong)

/-- 'ribbandlaw02.BattenReached': WHATEVER THE INPUT: true; the input reads as it did. -/
def battenReachedSpec : ChangeSpec := { name := "battenReached", fn := fun _ => fun
  | [d1, d2, d3] => { results := [.lit (.bool true)], args := [d1, d2, d3] }
  | _ => none }
def battenReachedRow : OpenClaim := { program := "ytlbkicemccikgaagreatdoor", sum := "7bc7824d9d7f1ddd0bf8d835a098ad578b6f82127d294db6494b41d4d1ea03a3", func := "ribband/ribbandlaw02.BattenReached", spec := "battenReached", unfollowed := true, recurses := true, named := ["ribband/batten.checks"], plainKeys := false, leaving := true, apart := false, laid := [("ribband/batten.checks", laid_ribband_batten_checks)] }
def BattenReachedSaid : Prop := battenReachedRow.holds Tryz.pinned (OpenSpec.ofChange battenReachedSpec)

/-- ITS FALSE NEIGHBOUR: 'it returns false'. Refute it at one input. -/
def battenReachedWrong : ChangeSpec := { name := "battenReached", fn := fun _ => fun
  | [d1, d2, d3] => { results := [.lit (.bool false)], args := [d1, d2, d3] }
  | _ => none }
def BattenReachedWrongFalsely : Prop := battenReachedRow.holds Tryz.pinned (OpenSpec.ofChange battenReachedWrong)

/-- 'ribbandlaw02.BattenLearnt': WHATEVER THE INPUT: true; the input reads as it did. -/
def battenLearntSpec : ChangeSpec := { name := "battenLearnt", fn := fun _ => fun
  | [d1, d2, d3, d4, d5] => { results := [.lit (.bool true)], args := [d1, d2, d3, d4, d5] }
  | _ => none }
def battenLearntRow : OpenClaim := { program := "ytlbkicemccikgaagreatdoor", sum := "7bc7824d9d7f1ddd0bf8d835a098ad578b6f82127d294db6494b41d4d1ea03a3", func := "ribband/ribbandlaw02.BattenLearnt", spec := "battenLearnt", unfollowed := true, recurses := true, named := ["ribband/batten.checks"], plainKeys := false, leaving := true, apart := false, laid := [("ribband/batten.checks", laid_ribband_batten_checks)] }
def BattenLearntSaid : Prop := battenLearntRow.holds Tryz.pinned (OpenSpec.ofChange battenLearntSpec)

/-- ITS FALSE NEIGHBOUR: 'it returns false'. Refute it at one input. -/
def battenLearntWrong : ChangeSpec := { name := "battenLearnt", fn := fun _ => fun
  | [d1, d2, d3, d4, d5] => { results := [.lit (.bool false)], args := [d1, d2, d3, d4, d5] }
  | _ => none }
def BattenLearntWrongFalsely : Prop := battenLearntRow.holds Tryz.pinned (OpenSpec.ofChange battenLearntWrong)

/- THE SECOND FORM. 'bulk': how many values and letters a reading holds, each counted each time it is reached (what is shared counts as often as it is met; a slice's spare places count too). A statement '..UptoSaid' is the law's where the arguments, and the package variables that the reading takes, are together of bulk at most 1048576: NARROWER than '..Said'. Prove '..Said' where nothing that the law and all that it calls make is longer than what came in: it says more and counts as full. Else prove '..UptoSaid'. A law counts once. -/
mutual
def uptoBulk {H : Type} : DataW H → Nat
  | .lit (.string bytes) => bytes.length + 1
  | .lit _ => 1
  | .nil => 1
  | .ptr d => uptoBulk d + 1
  | .slice elems spare => uptoBulkAll elems + uptoBulkAll spare + 1
  | .agg parts => uptoBulkAll parts + 1
  | .iface _ d => uptoBulk d + 1
  | .map entries => uptoBulkEntries entries + 1
  | .held _ => 1
def uptoBulkAll {H : Type} : List (DataW H) → Nat
  | [] => 0
  | d :: r => uptoBulk d + uptoBulkAll r
def uptoBulkEntries {H : Type} : List (Lit × DataW H) → Nat
  | [] => 0
  | x :: r => uptoBulkEntry x + uptoBulkEntries r
def uptoBulkEntry {H : Type} : Lit × DataW H → Nat
  | (.string bytes, d) => bytes.length + uptoBulk d + 1
  | (_, d) => uptoBulk d + 1
 end
def uptoSmall : (H : Type) → List (DataW H) → Bool := fun _ ds => decide (uptoBulkAll ds ≤ 1048576)
def OpenSpec.upto (s : _root_.Go.ChangeSpec) : _root_.Go.OpenSpec := { _root_.Go.OpenSpec.ofChange s with cond := some uptoSmall }

/-- 'ribbandlaw02.BattenLines', WHERE WHAT IT READS IS OF BULK AT MOST 1048576: true; the input reads as it did. -/
def battenLinesUptoRow : OpenClaim := { program := "ytlbkicemccikgaagreatdoor", sum := "7bc7824d9d7f1ddd0bf8d835a098ad578b6f82127d294db6494b41d4d1ea03a3", func := "ribband/ribbandlaw02.BattenLines", spec := "battenLines", unfollowed := true, recurses := true, named := ["ribband/batten.checks"], plainKeys := false, leaving := true, apart := false, laid := [("ribband/batten.checks", laid_ribband_batten_checks)], narrowed := true }
def BattenLinesUptoSaid : Prop := battenLinesUptoRow.holds Tryz.pinned (OpenSpec.upto battenLinesSpec)

/-- 'ribbandlaw02.BattenBoats', WHERE WHAT IT READS IS OF BULK AT MOST 1048576: true; the input reads as it did. -/
def battenBoatsUptoRow : OpenClaim := { program := "ytlbkicemccikgaagreatdoor", sum := "7bc7824d9d7f1ddd0bf8d835a098ad578b6f82127d294db6494b41d4d1ea03a3", func := "ribband/ribbandlaw02.BattenBoats", spec := "battenBoats", unfollowed := true, recurses := true, named := ["ribband/batten.checks"], plainKeys := false, leaving := true, apart := false, laid := [("ribband/batten.checks", laid_ribband_batten_checks)], narrowed := true }
def BattenBoatsUptoSaid : Prop := battenBoatsUptoRow.holds Tryz.pinned (OpenSpec.upto battenBoatsSpec)

/-- 'ribbandlaw02.BattenReal', WHERE WHAT IT READS IS OF BULK AT MOST 1048576: true; the input reads as it did. -/
def battenRealUptoRow : OpenClaim := { program := "ytlbkicemccikgaagreatdoor", sum := "7bc7824d9d7f1ddd0bf8d835a098ad578b6f82127d294db6494b41d4d1ea03a3", func := "ribband/ribbandlaw02.BattenReal", spec := "battenReal", unfollowed := true, recurses := true, named := ["ribband/batten.checks"], plainKeys := false, leaving := true, apart := false, laid := [("ribband/batten.checks", laid_ribband_batten_checks)], narrowed := true }
def BattenRealUptoSaid : Prop := battenRealUptoRow.holds Tryz.pinned (OpenSpec.upto battenRealSpec)

/-- 'ribbandlaw02.BattenStraight', WHERE WHAT IT READS IS OF BULK AT MOST 1048576: true; the input reads as it did. -/
def battenStraightUptoRow : OpenClaim := { program := "ytlbkicemccikgaagreatdoor", sum := "7bc7824d9d7f1ddd0bf8d835a098ad578b6f82127d294db6494b41d4d1ea03a3", func := "ribband/ribbandlaw02.BattenStraight", spec := "battenStraight", unfollowed := true, recurses := true, named := ["ribband/batten.checks"], plainKeys := false, leaving := true, apart := false, laid := [("ribband/batten.checks", laid_ribband_batten_checks)], narrowed := true }
def BattenStraightUptoSaid : Prop := battenStraightUptoRow.holds Tryz.pinned (OpenSpec.upto battenStraightSpec)

/-- 'ribbandlaw02.BattenNear', WHERE WHAT IT READS IS OF BULK AT MOST 1048576: true; the input reads as it did. -/
def battenNearUptoRow : OpenClaim := { program := "ytlbkicemccikgaagreatdoor", sum := "7bc7824d9d7f1ddd0bf8d835a098ad578b6f82127d294db6494b41d4d1ea03a3", func := "ribband/ribbandlaw02.BattenNear", spec := "battenNear", unfollowed := true, recurses := true, named := ["ribband/batten.checks"], plainKeys := false, leaving := true, apart := false, laid := [("ribband/batten.checks", laid_ribband_batten_checks)], narrowed := true }
def BattenNearUptoSaid : Prop := battenNearUptoRow.holds Tryz.pinned (OpenSpec.upto battenNearSpec)

/-- 'ribbandlaw02.BattenPulls', WHERE WHAT IT READS IS OF BULK AT MOST 1048576: true; the input reads as it did. -/
def battenPullsUptoRow : OpenClaim := { program := "ytlbkicemccikgaagreatdoor", sum := "7bc7824d9d7f1ddd0bf8d835a098ad578b6f82127d294db6494b41d4d1ea03a3", func := "ribband/ribbandlaw02.BattenPulls", spec := "battenPulls", unfollowed := true, recurses := true, named := ["ribband/batten.checks"], plainKeys := false, leaving := true, apart := false, laid := [("ribband/batten.checks", laid_ribband_batten_checks)], narrowed := true }
def BattenPullsUptoSaid : Prop := battenPullsUptoRow.holds Tryz.pinned (OpenSpec.upto battenPullsSpec)

/-- 'ribbandlaw02.BattenTurned', WHERE WHAT IT READS IS OF BULK AT MOST 1048576: true; the input reads as it did. -/
def battenTurnedUptoRow : OpenClaim := { program := "ytlbkicemccikgaagreatdoor", sum := "7bc7824d9d7f1ddd0bf8d835a098ad578b6f82127d294db6494b41d4d1ea03a3", func := "ribband/ribbandlaw02.BattenTurned", spec := "battenTurned", unfollowed := true, recurses := true, named := ["ribband/batten.checks"], plainKeys := false, leaving := true, apart := false, laid := [("ribband/batten.checks", laid_ribband_batten_checks)], narrowed := true }
def BattenTurnedUptoSaid : Prop := battenTurnedUptoRow.holds Tryz.pinned (OpenSpec.upto battenTurnedSpec)

/-- 'ribbandlaw02.BattenLifted', WHERE WHAT IT READS IS OF BULK AT MOST 1048576: true; the input reads as it did. -/
def battenLiftedUptoRow : OpenClaim := { program := "ytlbkicemccikgaagreatdoor", sum := "7bc7824d9d7f1ddd0bf8d835a098ad578b6f82127d294db6494b41d4d1ea03a3", func := "ribband/ribbandlaw02.BattenLifted", spec := "battenLifted", unfollowed := true, recurses := true, named := ["ribband/batten.checks"], plainKeys := false, leaving := true, apart := false, laid := [("ribband/batten.checks", laid_ribband_batten_checks)], narrowed := true }
def BattenLiftedUptoSaid : Prop := battenLiftedUptoRow.holds Tryz.pinned (OpenSpec.upto battenLiftedSpec)

/-- 'ribbandlaw02.BattenStiffer', WHERE WHAT IT READS IS OF BULK AT MOST 1048576: true; the input reads as it did. -/
def battenStifferUptoRow : OpenClaim := { program := "ytlbkicemccikgaagreatdoor", sum := "7bc7824d9d7f1ddd0bf8d835a098ad578b6f82127d294db6494b41d4d1ea03a3", func := "ribband/ribbandlaw02.BattenStiffer", spec := "battenStiffer", unfollowed := true, recurses := true, named := ["ribband/batten.checks"], plainKeys := false, leaving := true, apart := false, laid := [("ribband/batten.checks", laid_ribband_batten_checks)], narrowed := true }
def BattenStifferUptoSaid : Prop := battenStifferUptoRow.holds Tryz.pinned (OpenSpec.upto battenStifferSpec)

/-- 'ribbandlaw02.BattenClashes', WHERE WHAT IT READS IS OF BULK AT MOST 1048576: true; the input reads as it did. -/
def battenClashesUptoRow : OpenClaim := { program := "ytlbkicemccikgaagreatdoor", sum := "7bc7824d9d7f1ddd0bf8d835a098ad578b6f82127d294db6494b41d4d1ea03a3", func := "ribband/ribbandlaw02.BattenClashes", spec := "battenClashes", unfollowed := true, recurses := true, named := ["ribband/batten.checks"], plainKeys := false, leaving := true, apart := false, laid := [("ribband/batten.checks", laid_ribband_batten_checks)], narrowed := true }
def BattenClashesUptoSaid : Prop := battenClashesUptoRow.holds Tryz.pinned (OpenSpec.upto battenClashesSpec)

/-- 'ribbandlaw02.BattenAsked', WHERE WHAT IT READS IS OF BULK AT MOST 1048576: true; the input reads as it did. -/
def battenAskedUptoRow : OpenClaim := { program := "ytlbkicemccikgaagreatdoor", sum := "7bc7824d9d7f1ddd0bf8d835a098ad578b6f82127d294db6494b41d4d1ea03a3", func := "ribband/ribbandlaw02.BattenAsked", spec := "battenAsked", unfollowed := true, recurses := true, named := ["ribband/batten.checks"], plainKeys := false, leaving := true, apart := false, laid := [("ribband/batten.checks", laid_ribband_batten_checks)], narrowed := true }
def BattenAskedUptoSaid : Prop := battenAskedUptoRow.holds Tryz.pinned (OpenSpec.upto battenAskedSpec)

/-- 'ribbandlaw02.BattenSpliced', WHERE WHAT IT READS IS OF BULK AT MOST 1048576: true; the input reads as it did. -/
def battenSplicedUptoRow : OpenClaim := { program := "ytlbkicemccikgaagreatdoor", sum := "7bc7824d9d7f1ddd0bf8d835a098ad578b6f82127d294db6494b41d4d1ea03a3", func := "ribband/ribbandlaw02.BattenSpliced", spec := "battenSpliced", unfollowed := true, recurses := true, named := ["ribband/batten.checks"], plainKeys := false, leaving := true, apart := false, laid := [("ribband/batten.checks", laid_ribband_batten_checks)], narrowed := true }
def BattenSplicedUptoSaid : Prop := battenSplicedUptoRow.holds Tryz.pinned (OpenSpec.upto battenSplicedSpec)

/-- 'ribbandlaw02.BattenAnyOrder', WHERE WHAT IT READS IS OF BULK AT MOST 1048576: true; the input reads as it did. -/
def battenAnyOrderUptoRow : OpenClaim := { program := "ytlbkicemccikgaagreatdoor", sum := "7bc7824d9d7f1ddd0bf8d835a098ad578b6f82127d294db6494b41d4d1ea03a3", func := "ribband/ribbandlaw02.BattenAnyOrder", spec := "battenAnyOrder", unfollowed := true, recurses := true, named := ["ribband/batten.checks"], plainKeys := false, leaving := true, apart := false, laid := [("ribband/batten.checks", laid_ribband_batten_checks)], narrowed := true }
def BattenAnyOrderUptoSaid : Prop := battenAnyOrderUptoRow.holds Tryz.pinned (OpenSpec.upto battenAnyOrderSpec)

/-- 'ribbandlaw02.BattenNews', WHERE WHAT IT READS IS OF BULK AT MOST 1048576: true; the input reads as it did. -/
def battenNewsUptoRow : OpenClaim := { program := "ytlbkicemccikgaagreatdoor", sum := "7bc7824d9d7f1ddd0bf8d835a098ad578b6f82127d294db6494b41d4d1ea03a3", func := "ribband/ribbandlaw02.BattenNews", spec := "battenNews", unfollowed := true, recurses := true, named := ["ribband/batten.checks"], plainKeys := false, leaving := true, apart := false, laid := [("ribband/batten.checks", laid_ribband_batten_checks)], narrowed := true }
def BattenNewsUptoSaid : Prop := battenNewsUptoRow.holds Tryz.pinned (OpenSpec.upto battenNewsSpec)

/-- 'ribbandlaw02.BattenReached', WHERE WHAT IT READS IS OF BULK AT MOST 1048576: true; the input reads as it did. -/
def battenReachedUptoRow : OpenClaim := { program := "ytlbkicemccikgaagreatdoor", sum := "7bc7824d9d7f1ddd0bf8d835a098ad578b6f82127d294db6494b41d4d1ea03a3", func := "ribband/ribbandlaw02.BattenReached", spec := "battenReached", unfollowed := true, recurses := true, named := ["ribband/batten.checks"], plainKeys := false, leaving := true, apart := false, laid := [("ribband/batten.checks", laid_ribband_batten_checks)], narrowed := true }
def BattenReachedUptoSaid : Prop := battenReachedUptoRow.holds Tryz.pinned (OpenSpec.upto battenReachedSpec)

/-- 'ribbandlaw02.BattenLearnt', WHERE WHAT IT READS IS OF BULK AT MOST 1048576: true; the input reads as it did. -/
def battenLearntUptoRow : OpenClaim := { program := "ytlbkicemccikgaagreatdoor", sum := "7bc7824d9d7f1ddd0bf8d835a098ad578b6f82127d294db6494b41d4d1ea03a3", func := "ribband/ribbandlaw02.BattenLearnt", spec := "battenLearnt", unfollowed := true, recurses := true, named := ["ribband/batten.checks"], plainKeys := false, leaving := true, apart := false, laid := [("ribband/batten.checks", laid_ribband_batten_checks)], narrowed := true }
def BattenLearntUptoSaid : Prop := battenLearntUptoRow.holds Tryz.pinned (OpenSpec.upto battenLearntSpec)

end Rows
end Go.Proofs.YtlbkicemccikgaaGreatDoor
