/-
  No cell of these rows narrows 'for every input' (looked for: loops, veiled, ifaces, maps, wideKeys, modest, calm, conditions, laid).
  DERIVED. THE GIVEN ROWS OF THIS SEAT. 23 by the template 'for every input the law returns true; each argument reads behind the call as it read before'; 0 by the template 'total and deterministic' (their statements: YtjncefleglnnjaaGreatTotals.lean).
  GIVEN WITH THE SEED: the statements are not yours to turn. If you find one false, say at which input.
  Laid BY PROGRAM, IN A SANDBOX (cutbox-rows.mjs): the forced cells as the released guide's own fill.sh prints them over the translation 63881463b2a1befd… (all of the seat's roots in one cut). By AI agents, Wed Nov 11 2026. No macro, syntax, notation, axiom, sorry.
-/
import Derived.Test.YtjncefleglnnjaaGreatChecked
import GoSem.Claim
import GoSem.ClaimJoined
import GoSem.ClaimMapViews
import Derived.JoinedTies
import Derived.KernelRfl
namespace Go.Proofs.YtjncefleglnnjaaGreat
/- THE CELL 'sum', in the pinned program and in every row, IS THE sha256 OF THE DUMP (.gsa) THAT YtjncefleglnnjaaGreatProg.lean LOADS. Nothing in Lean hashes anything: it is a label: what it is worth is what the hold of that sum in a sandbox is worth. -/
noncomputable def Tryz.pinned : Pinned := { name := "ytjncefleglnnjaagreat", sum := "63881463b2a1befd655fb51e20b0aebb920b1bc3aeafb4379a3b3169281454a8", checked := Tryz.checked }
namespace Rows
def none {H : Type} : Left H := { results := [], args := [] }

/-- 'laws.FnCore': WHATEVER THE INPUT: true; the input reads as it did. -/
def fnCoreSpec : ChangeSpec := { name := "fnCore", fn := fun _ => fun
  | [d] => { results := [.lit (.bool true)], args := [d] }
  | _ => none }
def fnCoreRow : OpenClaim := { program := "ytjncefleglnnjaagreat", sum := "63881463b2a1befd655fb51e20b0aebb920b1bc3aeafb4379a3b3169281454a8", func := "loop.example/g00806/laws.FnCore", spec := "fnCore", unfollowed := true, recurses := true, apart := false }
def FnCoreSaid : Prop := fnCoreRow.holds Tryz.pinned (OpenSpec.ofChange fnCoreSpec)

/-- ITS FALSE NEIGHBOUR: 'it returns false'. Refute it at one input. -/
def fnCoreWrong : ChangeSpec := { name := "fnCore", fn := fun _ => fun
  | [d] => { results := [.lit (.bool false)], args := [d] }
  | _ => none }
def FnCoreWrongFalsely : Prop := fnCoreRow.holds Tryz.pinned (OpenSpec.ofChange fnCoreWrong)

/-- 'laws.FnWork': WHATEVER THE INPUT: true; the input reads as it did. -/
def fnWorkSpec : ChangeSpec := { name := "fnWork", fn := fun _ => fun
  | [d] => { results := [.lit (.bool true)], args := [d] }
  | _ => none }
def fnWorkRow : OpenClaim := { program := "ytjncefleglnnjaagreat", sum := "63881463b2a1befd655fb51e20b0aebb920b1bc3aeafb4379a3b3169281454a8", func := "loop.example/g00806/laws.FnWork", spec := "fnWork", unfollowed := true, recurses := true, apart := false }
def FnWorkSaid : Prop := fnWorkRow.holds Tryz.pinned (OpenSpec.ofChange fnWorkSpec)

/-- ITS FALSE NEIGHBOUR: 'it returns false'. Refute it at one input. -/
def fnWorkWrong : ChangeSpec := { name := "fnWork", fn := fun _ => fun
  | [d] => { results := [.lit (.bool false)], args := [d] }
  | _ => none }
def FnWorkWrongFalsely : Prop := fnWorkRow.holds Tryz.pinned (OpenSpec.ofChange fnWorkWrong)

/-- 'laws.FnExactCanPrecede': WHATEVER THE INPUT: true; the input reads as it did. -/
def fnExactCanPrecedeSpec : ChangeSpec := { name := "fnExactCanPrecede", fn := fun _ => fun
  | [d1, d2, d3, d4, d5] => { results := [.lit (.bool true)], args := [d1, d2, d3, d4, d5] }
  | _ => none }
def fnExactCanPrecedeRow : OpenClaim := { program := "ytjncefleglnnjaagreat", sum := "63881463b2a1befd655fb51e20b0aebb920b1bc3aeafb4379a3b3169281454a8", func := "loop.example/g00806/laws.FnExactCanPrecede", spec := "fnExactCanPrecede", unfollowed := true, recurses := true, apart := false }
def FnExactCanPrecedeSaid : Prop := fnExactCanPrecedeRow.holds Tryz.pinned (OpenSpec.ofChange fnExactCanPrecedeSpec)

/-- ITS FALSE NEIGHBOUR: 'it returns false'. Refute it at one input. -/
def fnExactCanPrecedeWrong : ChangeSpec := { name := "fnExactCanPrecede", fn := fun _ => fun
  | [d1, d2, d3, d4, d5] => { results := [.lit (.bool false)], args := [d1, d2, d3, d4, d5] }
  | _ => none }
def FnExactCanPrecedeWrongFalsely : Prop := fnExactCanPrecedeRow.holds Tryz.pinned (OpenSpec.ofChange fnExactCanPrecedeWrong)

/-- 'laws.FnExactRequiredUsage': WHATEVER THE INPUT: true; the input reads as it did. -/
def fnExactRequiredUsageSpec : ChangeSpec := { name := "fnExactRequiredUsage", fn := fun _ => fun
  | [d1, d2, d3, d4] => { results := [.lit (.bool true)], args := [d1, d2, d3, d4] }
  | _ => none }
def fnExactRequiredUsageRow : OpenClaim := { program := "ytjncefleglnnjaagreat", sum := "63881463b2a1befd655fb51e20b0aebb920b1bc3aeafb4379a3b3169281454a8", func := "loop.example/g00806/laws.FnExactRequiredUsage", spec := "fnExactRequiredUsage", unfollowed := true, recurses := true, apart := false }
def FnExactRequiredUsageSaid : Prop := fnExactRequiredUsageRow.holds Tryz.pinned (OpenSpec.ofChange fnExactRequiredUsageSpec)

/-- ITS FALSE NEIGHBOUR: 'it returns false'. Refute it at one input. -/
def fnExactRequiredUsageWrong : ChangeSpec := { name := "fnExactRequiredUsage", fn := fun _ => fun
  | [d1, d2, d3, d4] => { results := [.lit (.bool false)], args := [d1, d2, d3, d4] }
  | _ => none }
def FnExactRequiredUsageWrongFalsely : Prop := fnExactRequiredUsageRow.holds Tryz.pinned (OpenSpec.ofChange fnExactRequiredUsageWrong)

/-- 'laws.FnExactBothUse': WHATEVER THE INPUT: true; the input reads as it did. -/
def fnExactBothUseSpec : ChangeSpec := { name := "fnExactBothUse", fn := fun _ => fun
  | [d1, d2, d3, d4, d5] => { results := [.lit (.bool true)], args := [d1, d2, d3, d4, d5] }
  | _ => none }
def fnExactBothUseRow : OpenClaim := { program := "ytjncefleglnnjaagreat", sum := "63881463b2a1befd655fb51e20b0aebb920b1bc3aeafb4379a3b3169281454a8", func := "loop.example/g00806/laws.FnExactBothUse", spec := "fnExactBothUse", unfollowed := true, recurses := true, apart := false }
def FnExactBothUseSaid : Prop := fnExactBothUseRow.holds Tryz.pinned (OpenSpec.ofChange fnExactBothUseSpec)

/-- ITS FALSE NEIGHBOUR: 'it returns false'. Refute it at one input. -/
def fnExactBothUseWrong : ChangeSpec := { name := "fnExactBothUse", fn := fun _ => fun
  | [d1, d2, d3, d4, d5] => { results := [.lit (.bool false)], args := [d1, d2, d3, d4, d5] }
  | _ => none }
def FnExactBothUseWrongFalsely : Prop := fnExactBothUseRow.holds Tryz.pinned (OpenSpec.ofChange fnExactBothUseWrong)

/-- 'laws.FnExactCompulsoryUsage': WHATEVER THE INPUT: true; the input reads as it did. -/
def fnExactCompulsoryUsageSpec : ChangeSpec := { name := "fnExactCompulsoryUsage", fn := fun _ => fun
  | [d1, d2, d3, d4] => { results := [.lit (.bool true)], args := [d1, d2, d3, d4] }
  | _ => none }
def fnExactCompulsoryUsageRow : OpenClaim := { program := "ytjncefleglnnjaagreat", sum := "63881463b2a1befd655fb51e20b0aebb920b1bc3aeafb4379a3b3169281454a8", func := "loop.example/g00806/laws.FnExactCompulsoryUsage", spec := "fnExactCompulsoryUsage", unfollowed := true, recurses := true, apart := false }
def FnExactCompulsoryUsageSaid : Prop := fnExactCompulsoryUsageRow.holds Tryz.pinned (OpenSpec.ofChange fnExactCompulsoryUsageSpec)

/-- ITS FALSE NEIGHBOUR: 'it returns false'. Refute it at one input. -/
def fnExactCompulsoryUsageWrong : ChangeSpec := { name := "fnExactCompulsoryUsage", fn := fun _ => fun
  | [d1, d2, d3, d4] => { results := [.lit (.bool false)], args := [d1, d2, d3, d4] }
  | _ => none }
def FnExactCompulsoryUsageWrongFalsely : Prop := fnExactCompulsoryUsageRow.holds Tryz.pinned (OpenSpec.ofChange fnExactCompulsoryUsageWrong)

/-- 'laws.FnExactIsOverworked': WHATEVER THE INPUT: true; the input reads as it did. -/
def fnExactIsOverworkedSpec : ChangeSpec := { name := "fnExactIsOverworked", fn := fun _ => fun
  | [d1, d2, d3, d4, d5] => { results := [.lit (.bool true)], args := [d1, d2, d3, d4, d5] }
  | _ => none }
def fnExactIsOverworkedRow : OpenClaim := { program := "ytjncefleglnnjaagreat", sum := "63881463b2a1befd655fb51e20b0aebb920b1bc3aeafb4379a3b3169281454a8", func := "loop.example/g00806/laws.FnExactIsOverworked", spec := "fnExactIsOverworked", unfollowed := true, recurses := true, apart := false }
def FnExactIsOverworkedSaid : Prop := fnExactIsOverworkedRow.holds Tryz.pinned (OpenSpec.ofChange fnExactIsOverworkedSpec)

/-- ITS FALSE NEIGHBOUR: 'it returns false'. Refute it at one input. -/
def fnExactIsOverworkedWrong : ChangeSpec := { name := "fnExactIsOverworked", fn := fun _ => fun
  | [d1, d2, d3, d4, d5] => { results := [.lit (.bool false)], args := [d1, d2, d3, d4, d5] }
  | _ => none }
def FnExactIsOverworkedWrongFalsely : Prop := fnExactIsOverworkedRow.holds Tryz.pinned (OpenSpec.ofChange fnExactIsOverworkedWrong)

/-- 'laws.FnExactCompulsoryWork': WHATEVER THE INPUT: true; the input reads as it did. -/
def fnExactCompulsoryWorkSpec : ChangeSpec := { name := "fnExactCompulsoryWork", fn := fun _ => fun
  | [d1, d2, d3, d4, d5] => { results := [.lit (.bool true)], args := [d1, d2, d3, d4, d5] }
  | _ => none }
def fnExactCompulsoryWorkRow : OpenClaim := { program := "ytjncefleglnnjaagreat", sum := "63881463b2a1befd655fb51e20b0aebb920b1bc3aeafb4379a3b3169281454a8", func := "loop.example/g00806/laws.FnExactCompulsoryWork", spec := "fnExactCompulsoryWork", unfollowed := true, recurses := true, apart := false }
def FnExactCompulsoryWorkSaid : Prop := fnExactCompulsoryWorkRow.holds Tryz.pinned (OpenSpec.ofChange fnExactCompulsoryWorkSpec)

/-- ITS FALSE NEIGHBOUR: 'it returns false'. Refute it at one input. -/
def fnExactCompulsoryWorkWrong : ChangeSpec := { name := "fnExactCompulsoryWork", fn := fun _ => fun
  | [d1, d2, d3, d4, d5] => { results := [.lit (.bool false)], args := [d1, d2, d3, d4, d5] }
  | _ => none }
def FnExactCompulsoryWorkWrongFalsely : Prop := fnExactCompulsoryWorkRow.holds Tryz.pinned (OpenSpec.ofChange fnExactCompulsoryWorkWrong)

/-- 'laws.FnExactMustPrecede': WHATEVER THE INPUT: true; the input reads as it did. -/
def fnExactMustPrecedeSpec : ChangeSpec := { name := "fnExactMustPrecede", fn := fun _ => fun
  | [d1, d2, d3, d4, d5] => { results := [.lit (.bool true)], args := [d1, d2, d3, d4, d5] }
  | _ => none }
def fnExactMustPrecedeRow : OpenClaim := { program := "ytjncefleglnnjaagreat", sum := "63881463b2a1befd655fb51e20b0aebb920b1bc3aeafb4379a3b3169281454a8", func := "loop.example/g00806/laws.FnExactMustPrecede", spec := "fnExactMustPrecede", unfollowed := true, recurses := true, apart := false }
def FnExactMustPrecedeSaid : Prop := fnExactMustPrecedeRow.holds Tryz.pinned (OpenSpec.ofChange fnExactMustPrecedeSpec)

/-- ITS FALSE NEIGHBOUR: 'it returns false'. Refute it at one input. -/
def fnExactMustPrecedeWrong : ChangeSpec := { name := "fnExactMustPrecede", fn := fun _ => fun
  | [d1, d2, d3, d4, d5] => { results := [.lit (.bool false)], args := [d1, d2, d3, d4, d5] }
  | _ => none }
def FnExactMustPrecedeWrongFalsely : Prop := fnExactMustPrecedeRow.holds Tryz.pinned (OpenSpec.ofChange fnExactMustPrecedeWrong)

/-- 'laws.FnExactPairConflict': WHATEVER THE INPUT: true; the input reads as it did. -/
def fnExactPairConflictSpec : ChangeSpec := { name := "fnExactPairConflict", fn := fun _ => fun
  | [d1, d2, d3, d4, d5] => { results := [.lit (.bool true)], args := [d1, d2, d3, d4, d5] }
  | _ => none }
def fnExactPairConflictRow : OpenClaim := { program := "ytjncefleglnnjaagreat", sum := "63881463b2a1befd655fb51e20b0aebb920b1bc3aeafb4379a3b3169281454a8", func := "loop.example/g00806/laws.FnExactPairConflict", spec := "fnExactPairConflict", unfollowed := true, recurses := true, apart := false }
def FnExactPairConflictSaid : Prop := fnExactPairConflictRow.holds Tryz.pinned (OpenSpec.ofChange fnExactPairConflictSpec)

/-- ITS FALSE NEIGHBOUR: 'it returns false'. Refute it at one input. -/
def fnExactPairConflictWrong : ChangeSpec := { name := "fnExactPairConflict", fn := fun _ => fun
  | [d1, d2, d3, d4, d5] => { results := [.lit (.bool false)], args := [d1, d2, d3, d4, d5] }
  | _ => none }
def FnExactPairConflictWrongFalsely : Prop := fnExactPairConflictRow.holds Tryz.pinned (OpenSpec.ofChange fnExactPairConflictWrong)

/-- 'laws.FnExactEarliestAfter': WHATEVER THE INPUT: true; the input reads as it did. -/
def fnExactEarliestAfterSpec : ChangeSpec := { name := "fnExactEarliestAfter", fn := fun _ => fun
  | [d1, d2, d3, d4, d5] => { results := [.lit (.bool true)], args := [d1, d2, d3, d4, d5] }
  | _ => none }
def fnExactEarliestAfterRow : OpenClaim := { program := "ytjncefleglnnjaagreat", sum := "63881463b2a1befd655fb51e20b0aebb920b1bc3aeafb4379a3b3169281454a8", func := "loop.example/g00806/laws.FnExactEarliestAfter", spec := "fnExactEarliestAfter", unfollowed := true, recurses := true, apart := false }
def FnExactEarliestAfterSaid : Prop := fnExactEarliestAfterRow.holds Tryz.pinned (OpenSpec.ofChange fnExactEarliestAfterSpec)

/-- ITS FALSE NEIGHBOUR: 'it returns false'. Refute it at one input. -/
def fnExactEarliestAfterWrong : ChangeSpec := { name := "fnExactEarliestAfter", fn := fun _ => fun
  | [d1, d2, d3, d4, d5] => { results := [.lit (.bool false)], args := [d1, d2, d3, d4, d5] }
  | _ => none }
def FnExactEarliestAfterWrongFalsely : Prop := fnExactEarliestAfterRow.holds Tryz.pinned (OpenSpec.ofChange fnExactEarliestAfterWrong)

/-- 'laws.FnExactOverloadTime': WHATEVER THE INPUT: true; the input reads as it did. -/
def fnExactOverloadTimeSpec : ChangeSpec := { name := "fnExactOverloadTime", fn := fun _ => fun
  | [d1, d2, d3] => { results := [.lit (.bool true)], args := [d1, d2, d3] }
  | _ => none }
def fnExactOverloadTimeRow : OpenClaim := { program := "ytjncefleglnnjaagreat", sum := "63881463b2a1befd655fb51e20b0aebb920b1bc3aeafb4379a3b3169281454a8", func := "loop.example/g00806/laws.FnExactOverloadTime", spec := "fnExactOverloadTime", unfollowed := true, recurses := true, apart := false }
def FnExactOverloadTimeSaid : Prop := fnExactOverloadTimeRow.holds Tryz.pinned (OpenSpec.ofChange fnExactOverloadTimeSpec)

/-- ITS FALSE NEIGHBOUR: 'it returns false'. Refute it at one input. -/
def fnExactOverloadTimeWrong : ChangeSpec := { name := "fnExactOverloadTime", fn := fun _ => fun
  | [d1, d2, d3] => { results := [.lit (.bool false)], args := [d1, d2, d3] }
  | _ => none }
def FnExactOverloadTimeWrongFalsely : Prop := fnExactOverloadTimeRow.holds Tryz.pinned (OpenSpec.ofChange fnExactOverloadTimeWrong)

/-- 'laws.FnExactWorkBound': WHATEVER THE INPUT: true; the input reads as it did. -/
def fnExactWorkBoundSpec : ChangeSpec := { name := "fnExactWorkBound", fn := fun _ => fun
  | [d] => { results := [.lit (.bool true)], args := [d] }
  | _ => none }
def fnExactWorkBoundRow : OpenClaim := { program := "ytjncefleglnnjaagreat", sum := "63881463b2a1befd655fb51e20b0aebb920b1bc3aeafb4379a3b3169281454a8", func := "loop.example/g00806/laws.FnExactWorkBound", spec := "fnExactWorkBound", unfollowed := true, recurses := true, apart := false }
def FnExactWorkBoundSaid : Prop := fnExactWorkBoundRow.holds Tryz.pinned (OpenSpec.ofChange fnExactWorkBoundSpec)

/-- ITS FALSE NEIGHBOUR: 'it returns false'. Refute it at one input. -/
def fnExactWorkBoundWrong : ChangeSpec := { name := "fnExactWorkBound", fn := fun _ => fun
  | [d] => { results := [.lit (.bool false)], args := [d] }
  | _ => none }
def FnExactWorkBoundWrongFalsely : Prop := fnExactWorkBoundRow.holds Tryz.pinned (OpenSpec.ofChange fnExactWorkBoundWrong)

/-- 'laws.FnExactMachineBound': WHATEVER THE INPUT: true; the input reads as it did. -/
def fnExactMachineBoundSpec : ChangeSpec := { name := "fnExactMachineBound", fn := fun _ => fun
  | [d1, d2, d3] => { results := [.lit (.bool true)], args := [d1, d2, d3] }
  | _ => none }
def fnExactMachineBoundRow : OpenClaim := { program := "ytjncefleglnnjaagreat", sum := "63881463b2a1befd655fb51e20b0aebb920b1bc3aeafb4379a3b3169281454a8", func := "loop.example/g00806/laws.FnExactMachineBound", spec := "fnExactMachineBound", unfollowed := true, recurses := true, apart := false }
def FnExactMachineBoundSaid : Prop := fnExactMachineBoundRow.holds Tryz.pinned (OpenSpec.ofChange fnExactMachineBoundSpec)

/-- ITS FALSE NEIGHBOUR: 'it returns false'. Refute it at one input. -/
def fnExactMachineBoundWrong : ChangeSpec := { name := "fnExactMachineBound", fn := fun _ => fun
  | [d1, d2, d3] => { results := [.lit (.bool false)], args := [d1, d2, d3] }
  | _ => none }
def FnExactMachineBoundWrongFalsely : Prop := fnExactMachineBoundRow.holds Tryz.pinned (OpenSpec.ofChange fnExactMachineBoundWrong)

/-- 'laws.FnExactMachineLowerBound': WHATEVER THE INPUT: true; the input reads as it did. -/
def fnExactMachineLowerBoundSpec : ChangeSpec := { name := "fnExactMachineLowerBound", fn := fun _ => fun
  | [d] => { results := [.lit (.bool true)], args := [d] }
  | _ => none }
def fnExactMachineLowerBoundRow : OpenClaim := { program := "ytjncefleglnnjaagreat", sum := "63881463b2a1befd655fb51e20b0aebb920b1bc3aeafb4379a3b3169281454a8", func := "loop.example/g00806/laws.FnExactMachineLowerBound", spec := "fnExactMachineLowerBound", unfollowed := true, recurses := true, apart := false }
def FnExactMachineLowerBoundSaid : Prop := fnExactMachineLowerBoundRow.holds Tryz.pinned (OpenSpec.ofChange fnExactMachineLowerBoundSpec)

/-- ITS FALSE NEIGHBOUR: 'it returns false'. Refute it at one input. -/
def fnExactMachineLowerBoundWrong : ChangeSpec := { name := "fnExactMachineLowerBound", fn := fun _ => fun
  | [d] => { results := [.lit (.bool false)], args := [d] }
  | _ => none }
def FnExactMachineLowerBoundWrongFalsely : Prop := fnExactMachineLowerBoundRow.holds Tryz.pinned (OpenSpec.ofChange fnExactMachineLowerBoundWrong)

/-- 'laws.FnExactMachineChain': WHATEVER THE INPUT: true; the input reads as it did. -/
def fnExactMachineChainSpec : ChangeSpec := { name := "fnExactMachineChain", fn := fun _ => fun
  | [d1, d2, d3] => { results := [.lit (.bool true)], args := [d1, d2, d3] }
  | _ => none }
def fnExactMachineChainRow : OpenClaim := { program := "ytjncefleglnnjaagreat", sum := "63881463b2a1befd655fb51e20b0aebb920b1bc3aeafb4379a3b3169281454a8", func := "loop.example/g00806/laws.FnExactMachineChain", spec := "fnExactMachineChain", unfollowed := true, recurses := true, apart := false }
def FnExactMachineChainSaid : Prop := fnExactMachineChainRow.holds Tryz.pinned (OpenSpec.ofChange fnExactMachineChainSpec)

/-- ITS FALSE NEIGHBOUR: 'it returns false'. Refute it at one input. -/
def fnExactMachineChainWrong : ChangeSpec := { name := "fnExactMachineChain", fn := fun _ => fun
  | [d1, d2, d3] => { results := [.lit (.bool false)], args := [d1, d2, d3] }
  | _ => none }
def FnExactMachineChainWrongFalsely : Prop := fnExactMachineChainRow.holds Tryz.pinned (OpenSpec.ofChange fnExactMachineChainWrong)

/-- 'laws.FnExactRefutes': WHATEVER THE INPUT: true; the input reads as it did. -/
def fnExactRefutesSpec : ChangeSpec := { name := "fnExactRefutes", fn := fun _ => fun
  | [d1, d2, d3] => { results := [.lit (.bool true)], args := [d1, d2, d3] }
  | _ => none }
def fnExactRefutesRow : OpenClaim := { program := "ytjncefleglnnjaagreat", sum := "63881463b2a1befd655fb51e20b0aebb920b1bc3aeafb4379a3b3169281454a8", func := "loop.example/g00806/laws.FnExactRefutes", spec := "fnExactRefutes", unfollowed := true, recurses := true, apart := false }
def FnExactRefutesSaid : Prop := fnExactRefutesRow.holds Tryz.pinned (OpenSpec.ofChange fnExactRefutesSpec)

/-- ITS FALSE NEIGHBOUR: 'it returns false'. Refute it at one input. -/
def fnExactRefutesWrong : ChangeSpec := { name := "fnExactRefutes", fn := fun _ => fun
  | [d1, d2, d3] => { results := [.lit (.bool false)], args := [d1, d2, d3] }
  | _ => none }
def FnExactRefutesWrongFalsely : Prop := fnExactRefutesRow.holds Tryz.pinned (OpenSpec.ofChange fnExactRefutesWrong)

/-- 'laws.FnExactRuleActivities': WHATEVER THE INPUT: true; the input reads as it did. -/
def fnExactRuleActivitiesSpec : ChangeSpec := { name := "fnExactRuleActivities", fn := fun _ => fun
  | [d1, d2] => { results := [.lit (.bool true)], args := [d1, d2] }
  | _ => none }
def fnExactRuleActivitiesRow : OpenClaim := { program := "ytjncefleglnnjaagreat", sum := "63881463b2a1befd655fb51e20b0aebb920b1bc3aeafb4379a3b3169281454a8", func := "loop.example/g00806/laws.FnExactRuleActivities", spec := "fnExactRuleActivities", unfollowed := true, recurses := true, apart := false }
def FnExactRuleActivitiesSaid : Prop := fnExactRuleActivitiesRow.holds Tryz.pinned (OpenSpec.ofChange fnExactRuleActivitiesSpec)

/-- ITS FALSE NEIGHBOUR: 'it returns false'. Refute it at one input. -/
def fnExactRuleActivitiesWrong : ChangeSpec := { name := "fnExactRuleActivities", fn := fun _ => fun
  | [d1, d2] => { results := [.lit (.bool false)], args := [d1, d2] }
  | _ => none }
def FnExactRuleActivitiesWrongFalsely : Prop := fnExactRuleActivitiesRow.holds Tryz.pinned (OpenSpec.ofChange fnExactRuleActivitiesWrong)

/-- 'laws.FnExactPriorityOrder': WHATEVER THE INPUT: true; the input reads as it did. -/
def fnExactPriorityOrderSpec : ChangeSpec := { name := "fnExactPriorityOrder", fn := fun _ => fun
  | [d1, d2] => { results := [.lit (.bool true)], args := [d1, d2] }
  | _ => none }
def fnExactPriorityOrderRow : OpenClaim := { program := "ytjncefleglnnjaagreat", sum := "63881463b2a1befd655fb51e20b0aebb920b1bc3aeafb4379a3b3169281454a8", func := "loop.example/g00806/laws.FnExactPriorityOrder", spec := "fnExactPriorityOrder", unfollowed := true, recurses := true, apart := false }
def FnExactPriorityOrderSaid : Prop := fnExactPriorityOrderRow.holds Tryz.pinned (OpenSpec.ofChange fnExactPriorityOrderSpec)

/-- ITS FALSE NEIGHBOUR: 'it returns false'. Refute it at one input. -/
def fnExactPriorityOrderWrong : ChangeSpec := { name := "fnExactPriorityOrder", fn := fun _ => fun
  | [d1, d2] => { results := [.lit (.bool false)], args := [d1, d2] }
  | _ => none }
def FnExactPriorityOrderWrongFalsely : Prop := fnExactPriorityOrderRow.holds Tryz.pinned (OpenSpec.ofChange fnExactPriorityOrderWrong)

/-- 'laws.FnExactPlanRemaining': WHATEVER THE INPUT: true; the input reads as it did. -/
def fnExactPlanRemainingSpec : ChangeSpec := { name := "fnExactPlanRemaining", fn := fun _ => fun
  | [d1, d2] => { results := [.lit (.bool true)], args := [d1, d2] }
  | _ => none }
def fnExactPlanRemainingRow : OpenClaim := { program := "ytjncefleglnnjaagreat", sum := "63881463b2a1befd655fb51e20b0aebb920b1bc3aeafb4379a3b3169281454a8", func := "loop.example/g00806/laws.FnExactPlanRemaining", spec := "fnExactPlanRemaining", unfollowed := true, recurses := true, apart := false }
def FnExactPlanRemainingSaid : Prop := fnExactPlanRemainingRow.holds Tryz.pinned (OpenSpec.ofChange fnExactPlanRemainingSpec)

/-- ITS FALSE NEIGHBOUR: 'it returns false'. Refute it at one input. -/
def fnExactPlanRemainingWrong : ChangeSpec := { name := "fnExactPlanRemaining", fn := fun _ => fun
  | [d1, d2] => { results := [.lit (.bool false)], args := [d1, d2] }
  | _ => none }
def FnExactPlanRemainingWrongFalsely : Prop := fnExactPlanRemainingRow.holds Tryz.pinned (OpenSpec.ofChange fnExactPlanRemainingWrong)

/-- 'laws.FnExactIntervals': WHATEVER THE INPUT: true; the input reads as it did. -/
def fnExactIntervalsSpec : ChangeSpec := { name := "fnExactIntervals", fn := fun _ => fun
  | [d1, d2] => { results := [.lit (.bool true)], args := [d1, d2] }
  | _ => none }
def fnExactIntervalsRow : OpenClaim := { program := "ytjncefleglnnjaagreat", sum := "63881463b2a1befd655fb51e20b0aebb920b1bc3aeafb4379a3b3169281454a8", func := "loop.example/g00806/laws.FnExactIntervals", spec := "fnExactIntervals", unfollowed := true, recurses := true, apart := false }
def FnExactIntervalsSaid : Prop := fnExactIntervalsRow.holds Tryz.pinned (OpenSpec.ofChange fnExactIntervalsSpec)

/-- ITS FALSE NEIGHBOUR: 'it returns false'. Refute it at one input. -/
def fnExactIntervalsWrong : ChangeSpec := { name := "fnExactIntervals", fn := fun _ => fun
  | [d1, d2] => { results := [.lit (.bool false)], args := [d1, d2] }
  | _ => none }
def FnExactIntervalsWrongFalsely : Prop := fnExactIntervalsRow.holds Tryz.pinned (OpenSpec.ofChange fnExactIntervalsWrong)

/-- 'laws.FnExactLowerBound': WHATEVER THE INPUT: true; the input reads as it did. -/
def fnExactLowerBoundSpec : ChangeSpec := { name := "fnExactLowerBound", fn := fun _ => fun
  | [d] => { results := [.lit (.bool true)], args := [d] }
  | _ => none }
def fnExactLowerBoundRow : OpenClaim := { program := "ytjncefleglnnjaagreat", sum := "63881463b2a1befd655fb51e20b0aebb920b1bc3aeafb4379a3b3169281454a8", func := "loop.example/g00806/laws.FnExactLowerBound", spec := "fnExactLowerBound", unfollowed := true, recurses := true, apart := false }
def FnExactLowerBoundSaid : Prop := fnExactLowerBoundRow.holds Tryz.pinned (OpenSpec.ofChange fnExactLowerBoundSpec)

/-- ITS FALSE NEIGHBOUR: 'it returns false'. Refute it at one input. -/
def fnExactLowerBoundWrong : ChangeSpec := { name := "fnExactLowerBound", fn := fun _ => fun
  | [d] => { results := [.lit (.bool false)], args := [d] }
  | _ => none }
def FnExactLowerBoundWrongFalsely : Prop := fnExactLowerBoundRow.holds Tryz.pinned (OpenSpec.ofChange fnExactLowerBoundWrong)

/-- 'laws.FnExactCandidateRules': WHATEVER THE INPUT: true; the input reads as it did. -/
def fnExactCandidateRulesSpec : ChangeSpec := { name := "fnExactCandidateRules", fn := fun _ => fun
  | [d1, d2] => { results := [.lit (.bool true)], args := [d1, d2] }
  | _ => none }
def fnExactCandidateRulesRow : OpenClaim := { program := "ytjncefleglnnjaagreat", sum := "63881463b2a1befd655fb51e20b0aebb920b1bc3aeafb4379a3b3169281454a8", func := "loop.example/g00806/laws.FnExactCandidateRules", spec := "fnExactCandidateRules", unfollowed := true, recurses := true, apart := false }
def FnExactCandidateRulesSaid : Prop := fnExactCandidateRulesRow.holds Tryz.pinned (OpenSpec.ofChange fnExactCandidateRulesSpec)

/-- ITS FALSE NEIGHBOUR: 'it returns false'. Refute it at one input. -/
def fnExactCandidateRulesWrong : ChangeSpec := { name := "fnExactCandidateRules", fn := fun _ => fun
  | [d1, d2] => { results := [.lit (.bool false)], args := [d1, d2] }
  | _ => none }
def FnExactCandidateRulesWrongFalsely : Prop := fnExactCandidateRulesRow.holds Tryz.pinned (OpenSpec.ofChange fnExactCandidateRulesWrong)

/- THE SECOND FORM. 'bulk': how many values and letters a reading holds, each counted each time it is reached (what is shared counts as often as it is met; a slice's spare places count too). A statement '..UptoSaid' is the law's where the arguments, and the package variables that the reading takes, are together of bulk at most 1048576: NARROWER than '..Said'. Prove '..Said' where nothing that the law and all that it calls make is longer than what came in: it says more and counts as full. Else prove '..UptoSaid'. A law counts once. -/
mutual
def uptoBulk {H : Type} : DataW H → Nat
  | .lit (.string bytes) => bytes.length + 1
  | .lit _ => 1
  | .nil => 1
  | .ptr d => uptoBulk d + 1
  | .slice elems spare => uptoBulkAll elems + uptoBulkAll spare + 1
  | .agg parts => uptoBulkAll parts + 1
  | .iface _ d => uptoBulk d + 1
  | .map entries => uptoBulkEntries entries + 1
  | .held _ => 1
def uptoBulkAll {H : Type} : List (DataW H) → Nat
  | [] => 0
  | d :: r => uptoBulk d + uptoBulkAll r
def uptoBulkEntries {H : Type} : List (Lit × DataW H) → Nat
  | [] => 0
  | x :: r => uptoBulkEntry x + uptoBulkEntries r
def uptoBulkEntry {H : Type} : Lit × DataW H → Nat
  | (.string bytes, d) => bytes.length + uptoBulk d + 1
  | (_, d) => uptoBulk d + 1
 end
def uptoSmall : (H : Type) → List (DataW H) → Bool := fun _ ds => decide (uptoBulkAll ds ≤ 1048576)
def OpenSpec.upto (s : _root_.Go.ChangeSpec) : _root_.Go.OpenSpec := { _root_.Go.OpenSpec.ofChange s with cond := some uptoSmall }

/-- 'laws.FnCore', WHERE WHAT IT READS IS OF BULK AT MOST 1048576: true; the input reads as it did. -/
def fnCoreUptoRow : OpenClaim := { program := "ytjncefleglnnjaagreat", sum := "63881463b2a1befd655fb51e20b0aebb920b1bc3aeafb4379a3b3169281454a8", func := "loop.example/g00806/laws.FnCore", spec := "fnCore", unfollowed := true, recurses := true, apart := false, narrowed := true }
def FnCoreUptoSaid : Prop := fnCoreUptoRow.holds Tryz.pinned (OpenSpec.upto fnCoreSpec)

/-- 'laws.FnWork', WHERE WHAT IT READS IS OF BULK AT MOST 1048576: true; the input reads as it did. -/
def fnWorkUptoRow : OpenClaim := { program := "ytjncefleglnnjaagreat", sum := "63881463b2a1befd655fb51e20b0aebb920b1bc3aeafb4379a3b3169281454a8", func := "loop.example/g00806/laws.FnWork", spec := "fnWork", unfollowed := true, recurses := true, apart := false, narrowed := true }
def FnWorkUptoSaid : Prop := fnWorkUptoRow.holds Tryz.pinned (OpenSpec.upto fnWorkSpec)

/-- 'laws.FnExactCanPrecede', WHERE WHAT IT READS IS OF BULK AT MOST 1048576: true; the input reads as it did. -/
def fnExactCanPrecedeUptoRow : OpenClaim := { program := "ytjncefleglnnjaagreat", sum := "63881463b2a1befd655fb51e20b0aebb920b1bc3aeafb4379a3b3169281454a8", func := "loop.example/g00806/laws.FnExactCanPrecede", spec := "fnExactCanPrecede", unfollowed := true, recurses := true, apart := false, narrowed := true }
def FnExactCanPrecedeUptoSaid : Prop := fnExactCanPrecedeUptoRow.holds Tryz.pinned (OpenSpec.upto fnExactCanPrecedeSpec)

/-- 'laws.FnExactRequiredUsage', WHERE WHAT IT READS IS OF BULK AT MOST 1048576: true; the input reads as it did. -/
def fnExactRequiredUsageUptoRow : OpenClaim := { program := "ytjncefleglnnjaagreat", sum := "63881463b2a1befd655fb51e20b0aebb920b1bc3aeafb4379a3b3169281454a8", func := "loop.example/g00806/laws.FnExactRequiredUsage", spec := "fnExactRequiredUsage", unfollowed := true, recurses := true, apart := false, narrowed := true }
def FnExactRequiredUsageUptoSaid : Prop := fnExactRequiredUsageUptoRow.holds Tryz.pinned (OpenSpec.upto fnExactRequiredUsageSpec)

/-- 'laws.FnExactBothUse', WHERE WHAT IT READS IS OF BULK AT MOST 1048576: true; the input reads as it did. -/
def fnExactBothUseUptoRow : OpenClaim := { program := "ytjncefleglnnjaagreat", sum := "63881463b2a1befd655fb51e20b0aebb920b1bc3aeafb4379a3b3169281454a8", func := "loop.example/g00806/laws.FnExactBothUse", spec := "fnExactBothUse", unfollowed := true, recurses := true, apart := false, narrowed := true }
def FnExactBothUseUptoSaid : Prop := fnExactBothUseUptoRow.holds Tryz.pinned (OpenSpec.upto fnExactBothUseSpec)

/-- 'laws.FnExactCompulsoryUsage', WHERE WHAT IT READS IS OF BULK AT MOST 1048576: true; the input reads as it did. -/
def fnExactCompulsoryUsageUptoRow : OpenClaim := { program := "ytjncefleglnnjaagreat", sum := "63881463b2a1befd655fb51e20b0aebb920b1bc3aeafb4379a3b3169281454a8", func := "loop.example/g00806/laws.FnExactCompulsoryUsage", spec := "fnExactCompulsoryUsage", unfollowed := true, recurses := true, apart := false, narrowed := true }
def FnExactCompulsoryUsageUptoSaid : Prop := fnExactCompulsoryUsageUptoRow.holds Tryz.pinned (OpenSpec.upto fnExactCompulsoryUsageSpec)

/-- 'laws.FnExactIsOverworked', WHERE WHAT IT READS IS OF BULK AT MOST 1048576: true; the input reads as it did. -/
def fnExactIsOverworkedUptoRow : OpenClaim := { program := "ytjncefleglnnjaagreat", sum := "63881463b2a1befd655fb51e20b0aebb920b1bc3aeafb4379a3b3169281454a8", func := "loop.example/g00806/laws.FnExactIsOverworked", spec := "fnExactIsOverworked", unfollowed := true, recurses := true, apart := false, narrowed := true }
def FnExactIsOverworkedUptoSaid : Prop := fnExactIsOverworkedUptoRow.holds Tryz.pinned (OpenSpec.upto fnExactIsOverworkedSpec)

/-- 'laws.FnExactCompulsoryWork', WHERE WHAT IT READS IS OF BULK AT MOST 1048576: true; the input reads as it did. -/
def fnExactCompulsoryWorkUptoRow : OpenClaim := { program := "ytjncefleglnnjaagreat", sum := "63881463b2a1befd655fb51e20b0aebb920b1bc3aeafb4379a3b3169281454a8", func := "loop.example/g00806/laws.FnExactCompulsoryWork", spec := "fnExactCompulsoryWork", unfollowed := true, recurses := true, apart := false, narrowed := true }
def FnExactCompulsoryWorkUptoSaid : Prop := fnExactCompulsoryWorkUptoRow.holds Tryz.pinned (OpenSpec.upto fnExactCompulsoryWorkSpec)

/-- 'laws.FnExactMustPrecede', WHERE WHAT IT READS IS OF BULK AT MOST 1048576: true; the input reads as it did. -/
def fnExactMustPrecedeUptoRow : OpenClaim := { program := "ytjncefleglnnjaagreat", sum := "63881463b2a1befd655fb51e20b0aebb920b1bc3aeafb4379a3b3169281454a8", func := "loop.example/g00806/laws.FnExactMustPrecede", spec := "fnExactMustPrecede", unfollowed := true, recurses := true, apart := false, narrowed := true }
def FnExactMustPrecedeUptoSaid : Prop := fnExactMustPrecedeUptoRow.holds Tryz.pinned (OpenSpec.upto fnExactMustPrecedeSpec)

/-- 'laws.FnExactPairConflict', WHERE WHAT IT READS IS OF BULK AT MOST 1048576: true; the input reads as it did. -/
def fnExactPairConflictUptoRow : OpenClaim := { program := "ytjncefleglnnjaagreat", sum := "63881463b2a1befd655fb51e20b0aebb920b1bc3aeafb4379a3b3169281454a8", func := "loop.example/g00806/laws.FnExactPairConflict", spec := "fnExactPairConflict", unfollowed := true, recurses := true, apart := false, narrowed := true }
def FnExactPairConflictUptoSaid : Prop := fnExactPairConflictUptoRow.holds Tryz.pinned (OpenSpec.upto fnExactPairConflictSpec)

/-- 'laws.FnExactEarliestAfter', WHERE WHAT IT READS IS OF BULK AT MOST 1048576: true; the input reads as it did. -/
def fnExactEarliestAfterUptoRow : OpenClaim := { program := "ytjncefleglnnjaagreat", sum := "63881463b2a1befd655fb51e20b0aebb920b1bc3aeafb4379a3b3169281454a8", func := "loop.example/g00806/laws.FnExactEarliestAfter", spec := "fnExactEarliestAfter", unfollowed := true, recurses := true, apart := false, narrowed := true }
def FnExactEarliestAfterUptoSaid : Prop := fnExactEarliestAfterUptoRow.holds Tryz.pinned (OpenSpec.upto fnExactEarliestAfterSpec)

/-- 'laws.FnExactOverloadTime', WHERE WHAT IT READS IS OF BULK AT MOST 1048576: true; the input reads as it did. -/
def fnExactOverloadTimeUptoRow : OpenClaim := { program := "ytjncefleglnnjaagreat", sum := "63881463b2a1befd655fb51e20b0aebb920b1bc3aeafb4379a3b3169281454a8", func := "loop.example/g00806/laws.FnExactOverloadTime", spec := "fnExactOverloadTime", unfollowed := true, recurses := true, apart := false, narrowed := true }
def FnExactOverloadTimeUptoSaid : Prop := fnExactOverloadTimeUptoRow.holds Tryz.pinned (OpenSpec.upto fnExactOverloadTimeSpec)

/-- 'laws.FnExactWorkBound', WHERE WHAT IT READS IS OF BULK AT MOST 1048576: true; the input reads as it did. -/
def fnExactWorkBoundUptoRow : OpenClaim := { program := "ytjncefleglnnjaagreat", sum := "63881463b2a1befd655fb51e20b0aebb920b1bc3aeafb4379a3b3169281454a8", func := "loop.example/g00806/laws.FnExactWorkBound", spec := "fnExactWorkBound", unfollowed := true, recurses := true, apart := false, narrowed := true }
def FnExactWorkBoundUptoSaid : Prop := fnExactWorkBoundUptoRow.holds Tryz.pinned (OpenSpec.upto fnExactWorkBoundSpec)

/-- 'laws.FnExactMachineBound', WHERE WHAT IT READS IS OF BULK AT MOST 1048576: true; the input reads as it did. -/
def fnExactMachineBoundUptoRow : OpenClaim := { program := "ytjncefleglnnjaagreat", sum := "63881463b2a1befd655fb51e20b0aebb920b1bc3aeafb4379a3b3169281454a8", func := "loop.example/g00806/laws.FnExactMachineBound", spec := "fnExactMachineBound", unfollowed := true, recurses := true, apart := false, narrowed := true }
def FnExactMachineBoundUptoSaid : Prop := fnExactMachineBoundUptoRow.holds Tryz.pinned (OpenSpec.upto fnExactMachineBoundSpec)

/-- 'laws.FnExactMachineLowerBound', WHERE WHAT IT READS IS OF BULK AT MOST 1048576: true; the input reads as it did. -/
def fnExactMachineLowerBoundUptoRow : OpenClaim := { program := "ytjncefleglnnjaagreat", sum := "63881463b2a1befd655fb51e20b0aebb920b1bc3aeafb4379a3b3169281454a8", func := "loop.example/g00806/laws.FnExactMachineLowerBound", spec := "fnExactMachineLowerBound", unfollowed := true, recurses := true, apart := false, narrowed := true }
def FnExactMachineLowerBoundUptoSaid : Prop := fnExactMachineLowerBoundUptoRow.holds Tryz.pinned (OpenSpec.upto fnExactMachineLowerBoundSpec)

/-- 'laws.FnExactMachineChain', WHERE WHAT IT READS IS OF BULK AT MOST 1048576: true; the input reads as it did. -/
def fnExactMachineChainUptoRow : OpenClaim := { program := "ytjncefleglnnjaagreat", sum := "63881463b2a1befd655fb51e20b0aebb920b1bc3aeafb4379a3b3169281454a8", func := "loop.example/g00806/laws.FnExactMachineChain", spec := "fnExactMachineChain", unfollowed := true, recurses := true, apart := false, narrowed := true }
def FnExactMachineChainUptoSaid : Prop := fnExactMachineChainUptoRow.holds Tryz.pinned (OpenSpec.upto fnExactMachineChainSpec)

/-- 'laws.FnExactRefutes', WHERE WHAT IT READS IS OF BULK AT MOST 1048576: true; the input reads as it did. -/
def fnExactRefutesUptoRow : OpenClaim := { program := "ytjncefleglnnjaagreat", sum := "63881463b2a1befd655fb51e20b0aebb920b1bc3aeafb4379a3b3169281454a8", func := "loop.example/g00806/laws.FnExactRefutes", spec := "fnExactRefutes", unfollowed := true, recurses := true, apart := false, narrowed := true }
def FnExactRefutesUptoSaid : Prop := fnExactRefutesUptoRow.holds Tryz.pinned (OpenSpec.upto fnExactRefutesSpec)

/-- 'laws.FnExactRuleActivities', WHERE WHAT IT READS IS OF BULK AT MOST 1048576: true; the input reads as it did. -/
def fnExactRuleActivitiesUptoRow : OpenClaim := { program := "ytjncefleglnnjaagreat", sum := "63881463b2a1befd655fb51e20b0aebb920b1bc3aeafb4379a3b3169281454a8", func := "loop.example/g00806/laws.FnExactRuleActivities", spec := "fnExactRuleActivities", unfollowed := true, recurses := true, apart := false, narrowed := true }
def FnExactRuleActivitiesUptoSaid : Prop := fnExactRuleActivitiesUptoRow.holds Tryz.pinned (OpenSpec.upto fnExactRuleActivitiesSpec)

/-- 'laws.FnExactPriorityOrder', WHERE WHAT IT READS IS OF BULK AT MOST 1048576: true; the input reads as it did. -/
def fnExactPriorityOrderUptoRow : OpenClaim := { program := "ytjncefleglnnjaagreat", sum := "63881463b2a1befd655fb51e20b0aebb920b1bc3aeafb4379a3b3169281454a8", func := "loop.example/g00806/laws.FnExactPriorityOrder", spec := "fnExactPriorityOrder", unfollowed := true, recurses := true, apart := false, narrowed := true }
def FnExactPriorityOrderUptoSaid : Prop := fnExactPriorityOrderUptoRow.holds Tryz.pinned (OpenSpec.upto fnExactPriorityOrderSpec)

/-- 'laws.FnExactPlanRemaining', WHERE WHAT IT READS IS OF BULK AT MOST 1048576: true; the input reads as it did. -/
def fnExactPlanRemainingUptoRow : OpenClaim := { program := "ytjncefleglnnjaagreat", sum := "63881463b2a1befd655fb51e20b0aebb920b1bc3aeafb4379a3b3169281454a8", func := "loop.example/g00806/laws.FnExactPlanRemaining", spec := "fnExactPlanRemaining", unfollowed := true, recurses := true, apart := false, narrowed := true }
def FnExactPlanRemainingUptoSaid : Prop := fnExactPlanRemainingUptoRow.holds Tryz.pinned (OpenSpec.upto fnExactPlanRemainingSpec)

/-- 'laws.FnExactIntervals', WHERE WHAT IT READS IS OF BULK AT MOST 1048576: true; the input reads as it did. -/
def fnExactIntervalsUptoRow : OpenClaim := { program := "ytjncefleglnnjaagreat", sum := "63881463b2a1befd655fb51e20b0aebb920b1bc3aeafb4379a3b3169281454a8", func := "loop.example/g00806/laws.FnExactIntervals", spec := "fnExactIntervals", unfollowed := true, recurses := true, apart := false, narrowed := true }
def FnExactIntervalsUptoSaid : Prop := fnExactIntervalsUptoRow.holds Tryz.pinned (OpenSpec.upto fnExactIntervalsSpec)

/-- 'laws.FnExactLowerBound', WHERE WHAT IT READS IS OF BULK AT MOST 1048576: true; the input reads as it did. -/
def fnExactLowerBoundUptoRow : OpenClaim := { program := "ytjncefleglnnjaagreat", sum := "63881463b2a1befd655fb51e20b0aebb920b1bc3aeafb4379a3b3169281454a8", func := "loop.example/g00806/laws.FnExactLowerBound", spec := "fnExactLowerBound", unfollowed := true, recurses := true, apart := false, narrowed := true }
def FnExactLowerBoundUptoSaid : Prop := fnExactLowerBoundUptoRow.holds Tryz.pinned (OpenSpec.upto fnExactLowerBoundSpec)

/-- 'laws.FnExactCandidateRules', WHERE WHAT IT READS IS OF BULK AT MOST 1048576: true; the input reads as it did. -/
def fnExactCandidateRulesUptoRow : OpenClaim := { program := "ytjncefleglnnjaagreat", sum := "63881463b2a1befd655fb51e20b0aebb920b1bc3aeafb4379a3b3169281454a8", func := "loop.example/g00806/laws.FnExactCandidateRules", spec := "fnExactCandidateRules", unfollowed := true, recurses := true, apart := false, narrowed := true }
def FnExactCandidateRulesUptoSaid : Prop := fnExactCandidateRulesUptoRow.holds Tryz.pinned (OpenSpec.upto fnExactCandidateRulesSpec)

end Rows
end Go.Proofs.YtjncefleglnnjaaGreat
