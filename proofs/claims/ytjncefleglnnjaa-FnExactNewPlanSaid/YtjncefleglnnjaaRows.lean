/-
  No cell of these rows narrows 'for every input' (looked for: loops, veiled, ifaces, maps, wideKeys, modest, calm, conditions, laid).
  DERIVED. THE GIVEN ROWS OF THIS SEAT. 13 by the template 'for every input the law returns true; each argument reads behind the call as it read before'; 0 by the template 'total and deterministic' (their statements: YtjncefleglnnjaaTotals.lean).
  GIVEN WITH THE SEED: the statements are not yours to turn. If you find one false, say at which input.
  Laid BY PROGRAM, IN A SANDBOX (cutbox-rows.mjs): the forced cells as the released guide's own fill.sh prints them over the translation 2ad83e74c9e58a49… (all of the seat's roots in one cut). By AI agents, Wed Nov 11 2026. No macro, syntax, notation, axiom, sorry.
-/
import Derived.Test.YtjncefleglnnjaaChecked
import GoSem.Claim
import GoSem.ClaimJoined
import GoSem.ClaimMapViews
import Derived.JoinedTies
import Derived.KernelRfl
namespace Go.Proofs.Ytjncefleglnnjaa
/- THE CELL 'sum', in the pinned program and in every row, IS THE sha256 OF THE DUMP (.gsa) THAT YtjncefleglnnjaaProg.lean LOADS. Nothing in Lean hashes anything: it is a label: what it is worth is what the hold of that sum in a sandbox is worth. -/
noncomputable def Try.pinned : Pinned := { name := "ytjncefleglnnjaa", sum := "2ad83e74c9e58a49c7c5df172c2f3d49c5a4a258cda1720ac3358b5dbcd8c6f4", checked := Try.checked }
namespace Rows
def none {H : Type} : Left H := { results := [], args := [] }

/-- 'laws.FnExactCapacityIn': WHATEVER THE INPUT: true; the input reads as it did. -/
def fnExactCapacityInSpec : ChangeSpec := { name := "fnExactCapacityIn", fn := fun _ => fun
  | [d1, d2, d3, d4] => { results := [.lit (.bool true)], args := [d1, d2, d3, d4] }
  | _ => none }
def fnExactCapacityInRow : OpenClaim := { program := "ytjncefleglnnjaa", sum := "2ad83e74c9e58a49c7c5df172c2f3d49c5a4a258cda1720ac3358b5dbcd8c6f4", func := "loop.example/g00806/laws.FnExactCapacityIn", spec := "fnExactCapacityIn", unfollowed := true, recurses := true, apart := false }
def FnExactCapacityInSaid : Prop := fnExactCapacityInRow.holds Try.pinned (OpenSpec.ofChange fnExactCapacityInSpec)

/-- ITS FALSE NEIGHBOUR: 'it returns false'. Refute it at one input. -/
def fnExactCapacityInWrong : ChangeSpec := { name := "fnExactCapacityIn", fn := fun _ => fun
  | [d1, d2, d3, d4] => { results := [.lit (.bool false)], args := [d1, d2, d3, d4] }
  | _ => none }
def FnExactCapacityInWrongFalsely : Prop := fnExactCapacityInRow.holds Try.pinned (OpenSpec.ofChange fnExactCapacityInWrong)

/-- 'laws.FnExactChooseMode': WHATEVER THE INPUT: true; the input reads as it did. -/
def fnExactChooseModeSpec : ChangeSpec := { name := "fnExactChooseMode", fn := fun _ => fun
  | [d1, d2, d3] => { results := [.lit (.bool true)], args := [d1, d2, d3] }
  | _ => none }
def fnExactChooseModeRow : OpenClaim := { program := "ytjncefleglnnjaa", sum := "2ad83e74c9e58a49c7c5df172c2f3d49c5a4a258cda1720ac3358b5dbcd8c6f4", func := "loop.example/g00806/laws.FnExactChooseMode", spec := "fnExactChooseMode", unfollowed := true, recurses := true, apart := false }
def FnExactChooseModeSaid : Prop := fnExactChooseModeRow.holds Try.pinned (OpenSpec.ofChange fnExactChooseModeSpec)

/-- ITS FALSE NEIGHBOUR: 'it returns false'. Refute it at one input. -/
def fnExactChooseModeWrong : ChangeSpec := { name := "fnExactChooseMode", fn := fun _ => fun
  | [d1, d2, d3] => { results := [.lit (.bool false)], args := [d1, d2, d3] }
  | _ => none }
def FnExactChooseModeWrongFalsely : Prop := fnExactChooseModeRow.holds Try.pinned (OpenSpec.ofChange fnExactChooseModeWrong)

/-- 'laws.FnExactClauseOk': WHATEVER THE INPUT: true; the input reads as it did. -/
def fnExactClauseOkSpec : ChangeSpec := { name := "fnExactClauseOk", fn := fun _ => fun
  | [d1, d2] => { results := [.lit (.bool true)], args := [d1, d2] }
  | _ => none }
def fnExactClauseOkRow : OpenClaim := { program := "ytjncefleglnnjaa", sum := "2ad83e74c9e58a49c7c5df172c2f3d49c5a4a258cda1720ac3358b5dbcd8c6f4", func := "loop.example/g00806/laws.FnExactClauseOk", spec := "fnExactClauseOk", unfollowed := true, recurses := true, apart := false }
def FnExactClauseOkSaid : Prop := fnExactClauseOkRow.holds Try.pinned (OpenSpec.ofChange fnExactClauseOkSpec)

/-- ITS FALSE NEIGHBOUR: 'it returns false'. Refute it at one input. -/
def fnExactClauseOkWrong : ChangeSpec := { name := "fnExactClauseOk", fn := fun _ => fun
  | [d1, d2] => { results := [.lit (.bool false)], args := [d1, d2] }
  | _ => none }
def FnExactClauseOkWrongFalsely : Prop := fnExactClauseOkRow.holds Try.pinned (OpenSpec.ofChange fnExactClauseOkWrong)

/-- 'laws.FnExactPlanOk': WHATEVER THE INPUT: true; the input reads as it did. -/
def fnExactPlanOkSpec : ChangeSpec := { name := "fnExactPlanOk", fn := fun _ => fun
  | [d1, d2] => { results := [.lit (.bool true)], args := [d1, d2] }
  | _ => none }
def fnExactPlanOkRow : OpenClaim := { program := "ytjncefleglnnjaa", sum := "2ad83e74c9e58a49c7c5df172c2f3d49c5a4a258cda1720ac3358b5dbcd8c6f4", func := "loop.example/g00806/laws.FnExactPlanOk", spec := "fnExactPlanOk", unfollowed := true, recurses := true, apart := false }
def FnExactPlanOkSaid : Prop := fnExactPlanOkRow.holds Try.pinned (OpenSpec.ofChange fnExactPlanOkSpec)

/-- ITS FALSE NEIGHBOUR: 'it returns false'. Refute it at one input. -/
def fnExactPlanOkWrong : ChangeSpec := { name := "fnExactPlanOk", fn := fun _ => fun
  | [d1, d2] => { results := [.lit (.bool false)], args := [d1, d2] }
  | _ => none }
def FnExactPlanOkWrongFalsely : Prop := fnExactPlanOkRow.holds Try.pinned (OpenSpec.ofChange fnExactPlanOkWrong)

/-- 'laws.FnExactNewPlan': WHATEVER THE INPUT: true; the input reads as it did. -/
def fnExactNewPlanSpec : ChangeSpec := { name := "fnExactNewPlan", fn := fun _ => fun
  | [d] => { results := [.lit (.bool true)], args := [d] }
  | _ => none }
def fnExactNewPlanRow : OpenClaim := { program := "ytjncefleglnnjaa", sum := "2ad83e74c9e58a49c7c5df172c2f3d49c5a4a258cda1720ac3358b5dbcd8c6f4", func := "loop.example/g00806/laws.FnExactNewPlan", spec := "fnExactNewPlan", unfollowed := true, recurses := true, apart := false }
def FnExactNewPlanSaid : Prop := fnExactNewPlanRow.holds Try.pinned (OpenSpec.ofChange fnExactNewPlanSpec)

/-- ITS FALSE NEIGHBOUR: 'it returns false'. Refute it at one input. -/
def fnExactNewPlanWrong : ChangeSpec := { name := "fnExactNewPlan", fn := fun _ => fun
  | [d] => { results := [.lit (.bool false)], args := [d] }
  | _ => none }
def FnExactNewPlanWrongFalsely : Prop := fnExactNewPlanRow.holds Try.pinned (OpenSpec.ofChange fnExactNewPlanWrong)

/-- 'laws.FnExactLogEqual': WHATEVER THE INPUT: true; the input reads as it did. -/
def fnExactLogEqualSpec : ChangeSpec := { name := "fnExactLogEqual", fn := fun _ => fun
  | [d1, d2] => { results := [.lit (.bool true)], args := [d1, d2] }
  | _ => none }
def fnExactLogEqualRow : OpenClaim := { program := "ytjncefleglnnjaa", sum := "2ad83e74c9e58a49c7c5df172c2f3d49c5a4a258cda1720ac3358b5dbcd8c6f4", func := "loop.example/g00806/laws.FnExactLogEqual", spec := "fnExactLogEqual", unfollowed := true, recurses := true, apart := false }
def FnExactLogEqualSaid : Prop := fnExactLogEqualRow.holds Try.pinned (OpenSpec.ofChange fnExactLogEqualSpec)

/-- ITS FALSE NEIGHBOUR: 'it returns false'. Refute it at one input. -/
def fnExactLogEqualWrong : ChangeSpec := { name := "fnExactLogEqual", fn := fun _ => fun
  | [d1, d2] => { results := [.lit (.bool false)], args := [d1, d2] }
  | _ => none }
def FnExactLogEqualWrongFalsely : Prop := fnExactLogEqualRow.holds Try.pinned (OpenSpec.ofChange fnExactLogEqualWrong)

/-- 'laws.FnExactLineOk': WHATEVER THE INPUT: true; the input reads as it did. -/
def fnExactLineOkSpec : ChangeSpec := { name := "fnExactLineOk", fn := fun _ => fun
  | [d1, d2] => { results := [.lit (.bool true)], args := [d1, d2] }
  | _ => none }
def fnExactLineOkRow : OpenClaim := { program := "ytjncefleglnnjaa", sum := "2ad83e74c9e58a49c7c5df172c2f3d49c5a4a258cda1720ac3358b5dbcd8c6f4", func := "loop.example/g00806/laws.FnExactLineOk", spec := "fnExactLineOk", unfollowed := true, recurses := true, apart := false }
def FnExactLineOkSaid : Prop := fnExactLineOkRow.holds Try.pinned (OpenSpec.ofChange fnExactLineOkSpec)

/-- ITS FALSE NEIGHBOUR: 'it returns false'. Refute it at one input. -/
def fnExactLineOkWrong : ChangeSpec := { name := "fnExactLineOk", fn := fun _ => fun
  | [d1, d2] => { results := [.lit (.bool false)], args := [d1, d2] }
  | _ => none }
def FnExactLineOkWrongFalsely : Prop := fnExactLineOkRow.holds Try.pinned (OpenSpec.ofChange fnExactLineOkWrong)

/-- 'laws.FnExactShortestDuration': WHATEVER THE INPUT: true; the input reads as it did. -/
def fnExactShortestDurationSpec : ChangeSpec := { name := "fnExactShortestDuration", fn := fun _ => fun
  | [d1, d2, d3] => { results := [.lit (.bool true)], args := [d1, d2, d3] }
  | _ => none }
def fnExactShortestDurationRow : OpenClaim := { program := "ytjncefleglnnjaa", sum := "2ad83e74c9e58a49c7c5df172c2f3d49c5a4a258cda1720ac3358b5dbcd8c6f4", func := "loop.example/g00806/laws.FnExactShortestDuration", spec := "fnExactShortestDuration", unfollowed := true, recurses := true, apart := false }
def FnExactShortestDurationSaid : Prop := fnExactShortestDurationRow.holds Try.pinned (OpenSpec.ofChange fnExactShortestDurationSpec)

/-- ITS FALSE NEIGHBOUR: 'it returns false'. Refute it at one input. -/
def fnExactShortestDurationWrong : ChangeSpec := { name := "fnExactShortestDuration", fn := fun _ => fun
  | [d1, d2, d3] => { results := [.lit (.bool false)], args := [d1, d2, d3] }
  | _ => none }
def FnExactShortestDurationWrongFalsely : Prop := fnExactShortestDurationRow.holds Try.pinned (OpenSpec.ofChange fnExactShortestDurationWrong)

/-- 'laws.FnExactCompulsoryPart': WHATEVER THE INPUT: true; the input reads as it did. -/
def fnExactCompulsoryPartSpec : ChangeSpec := { name := "fnExactCompulsoryPart", fn := fun _ => fun
  | [d1, d2, d3] => { results := [.lit (.bool true)], args := [d1, d2, d3] }
  | _ => none }
def fnExactCompulsoryPartRow : OpenClaim := { program := "ytjncefleglnnjaa", sum := "2ad83e74c9e58a49c7c5df172c2f3d49c5a4a258cda1720ac3358b5dbcd8c6f4", func := "loop.example/g00806/laws.FnExactCompulsoryPart", spec := "fnExactCompulsoryPart", unfollowed := true, recurses := true, apart := false }
def FnExactCompulsoryPartSaid : Prop := fnExactCompulsoryPartRow.holds Try.pinned (OpenSpec.ofChange fnExactCompulsoryPartSpec)

/-- ITS FALSE NEIGHBOUR: 'it returns false'. Refute it at one input. -/
def fnExactCompulsoryPartWrong : ChangeSpec := { name := "fnExactCompulsoryPart", fn := fun _ => fun
  | [d1, d2, d3] => { results := [.lit (.bool false)], args := [d1, d2, d3] }
  | _ => none }
def FnExactCompulsoryPartWrongFalsely : Prop := fnExactCompulsoryPartRow.holds Try.pinned (OpenSpec.ofChange fnExactCompulsoryPartWrong)

/-- 'laws.FnExactChooseDecision': WHATEVER THE INPUT: true; the input reads as it did. -/
def fnExactChooseDecisionSpec : ChangeSpec := { name := "fnExactChooseDecision", fn := fun _ => fun
  | [d1, d2] => { results := [.lit (.bool true)], args := [d1, d2] }
  | _ => none }
def fnExactChooseDecisionRow : OpenClaim := { program := "ytjncefleglnnjaa", sum := "2ad83e74c9e58a49c7c5df172c2f3d49c5a4a258cda1720ac3358b5dbcd8c6f4", func := "loop.example/g00806/laws.FnExactChooseDecision", spec := "fnExactChooseDecision", unfollowed := true, recurses := true, apart := false }
def FnExactChooseDecisionSaid : Prop := fnExactChooseDecisionRow.holds Try.pinned (OpenSpec.ofChange fnExactChooseDecisionSpec)

/-- ITS FALSE NEIGHBOUR: 'it returns false'. Refute it at one input. -/
def fnExactChooseDecisionWrong : ChangeSpec := { name := "fnExactChooseDecision", fn := fun _ => fun
  | [d1, d2] => { results := [.lit (.bool false)], args := [d1, d2] }
  | _ => none }
def FnExactChooseDecisionWrongFalsely : Prop := fnExactChooseDecisionRow.holds Try.pinned (OpenSpec.ofChange fnExactChooseDecisionWrong)

/-- 'laws.FnExactMinWorkIn': WHATEVER THE INPUT: true; the input reads as it did. -/
def fnExactMinWorkInSpec : ChangeSpec := { name := "fnExactMinWorkIn", fn := fun _ => fun
  | [d1, d2, d3, d4, d5, d6] => { results := [.lit (.bool true)], args := [d1, d2, d3, d4, d5, d6] }
  | _ => none }
def fnExactMinWorkInRow : OpenClaim := { program := "ytjncefleglnnjaa", sum := "2ad83e74c9e58a49c7c5df172c2f3d49c5a4a258cda1720ac3358b5dbcd8c6f4", func := "loop.example/g00806/laws.FnExactMinWorkIn", spec := "fnExactMinWorkIn", unfollowed := true, recurses := true, apart := false }
def FnExactMinWorkInSaid : Prop := fnExactMinWorkInRow.holds Try.pinned (OpenSpec.ofChange fnExactMinWorkInSpec)

/-- ITS FALSE NEIGHBOUR: 'it returns false'. Refute it at one input. -/
def fnExactMinWorkInWrong : ChangeSpec := { name := "fnExactMinWorkIn", fn := fun _ => fun
  | [d1, d2, d3, d4, d5, d6] => { results := [.lit (.bool false)], args := [d1, d2, d3, d4, d5, d6] }
  | _ => none }
def FnExactMinWorkInWrongFalsely : Prop := fnExactMinWorkInRow.holds Try.pinned (OpenSpec.ofChange fnExactMinWorkInWrong)

/-- 'laws.FnExactTotalWorkIn': WHATEVER THE INPUT: true; the input reads as it did. -/
def fnExactTotalWorkInSpec : ChangeSpec := { name := "fnExactTotalWorkIn", fn := fun _ => fun
  | [d1, d2, d3, d4, d5] => { results := [.lit (.bool true)], args := [d1, d2, d3, d4, d5] }
  | _ => none }
def fnExactTotalWorkInRow : OpenClaim := { program := "ytjncefleglnnjaa", sum := "2ad83e74c9e58a49c7c5df172c2f3d49c5a4a258cda1720ac3358b5dbcd8c6f4", func := "loop.example/g00806/laws.FnExactTotalWorkIn", spec := "fnExactTotalWorkIn", unfollowed := true, recurses := true, apart := false }
def FnExactTotalWorkInSaid : Prop := fnExactTotalWorkInRow.holds Try.pinned (OpenSpec.ofChange fnExactTotalWorkInSpec)

/-- ITS FALSE NEIGHBOUR: 'it returns false'. Refute it at one input. -/
def fnExactTotalWorkInWrong : ChangeSpec := { name := "fnExactTotalWorkIn", fn := fun _ => fun
  | [d1, d2, d3, d4, d5] => { results := [.lit (.bool false)], args := [d1, d2, d3, d4, d5] }
  | _ => none }
def FnExactTotalWorkInWrongFalsely : Prop := fnExactTotalWorkInRow.holds Try.pinned (OpenSpec.ofChange fnExactTotalWorkInWrong)

/-- 'laws.FnExactInfeasibleByLinks': WHATEVER THE INPUT: true; the input reads as it did. -/
def fnExactInfeasibleByLinksSpec : ChangeSpec := { name := "fnExactInfeasibleByLinks", fn := fun _ => fun
  | [d] => { results := [.lit (.bool true)], args := [d] }
  | _ => none }
def fnExactInfeasibleByLinksRow : OpenClaim := { program := "ytjncefleglnnjaa", sum := "2ad83e74c9e58a49c7c5df172c2f3d49c5a4a258cda1720ac3358b5dbcd8c6f4", func := "loop.example/g00806/laws.FnExactInfeasibleByLinks", spec := "fnExactInfeasibleByLinks", unfollowed := true, recurses := true, apart := false }
def FnExactInfeasibleByLinksSaid : Prop := fnExactInfeasibleByLinksRow.holds Try.pinned (OpenSpec.ofChange fnExactInfeasibleByLinksSpec)

/-- ITS FALSE NEIGHBOUR: 'it returns false'. Refute it at one input. -/
def fnExactInfeasibleByLinksWrong : ChangeSpec := { name := "fnExactInfeasibleByLinks", fn := fun _ => fun
  | [d] => { results := [.lit (.bool false)], args := [d] }
  | _ => none }
def FnExactInfeasibleByLinksWrongFalsely : Prop := fnExactInfeasibleByLinksRow.holds Try.pinned (OpenSpec.ofChange fnExactInfeasibleByLinksWrong)

/- THE SECOND FORM. 'bulk': how many values and letters a reading holds, each counted each time it is reached (what is shared counts as often as it is met; a slice's spare places count too). A statement '..UptoSaid' is the law's where the arguments, and the package variables that the reading takes, are together of bulk at most 1048576: NARROWER than '..Said'. Prove '..Said' where nothing that the law and all that it calls make is longer than what came in: it says more and counts as full. Else prove '..UptoSaid'. A law counts once. -/
mutual
def uptoBulk {H : Type} : DataW H → Nat
  | .lit (.string bytes) => bytes.length + 1
  | .lit _ => 1
  | .nil => 1
  | .ptr d => uptoBulk d + 1
  | .slice elems spare => uptoBulkAll elems + uptoBulkAll spare + 1
  | .agg parts => uptoBulkAll parts + 1
  | .iface _ d => uptoBulk d + 1
  | .map entries => uptoBulkEntries entries + 1
  | .held _ => 1
def uptoBulkAll {H : Type} : List (DataW H) → Nat
  | [] => 0
  | d :: r => uptoBulk d + uptoBulkAll r
def uptoBulkEntries {H : Type} : List (Lit × DataW H) → Nat
  | [] => 0
  | x :: r => uptoBulkEntry x + uptoBulkEntries r
def uptoBulkEntry {H : Type} : Lit × DataW H → Nat
  | (.string bytes, d) => bytes.length + uptoBulk d + 1
  | (_, d) => uptoBulk d + 1
 end
def uptoSmall : (H : Type) → List (DataW H) → Bool := fun _ ds => decide (uptoBulkAll ds ≤ 1048576)
def OpenSpec.upto (s : _root_.Go.ChangeSpec) : _root_.Go.OpenSpec := { _root_.Go.OpenSpec.ofChange s with cond := some uptoSmall }

/-- 'laws.FnExactCapacityIn', WHERE WHAT IT READS IS OF BULK AT MOST 1048576: true; the input reads as it did. -/
def fnExactCapacityInUptoRow : OpenClaim := { program := "ytjncefleglnnjaa", sum := "2ad83e74c9e58a49c7c5df172c2f3d49c5a4a258cda1720ac3358b5dbcd8c6f4", func := "loop.example/g00806/laws.FnExactCapacityIn", spec := "fnExactCapacityIn", unfollowed := true, recurses := true, apart := false, narrowed := true }
def FnExactCapacityInUptoSaid : Prop := fnExactCapacityInUptoRow.holds Try.pinned (OpenSpec.upto fnExactCapacityInSpec)

/-- 'laws.FnExactChooseMode', WHERE WHAT IT READS IS OF BULK AT MOST 1048576: true; the input reads as it did. -/
def fnExactChooseModeUptoRow : OpenClaim := { program := "ytjncefleglnnjaa", sum := "2ad83e74c9e58a49c7c5df172c2f3d49c5a4a258cda1720ac3358b5dbcd8c6f4", func := "loop.example/g00806/laws.FnExactChooseMode", spec := "fnExactChooseMode", unfollowed := true, recurses := true, apart := false, narrowed := true }
def FnExactChooseModeUptoSaid : Prop := fnExactChooseModeUptoRow.holds Try.pinned (OpenSpec.upto fnExactChooseModeSpec)

/-- 'laws.FnExactClauseOk', WHERE WHAT IT READS IS OF BULK AT MOST 1048576: true; the input reads as it did. -/
def fnExactClauseOkUptoRow : OpenClaim := { program := "ytjncefleglnnjaa", sum := "2ad83e74c9e58a49c7c5df172c2f3d49c5a4a258cda1720ac3358b5dbcd8c6f4", func := "loop.example/g00806/laws.FnExactClauseOk", spec := "fnExactClauseOk", unfollowed := true, recurses := true, apart := false, narrowed := true }
def FnExactClauseOkUptoSaid : Prop := fnExactClauseOkUptoRow.holds Try.pinned (OpenSpec.upto fnExactClauseOkSpec)

/-- 'laws.FnExactPlanOk', WHERE WHAT IT READS IS OF BULK AT MOST 1048576: true; the input reads as it did. -/
def fnExactPlanOkUptoRow : OpenClaim := { program := "ytjncefleglnnjaa", sum := "2ad83e74c9e58a49c7c5df172c2f3d49c5a4a258cda1720ac3358b5dbcd8c6f4", func := "loop.example/g00806/laws.FnExactPlanOk", spec := "fnExactPlanOk", unfollowed := true, recurses := true, apart := false, narrowed := true }
def FnExactPlanOkUptoSaid : Prop := fnExactPlanOkUptoRow.holds Try.pinned (OpenSpec.upto fnExactPlanOkSpec)

/-- 'laws.FnExactNewPlan', WHERE WHAT IT READS IS OF BULK AT MOST 1048576: true; the input reads as it did. -/
def fnExactNewPlanUptoRow : OpenClaim := { program := "ytjncefleglnnjaa", sum := "2ad83e74c9e58a49c7c5df172c2f3d49c5a4a258cda1720ac3358b5dbcd8c6f4", func := "loop.example/g00806/laws.FnExactNewPlan", spec := "fnExactNewPlan", unfollowed := true, recurses := true, apart := false, narrowed := true }
def FnExactNewPlanUptoSaid : Prop := fnExactNewPlanUptoRow.holds Try.pinned (OpenSpec.upto fnExactNewPlanSpec)

/-- 'laws.FnExactLogEqual', WHERE WHAT IT READS IS OF BULK AT MOST 1048576: true; the input reads as it did. -/
def fnExactLogEqualUptoRow : OpenClaim := { program := "ytjncefleglnnjaa", sum := "2ad83e74c9e58a49c7c5df172c2f3d49c5a4a258cda1720ac3358b5dbcd8c6f4", func := "loop.example/g00806/laws.FnExactLogEqual", spec := "fnExactLogEqual", unfollowed := true, recurses := true, apart := false, narrowed := true }
def FnExactLogEqualUptoSaid : Prop := fnExactLogEqualUptoRow.holds Try.pinned (OpenSpec.upto fnExactLogEqualSpec)

/-- 'laws.FnExactLineOk', WHERE WHAT IT READS IS OF BULK AT MOST 1048576: true; the input reads as it did. -/
def fnExactLineOkUptoRow : OpenClaim := { program := "ytjncefleglnnjaa", sum := "2ad83e74c9e58a49c7c5df172c2f3d49c5a4a258cda1720ac3358b5dbcd8c6f4", func := "loop.example/g00806/laws.FnExactLineOk", spec := "fnExactLineOk", unfollowed := true, recurses := true, apart := false, narrowed := true }
def FnExactLineOkUptoSaid : Prop := fnExactLineOkUptoRow.holds Try.pinned (OpenSpec.upto fnExactLineOkSpec)

/-- 'laws.FnExactShortestDuration', WHERE WHAT IT READS IS OF BULK AT MOST 1048576: true; the input reads as it did. -/
def fnExactShortestDurationUptoRow : OpenClaim := { program := "ytjncefleglnnjaa", sum := "2ad83e74c9e58a49c7c5df172c2f3d49c5a4a258cda1720ac3358b5dbcd8c6f4", func := "loop.example/g00806/laws.FnExactShortestDuration", spec := "fnExactShortestDuration", unfollowed := true, recurses := true, apart := false, narrowed := true }
def FnExactShortestDurationUptoSaid : Prop := fnExactShortestDurationUptoRow.holds Try.pinned (OpenSpec.upto fnExactShortestDurationSpec)

/-- 'laws.FnExactCompulsoryPart', WHERE WHAT IT READS IS OF BULK AT MOST 1048576: true; the input reads as it did. -/
def fnExactCompulsoryPartUptoRow : OpenClaim := { program := "ytjncefleglnnjaa", sum := "2ad83e74c9e58a49c7c5df172c2f3d49c5a4a258cda1720ac3358b5dbcd8c6f4", func := "loop.example/g00806/laws.FnExactCompulsoryPart", spec := "fnExactCompulsoryPart", unfollowed := true, recurses := true, apart := false, narrowed := true }
def FnExactCompulsoryPartUptoSaid : Prop := fnExactCompulsoryPartUptoRow.holds Try.pinned (OpenSpec.upto fnExactCompulsoryPartSpec)

/-- 'laws.FnExactChooseDecision', WHERE WHAT IT READS IS OF BULK AT MOST 1048576: true; the input reads as it did. -/
def fnExactChooseDecisionUptoRow : OpenClaim := { program := "ytjncefleglnnjaa", sum := "2ad83e74c9e58a49c7c5df172c2f3d49c5a4a258cda1720ac3358b5dbcd8c6f4", func := "loop.example/g00806/laws.FnExactChooseDecision", spec := "fnExactChooseDecision", unfollowed := true, recurses := true, apart := false, narrowed := true }
def FnExactChooseDecisionUptoSaid : Prop := fnExactChooseDecisionUptoRow.holds Try.pinned (OpenSpec.upto fnExactChooseDecisionSpec)

/-- 'laws.FnExactMinWorkIn', WHERE WHAT IT READS IS OF BULK AT MOST 1048576: true; the input reads as it did. -/
def fnExactMinWorkInUptoRow : OpenClaim := { program := "ytjncefleglnnjaa", sum := "2ad83e74c9e58a49c7c5df172c2f3d49c5a4a258cda1720ac3358b5dbcd8c6f4", func := "loop.example/g00806/laws.FnExactMinWorkIn", spec := "fnExactMinWorkIn", unfollowed := true, recurses := true, apart := false, narrowed := true }
def FnExactMinWorkInUptoSaid : Prop := fnExactMinWorkInUptoRow.holds Try.pinned (OpenSpec.upto fnExactMinWorkInSpec)

/-- 'laws.FnExactTotalWorkIn', WHERE WHAT IT READS IS OF BULK AT MOST 1048576: true; the input reads as it did. -/
def fnExactTotalWorkInUptoRow : OpenClaim := { program := "ytjncefleglnnjaa", sum := "2ad83e74c9e58a49c7c5df172c2f3d49c5a4a258cda1720ac3358b5dbcd8c6f4", func := "loop.example/g00806/laws.FnExactTotalWorkIn", spec := "fnExactTotalWorkIn", unfollowed := true, recurses := true, apart := false, narrowed := true }
def FnExactTotalWorkInUptoSaid : Prop := fnExactTotalWorkInUptoRow.holds Try.pinned (OpenSpec.upto fnExactTotalWorkInSpec)

/-- 'laws.FnExactInfeasibleByLinks', WHERE WHAT IT READS IS OF BULK AT MOST 1048576: true; the input reads as it did. -/
def fnExactInfeasibleByLinksUptoRow : OpenClaim := { program := "ytjncefleglnnjaa", sum := "2ad83e74c9e58a49c7c5df172c2f3d49c5a4a258cda1720ac3358b5dbcd8c6f4", func := "loop.example/g00806/laws.FnExactInfeasibleByLinks", spec := "fnExactInfeasibleByLinks", unfollowed := true, recurses := true, apart := false, narrowed := true }
def FnExactInfeasibleByLinksUptoSaid : Prop := fnExactInfeasibleByLinksUptoRow.holds Try.pinned (OpenSpec.upto fnExactInfeasibleByLinksSpec)

end Rows
end Go.Proofs.Ytjncefleglnnjaa
