/-
  No cell of these rows narrows 'for every input' (looked for: loops, veiled, ifaces, maps, wideKeys, modest, calm, conditions, laid).
  DERIVED. THE GIVEN ROWS OF THIS SEAT. 6 by the template 'for every input the law returns true; each argument reads behind the call as it read before'; 0 by the template 'total and deterministic' (their statements: YthdejnjjdihmfaaTotals.lean).
  GIVEN WITH THE SEED: the statements are not yours to turn. If you find one false, say at which input.
  Laid BY PROGRAM, IN A SANDBOX (cutbox-rows.mjs): the forced cells as the released guide's own fill.sh prints them over the translation 17cee3b8255dc680… (all of the seat's roots in one cut). By AI agents, Wed Nov 11 2026. No macro, syntax, notation, axiom, sorry.
-/
import Derived.Test.YthdejnjjdihmfaaChecked
import GoSem.Claim
import GoSem.ClaimJoined
import GoSem.ClaimMapViews
import Derived.JoinedTies
import Derived.KernelRfl
namespace Go.Proofs.Ythdejnjjdihmfaa
/- THE CELL 'sum', in the pinned program and in every row, IS THE sha256 OF THE DUMP (.gsa) THAT YthdejnjjdihmfaaProg.lean LOADS. Nothing in Lean hashes anything: it is a label: what it is worth is what the hold of that sum in a sandbox is worth. -/
noncomputable def Try.pinned : Pinned := { name := "ythdejnjjdihmfaa", sum := "17cee3b8255dc68081944fb053a9b196464f2777239fbbe8d77dea46a99031b4", checked := Try.checked }
namespace Rows
def none {H : Type} : Left H := { results := [], args := [] }

/-- 'laws.FnExactCheckName': WHATEVER THE INPUT: true; the input reads as it did. -/
def fnExactCheckNameSpec : ChangeSpec := { name := "fnExactCheckName", fn := fun _ => fun
  | [d] => { results := [.lit (.bool true)], args := [d] }
  | _ => none }
def fnExactCheckNameRow : OpenClaim := { program := "ythdejnjjdihmfaa", sum := "17cee3b8255dc68081944fb053a9b196464f2777239fbbe8d77dea46a99031b4", func := "loop.example/g00806/laws.FnExactCheckName", spec := "fnExactCheckName", apart := false }
def FnExactCheckNameSaid : Prop := fnExactCheckNameRow.holds Try.pinned (OpenSpec.ofChange fnExactCheckNameSpec)

/-- ITS FALSE NEIGHBOUR: 'it returns false'. Refute it at one input. -/
def fnExactCheckNameWrong : ChangeSpec := { name := "fnExactCheckName", fn := fun _ => fun
  | [d] => { results := [.lit (.bool false)], args := [d] }
  | _ => none }
def FnExactCheckNameWrongFalsely : Prop := fnExactCheckNameRow.holds Try.pinned (OpenSpec.ofChange fnExactCheckNameWrong)

/-- 'laws.FnExactPriorityName': WHATEVER THE INPUT: true; the input reads as it did. -/
def fnExactPriorityNameSpec : ChangeSpec := { name := "fnExactPriorityName", fn := fun _ => fun
  | [d] => { results := [.lit (.bool true)], args := [d] }
  | _ => none }
def fnExactPriorityNameRow : OpenClaim := { program := "ythdejnjjdihmfaa", sum := "17cee3b8255dc68081944fb053a9b196464f2777239fbbe8d77dea46a99031b4", func := "loop.example/g00806/laws.FnExactPriorityName", spec := "fnExactPriorityName", apart := false }
def FnExactPriorityNameSaid : Prop := fnExactPriorityNameRow.holds Try.pinned (OpenSpec.ofChange fnExactPriorityNameSpec)

/-- ITS FALSE NEIGHBOUR: 'it returns false'. Refute it at one input. -/
def fnExactPriorityNameWrong : ChangeSpec := { name := "fnExactPriorityName", fn := fun _ => fun
  | [d] => { results := [.lit (.bool false)], args := [d] }
  | _ => none }
def FnExactPriorityNameWrongFalsely : Prop := fnExactPriorityNameRow.holds Try.pinned (OpenSpec.ofChange fnExactPriorityNameWrong)

/-- 'laws.FnExactOverlap': WHATEVER THE INPUT: true; the input reads as it did. -/
def fnExactOverlapSpec : ChangeSpec := { name := "fnExactOverlap", fn := fun _ => fun
  | [d1, d2, d3, d4] => { results := [.lit (.bool true)], args := [d1, d2, d3, d4] }
  | _ => none }
def fnExactOverlapRow : OpenClaim := { program := "ythdejnjjdihmfaa", sum := "17cee3b8255dc68081944fb053a9b196464f2777239fbbe8d77dea46a99031b4", func := "loop.example/g00806/laws.FnExactOverlap", spec := "fnExactOverlap", apart := false }
def FnExactOverlapSaid : Prop := fnExactOverlapRow.holds Try.pinned (OpenSpec.ofChange fnExactOverlapSpec)

/-- ITS FALSE NEIGHBOUR: 'it returns false'. Refute it at one input. -/
def fnExactOverlapWrong : ChangeSpec := { name := "fnExactOverlap", fn := fun _ => fun
  | [d1, d2, d3, d4] => { results := [.lit (.bool false)], args := [d1, d2, d3, d4] }
  | _ => none }
def FnExactOverlapWrongFalsely : Prop := fnExactOverlapRow.holds Try.pinned (OpenSpec.ofChange fnExactOverlapWrong)

/-- 'laws.FnExactPlanEqual': WHATEVER THE INPUT: true; the input reads as it did. -/
def fnExactPlanEqualSpec : ChangeSpec := { name := "fnExactPlanEqual", fn := fun _ => fun
  | [d1, d2] => { results := [.lit (.bool true)], args := [d1, d2] }
  | _ => none }
def fnExactPlanEqualRow : OpenClaim := { program := "ythdejnjjdihmfaa", sum := "17cee3b8255dc68081944fb053a9b196464f2777239fbbe8d77dea46a99031b4", func := "loop.example/g00806/laws.FnExactPlanEqual", spec := "fnExactPlanEqual", apart := false }
def FnExactPlanEqualSaid : Prop := fnExactPlanEqualRow.holds Try.pinned (OpenSpec.ofChange fnExactPlanEqualSpec)

/-- ITS FALSE NEIGHBOUR: 'it returns false'. Refute it at one input. -/
def fnExactPlanEqualWrong : ChangeSpec := { name := "fnExactPlanEqual", fn := fun _ => fun
  | [d1, d2] => { results := [.lit (.bool false)], args := [d1, d2] }
  | _ => none }
def FnExactPlanEqualWrongFalsely : Prop := fnExactPlanEqualRow.holds Try.pinned (OpenSpec.ofChange fnExactPlanEqualWrong)

/-- 'laws.FnExactLineEqual': WHATEVER THE INPUT: true; the input reads as it did. -/
def fnExactLineEqualSpec : ChangeSpec := { name := "fnExactLineEqual", fn := fun _ => fun
  | [d1, d2] => { results := [.lit (.bool true)], args := [d1, d2] }
  | _ => none }
def fnExactLineEqualRow : OpenClaim := { program := "ythdejnjjdihmfaa", sum := "17cee3b8255dc68081944fb053a9b196464f2777239fbbe8d77dea46a99031b4", func := "loop.example/g00806/laws.FnExactLineEqual", spec := "fnExactLineEqual", apart := false }
def FnExactLineEqualSaid : Prop := fnExactLineEqualRow.holds Try.pinned (OpenSpec.ofChange fnExactLineEqualSpec)

/-- ITS FALSE NEIGHBOUR: 'it returns false'. Refute it at one input. -/
def fnExactLineEqualWrong : ChangeSpec := { name := "fnExactLineEqual", fn := fun _ => fun
  | [d1, d2] => { results := [.lit (.bool false)], args := [d1, d2] }
  | _ => none }
def FnExactLineEqualWrongFalsely : Prop := fnExactLineEqualRow.holds Try.pinned (OpenSpec.ofChange fnExactLineEqualWrong)

/-- 'laws.FnExactSingleSchedule': WHATEVER THE INPUT: true; the input reads as it did. -/
def fnExactSingleScheduleSpec : ChangeSpec := { name := "fnExactSingleSchedule", fn := fun _ => fun
  | [d] => { results := [.lit (.bool true)], args := [d] }
  | _ => none }
def fnExactSingleScheduleRow : OpenClaim := { program := "ythdejnjjdihmfaa", sum := "17cee3b8255dc68081944fb053a9b196464f2777239fbbe8d77dea46a99031b4", func := "loop.example/g00806/laws.FnExactSingleSchedule", spec := "fnExactSingleSchedule", apart := false }
def FnExactSingleScheduleSaid : Prop := fnExactSingleScheduleRow.holds Try.pinned (OpenSpec.ofChange fnExactSingleScheduleSpec)

/-- ITS FALSE NEIGHBOUR: 'it returns false'. Refute it at one input. -/
def fnExactSingleScheduleWrong : ChangeSpec := { name := "fnExactSingleSchedule", fn := fun _ => fun
  | [d] => { results := [.lit (.bool false)], args := [d] }
  | _ => none }
def FnExactSingleScheduleWrongFalsely : Prop := fnExactSingleScheduleRow.holds Try.pinned (OpenSpec.ofChange fnExactSingleScheduleWrong)

/- THE SECOND FORM. 'bulk': how many values and letters a reading holds, each counted each time it is reached (what is shared counts as often as it is met; a slice's spare places count too). A statement '..UptoSaid' is the law's where the arguments, and the package variables that the reading takes, are together of bulk at most 1048576: NARROWER than '..Said'. Prove '..Said' where nothing that the law and all that it calls make is longer than what came in: it says more and counts as full. Else prove '..UptoSaid'. A law counts once. -/
mutual
def uptoBulk {H : Type} : DataW H → Nat
  | .lit (.string bytes) => bytes.length + 1
  | .lit _ => 1
  | .nil => 1
  | .ptr d => uptoBulk d + 1
  | .slice elems spare => uptoBulkAll elems + uptoBulkAll spare + 1
  | .agg parts => uptoBulkAll parts + 1
  | .iface _ d => uptoBulk d + 1
  | .map entries => uptoBulkEntries entries + 1
  | .held _ => 1
def uptoBulkAll {H : Type} : List (DataW H) → Nat
  | [] => 0
  | d :: r => uptoBulk d + uptoBulkAll r
def uptoBulkEntries {H : Type} : List (Lit × DataW H) → Nat
  | [] => 0
  | x :: r => uptoBulkEntry x + uptoBulkEntries r
def uptoBulkEntry {H : Type} : Lit × DataW H → Nat
  | (.string bytes, d) => bytes.length + uptoBulk d + 1
  | (_, d) => uptoBulk d + 1
 end
def uptoSmall : (H : Type) → List (DataW H) → Bool := fun _ ds => decide (uptoBulkAll ds ≤ 1048576)
def OpenSpec.upto (s : _root_.Go.ChangeSpec) : _root_.Go.OpenSpec := { _root_.Go.OpenSpec.ofChange s with cond := some uptoSmall }

/-- 'laws.FnExactCheckName', WHERE WHAT IT READS IS OF BULK AT MOST 1048576: true; the input reads as it did. -/
def fnExactCheckNameUptoRow : OpenClaim := { program := "ythdejnjjdihmfaa", sum := "17cee3b8255dc68081944fb053a9b196464f2777239fbbe8d77dea46a99031b4", func := "loop.example/g00806/laws.FnExactCheckName", spec := "fnExactCheckName", apart := false, narrowed := true }
def FnExactCheckNameUptoSaid : Prop := fnExactCheckNameUptoRow.holds Try.pinned (OpenSpec.upto fnExactCheckNameSpec)

/-- 'laws.FnExactPriorityName', WHERE WHAT IT READS IS OF BULK AT MOST 1048576: true; the input reads as it did. -/
def fnExactPriorityNameUptoRow : OpenClaim := { program := "ythdejnjjdihmfaa", sum := "17cee3b8255dc68081944fb053a9b196464f2777239fbbe8d77dea46a99031b4", func := "loop.example/g00806/laws.FnExactPriorityName", spec := "fnExactPriorityName", apart := false, narrowed := true }
def FnExactPriorityNameUptoSaid : Prop := fnExactPriorityNameUptoRow.holds Try.pinned (OpenSpec.upto fnExactPriorityNameSpec)

/-- 'laws.FnExactOverlap', WHERE WHAT IT READS IS OF BULK AT MOST 1048576: true; the input reads as it did. -/
def fnExactOverlapUptoRow : OpenClaim := { program := "ythdejnjjdihmfaa", sum := "17cee3b8255dc68081944fb053a9b196464f2777239fbbe8d77dea46a99031b4", func := "loop.example/g00806/laws.FnExactOverlap", spec := "fnExactOverlap", apart := false, narrowed := true }
def FnExactOverlapUptoSaid : Prop := fnExactOverlapUptoRow.holds Try.pinned (OpenSpec.upto fnExactOverlapSpec)

/-- 'laws.FnExactPlanEqual', WHERE WHAT IT READS IS OF BULK AT MOST 1048576: true; the input reads as it did. -/
def fnExactPlanEqualUptoRow : OpenClaim := { program := "ythdejnjjdihmfaa", sum := "17cee3b8255dc68081944fb053a9b196464f2777239fbbe8d77dea46a99031b4", func := "loop.example/g00806/laws.FnExactPlanEqual", spec := "fnExactPlanEqual", apart := false, narrowed := true }
def FnExactPlanEqualUptoSaid : Prop := fnExactPlanEqualUptoRow.holds Try.pinned (OpenSpec.upto fnExactPlanEqualSpec)

/-- 'laws.FnExactLineEqual', WHERE WHAT IT READS IS OF BULK AT MOST 1048576: true; the input reads as it did. -/
def fnExactLineEqualUptoRow : OpenClaim := { program := "ythdejnjjdihmfaa", sum := "17cee3b8255dc68081944fb053a9b196464f2777239fbbe8d77dea46a99031b4", func := "loop.example/g00806/laws.FnExactLineEqual", spec := "fnExactLineEqual", apart := false, narrowed := true }
def FnExactLineEqualUptoSaid : Prop := fnExactLineEqualUptoRow.holds Try.pinned (OpenSpec.upto fnExactLineEqualSpec)

/-- 'laws.FnExactSingleSchedule', WHERE WHAT IT READS IS OF BULK AT MOST 1048576: true; the input reads as it did. -/
def fnExactSingleScheduleUptoRow : OpenClaim := { program := "ythdejnjjdihmfaa", sum := "17cee3b8255dc68081944fb053a9b196464f2777239fbbe8d77dea46a99031b4", func := "loop.example/g00806/laws.FnExactSingleSchedule", spec := "fnExactSingleSchedule", apart := false, narrowed := true }
def FnExactSingleScheduleUptoSaid : Prop := fnExactSingleScheduleUptoRow.holds Try.pinned (OpenSpec.upto fnExactSingleScheduleSpec)

end Rows
end Go.Proofs.Ythdejnjjdihmfaa
