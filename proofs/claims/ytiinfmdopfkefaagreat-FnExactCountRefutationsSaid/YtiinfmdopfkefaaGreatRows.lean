/-
  No cell of these rows narrows 'for every input' (looked for: loops, veiled, ifaces, maps, wideKeys, modest, calm, conditions, laid).
  DERIVED. THE GIVEN ROWS OF THIS SEAT. 4 by the template 'for every input the law returns true; each argument reads behind the call as it read before'; 0 by the template 'total and deterministic' (their statements: YtiinfmdopfkefaaGreatTotals.lean).
  GIVEN WITH THE SEED: the statements are not yours to turn. If you find one false, say at which input.
  Laid BY PROGRAM, IN A SANDBOX (cutbox-rows.mjs): the forced cells as the released guide's own fill.sh prints them over the translation 4d3eeac50fc4097e… (all of the seat's roots in one cut). By AI agents, Wed Nov 11 2026. No macro, syntax, notation, axiom, sorry.
-/
import Derived.Test.YtiinfmdopfkefaaGreatChecked
import GoSem.Claim
import GoSem.ClaimJoined
import GoSem.ClaimMapViews
import Derived.JoinedTies
import Derived.KernelRfl
namespace Go.Proofs.YtiinfmdopfkefaaGreat
/- THE CELL 'sum', in the pinned program and in every row, IS THE sha256 OF THE DUMP (.gsa) THAT YtiinfmdopfkefaaGreatProg.lean LOADS. Nothing in Lean hashes anything: it is a label: what it is worth is what the hold of that sum in a sandbox is worth. -/
noncomputable def Tryz.pinned : Pinned := { name := "ytiinfmdopfkefaagreat", sum := "4d3eeac50fc4097e6c19bcdb395a17f65cd632b55842cfee6e54dacd8242900f", checked := Tryz.checked }
namespace Rows
def none {H : Type} : Left H := { results := [], args := [] }

/-- 'laws.FnExactRuleActivities': WHATEVER THE INPUT: true; the input reads as it did. -/
def fnExactRuleActivitiesSpec : ChangeSpec := { name := "fnExactRuleActivities", fn := fun _ => fun
  | [d1, d2] => { results := [.lit (.bool true)], args := [d1, d2] }
  | _ => none }
def fnExactRuleActivitiesRow : OpenClaim := { program := "ytiinfmdopfkefaagreat", sum := "4d3eeac50fc4097e6c19bcdb395a17f65cd632b55842cfee6e54dacd8242900f", func := "loop.example/g00806/laws.FnExactRuleActivities", spec := "fnExactRuleActivities", unfollowed := true, recurses := true, apart := false }
def FnExactRuleActivitiesSaid : Prop := fnExactRuleActivitiesRow.holds Tryz.pinned (OpenSpec.ofChange fnExactRuleActivitiesSpec)

/-- ITS FALSE NEIGHBOUR: 'it returns false'. Refute it at one input. -/
def fnExactRuleActivitiesWrong : ChangeSpec := { name := "fnExactRuleActivities", fn := fun _ => fun
  | [d1, d2] => { results := [.lit (.bool false)], args := [d1, d2] }
  | _ => none }
def FnExactRuleActivitiesWrongFalsely : Prop := fnExactRuleActivitiesRow.holds Tryz.pinned (OpenSpec.ofChange fnExactRuleActivitiesWrong)

/-- 'laws.FnExactCandidateRules': WHATEVER THE INPUT: true; the input reads as it did. -/
def fnExactCandidateRulesSpec : ChangeSpec := { name := "fnExactCandidateRules", fn := fun _ => fun
  | [d1, d2] => { results := [.lit (.bool true)], args := [d1, d2] }
  | _ => none }
def fnExactCandidateRulesRow : OpenClaim := { program := "ytiinfmdopfkefaagreat", sum := "4d3eeac50fc4097e6c19bcdb395a17f65cd632b55842cfee6e54dacd8242900f", func := "loop.example/g00806/laws.FnExactCandidateRules", spec := "fnExactCandidateRules", unfollowed := true, recurses := true, apart := false }
def FnExactCandidateRulesSaid : Prop := fnExactCandidateRulesRow.holds Tryz.pinned (OpenSpec.ofChange fnExactCandidateRulesSpec)

/-- ITS FALSE NEIGHBOUR: 'it returns false'. Refute it at one input. -/
def fnExactCandidateRulesWrong : ChangeSpec := { name := "fnExactCandidateRules", fn := fun _ => fun
  | [d1, d2] => { results := [.lit (.bool false)], args := [d1, d2] }
  | _ => none }
def FnExactCandidateRulesWrongFalsely : Prop := fnExactCandidateRulesRow.holds Tryz.pinned (OpenSpec.ofChange fnExactCandidateRulesWrong)

/-- 'laws.FnExactFindRefutation': WHATEVER THE INPUT: true; the input reads as it did. -/
def fnExactFindRefutationSpec : ChangeSpec := { name := "fnExactFindRefutation", fn := fun _ => fun
  | [d1, d2] => { results := [.lit (.bool true)], args := [d1, d2] }
  | _ => none }
def fnExactFindRefutationRow : OpenClaim := { program := "ytiinfmdopfkefaagreat", sum := "4d3eeac50fc4097e6c19bcdb395a17f65cd632b55842cfee6e54dacd8242900f", func := "loop.example/g00806/laws.FnExactFindRefutation", spec := "fnExactFindRefutation", unfollowed := true, recurses := true, apart := false }
def FnExactFindRefutationSaid : Prop := fnExactFindRefutationRow.holds Tryz.pinned (OpenSpec.ofChange fnExactFindRefutationSpec)

/-- ITS FALSE NEIGHBOUR: 'it returns false'. Refute it at one input. -/
def fnExactFindRefutationWrong : ChangeSpec := { name := "fnExactFindRefutation", fn := fun _ => fun
  | [d1, d2] => { results := [.lit (.bool false)], args := [d1, d2] }
  | _ => none }
def FnExactFindRefutationWrongFalsely : Prop := fnExactFindRefutationRow.holds Tryz.pinned (OpenSpec.ofChange fnExactFindRefutationWrong)

/-- 'laws.FnExactCountRefutations': WHATEVER THE INPUT: true; the input reads as it did. -/
def fnExactCountRefutationsSpec : ChangeSpec := { name := "fnExactCountRefutations", fn := fun _ => fun
  | [d1, d2] => { results := [.lit (.bool true)], args := [d1, d2] }
  | _ => none }
def fnExactCountRefutationsRow : OpenClaim := { program := "ytiinfmdopfkefaagreat", sum := "4d3eeac50fc4097e6c19bcdb395a17f65cd632b55842cfee6e54dacd8242900f", func := "loop.example/g00806/laws.FnExactCountRefutations", spec := "fnExactCountRefutations", unfollowed := true, recurses := true, apart := false }
def FnExactCountRefutationsSaid : Prop := fnExactCountRefutationsRow.holds Tryz.pinned (OpenSpec.ofChange fnExactCountRefutationsSpec)

/-- ITS FALSE NEIGHBOUR: 'it returns false'. Refute it at one input. -/
def fnExactCountRefutationsWrong : ChangeSpec := { name := "fnExactCountRefutations", fn := fun _ => fun
  | [d1, d2] => { results := [.lit (.bool false)], args := [d1, d2] }
  | _ => none }
def FnExactCountRefutationsWrongFalsely : Prop := fnExactCountRefutationsRow.holds Tryz.pinned (OpenSpec.ofChange fnExactCountRefutationsWrong)

/- THE SECOND FORM. 'bulk': how many values and letters a reading holds, each counted each time it is reached (what is shared counts as often as it is met; a slice's spare places count too). A statement '..UptoSaid' is the law's where the arguments, and the package variables that the reading takes, are together of bulk at most 1048576: NARROWER than '..Said'. Prove '..Said' where nothing that the law and all that it calls make is longer than what came in: it says more and counts as full. Else prove '..UptoSaid'. A law counts once. -/
mutual
def uptoBulk {H : Type} : DataW H → Nat
  | .lit (.string bytes) => bytes.length + 1
  | .lit _ => 1
  | .nil => 1
  | .ptr d => uptoBulk d + 1
  | .slice elems spare => uptoBulkAll elems + uptoBulkAll spare + 1
  | .agg parts => uptoBulkAll parts + 1
  | .iface _ d => uptoBulk d + 1
  | .map entries => uptoBulkEntries entries + 1
  | .held _ => 1
def uptoBulkAll {H : Type} : List (DataW H) → Nat
  | [] => 0
  | d :: r => uptoBulk d + uptoBulkAll r
def uptoBulkEntries {H : Type} : List (Lit × DataW H) → Nat
  | [] => 0
  | x :: r => uptoBulkEntry x + uptoBulkEntries r
def uptoBulkEntry {H : Type} : Lit × DataW H → Nat
  | (.string bytes, d) => bytes.length + uptoBulk d + 1
  | (_, d) => uptoBulk d + 1
 end
def uptoSmall : (H : Type) → List (DataW H) → Bool := fun _ ds => decide (uptoBulkAll ds ≤ 1048576)
def OpenSpec.upto (s : _root_.Go.ChangeSpec) : _root_.Go.OpenSpec := { _root_.Go.OpenSpec.ofChange s with cond := some uptoSmall }

/-- 'laws.FnExactRuleActivities', WHERE WHAT IT READS IS OF BULK AT MOST 1048576: true; the input reads as it did. -/
def fnExactRuleActivitiesUptoRow : OpenClaim := { program := "ytiinfmdopfkefaagreat", sum := "4d3eeac50fc4097e6c19bcdb395a17f65cd632b55842cfee6e54dacd8242900f", func := "loop.example/g00806/laws.FnExactRuleActivities", spec := "fnExactRuleActivities", unfollowed := true, recurses := true, apart := false, narrowed := true }
def FnExactRuleActivitiesUptoSaid : Prop := fnExactRuleActivitiesUptoRow.holds Tryz.pinned (OpenSpec.upto fnExactRuleActivitiesSpec)

/-- 'laws.FnExactCandidateRules', WHERE WHAT IT READS IS OF BULK AT MOST 1048576: true; the input reads as it did. -/
def fnExactCandidateRulesUptoRow : OpenClaim := { program := "ytiinfmdopfkefaagreat", sum := "4d3eeac50fc4097e6c19bcdb395a17f65cd632b55842cfee6e54dacd8242900f", func := "loop.example/g00806/laws.FnExactCandidateRules", spec := "fnExactCandidateRules", unfollowed := true, recurses := true, apart := false, narrowed := true }
def FnExactCandidateRulesUptoSaid : Prop := fnExactCandidateRulesUptoRow.holds Tryz.pinned (OpenSpec.upto fnExactCandidateRulesSpec)

/-- 'laws.FnExactFindRefutation', WHERE WHAT IT READS IS OF BULK AT MOST 1048576: true; the input reads as it did. -/
def fnExactFindRefutationUptoRow : OpenClaim := { program := "ytiinfmdopfkefaagreat", sum := "4d3eeac50fc4097e6c19bcdb395a17f65cd632b55842cfee6e54dacd8242900f", func := "loop.example/g00806/laws.FnExactFindRefutation", spec := "fnExactFindRefutation", unfollowed := true, recurses := true, apart := false, narrowed := true }
def FnExactFindRefutationUptoSaid : Prop := fnExactFindRefutationUptoRow.holds Tryz.pinned (OpenSpec.upto fnExactFindRefutationSpec)

/-- 'laws.FnExactCountRefutations', WHERE WHAT IT READS IS OF BULK AT MOST 1048576: true; the input reads as it did. -/
def fnExactCountRefutationsUptoRow : OpenClaim := { program := "ytiinfmdopfkefaagreat", sum := "4d3eeac50fc4097e6c19bcdb395a17f65cd632b55842cfee6e54dacd8242900f", func := "loop.example/g00806/laws.FnExactCountRefutations", spec := "fnExactCountRefutations", unfollowed := true, recurses := true, apart := false, narrowed := true }
def FnExactCountRefutationsUptoSaid : Prop := fnExactCountRefutationsUptoRow.holds Tryz.pinned (OpenSpec.upto fnExactCountRefutationsSpec)

end Rows
end Go.Proofs.YtiinfmdopfkefaaGreat
