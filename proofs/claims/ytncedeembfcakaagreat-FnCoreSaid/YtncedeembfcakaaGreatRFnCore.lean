/-
  PROVED: the law FnCore returns true for every input, and leaves its arguments as they were. No condition.
-/
import Derived.Test.YtncedeembfcakaaGreatRows
import Derived.WalkKit
import Derived.ProofKit
import Derived.OpenShut
import Derived.ShutString
import Derived.ChangeOld
import Derived.Below
import Derived.Test.YtncedeembfcakaaGreatQF
import Derived.Test.YtncedeembfcakaaGreatLFnCore
namespace Go.Proofs.YtncedeembfcakaaGreat.fnCore
set_option linter.unusedSimpArgs false
set_option linter.unusedVariables false
open Go.ChangeShapes Go.WideShapes Go.ChangeAt Go.RowKit
open Go.ChangeMaps (open_string shut_string)

theorem own : ownKnob Tryz.prog.godebug = none := by kernel_rfl
theorem closed : joinedFacts Tryz.prog 3 Tryz.f3 Rows.fnCoreSpec Rows.fnCoreRow = true := by
  unfold joinedFacts
  rw [Closed.laid, Closed.mapped, Closed.heard, Closed.enter, Closed.lifts, Closed.make]
  kernel_rfl
theorem types : Go.Px.okTs Tryz.prog [.slice .u8] Tryz.f3.params.toList = true := by kernel_rfl

set_option maxRecDepth 100000 in
theorem lifted (os : Os) (started : os.Started) (H : Type) (enc : TypeId × Value → H) :
    ReturnsInHanded {} Tryz.checked os 3 .any (Rows.fnCoreSpec.pre6 enc Tryz.prog Tryz.f3 Rows.fnCoreRow.domain false) (Rows.fnCoreSpec.post enc Tryz.prog Tryz.f3 false true false false) := by
  refine returnsInHanded_of_change (C := Tryz.checked) own started (by kernel_rfl) Tryz.func3
    (ChangeSpec.witness6 (enc := enc) (C := Tryz.checked) false ⟨#[], #[.slice none 0 0], []⟩ 8 (by kernel_rfl) (by kernel_rfl) (by kernel_rfl) (by kernel_rfl)) ?_
  intro W base args ds gs before hval0 hW hcnd _
  have hval : ∀ (j : Nat) t v, Tryz.f3.params.toList[j]? = some t → args[j]? = some v → Value.okWide Tryz.prog W .any base t v := fun j t v h1 h2 => hval0 j t v (by simpa using h1) h2
  have hW' := hW
  obtain ⟨p, q, hA0, hV, rfl, hfz, hnd⟩ := hW
  have hA1 : DataW.TrodAll enc Tryz.prog W 0 (fun _ => true) true Tryz.f3.params.toList args.toList ds p := hA0
  have hrun := Go.Px.PC.row Closed.laid [.slice .u8] Go.Px.YtncedeembfcakaaGreat.row_FnCore types (Go.Px.GP.noVars (by kernel_rfl) (by kernel_rfl) (by kernel_rfl) (by kernel_rfl)) hA1 hval
  have hA := hA1
  rw [Tryz.params3] at hA
  obtain ⟨v0, vs0, d0, ds0, p0, q0, hargs, rfl, rfl, h0, r0⟩ := trodAll_cons hA
  obtain ⟨rfl, rfl, rfl⟩ := trodAll_nil r0
  obtain rfl : args = #[v0] := by cases args; simp_all
  obtain ⟨rfl, rfl⟩ := trodVars_none hV
  refine hrun.mono fun e W' ⟨he, bel, hlast⟩ => ?_
  subst he
  exact ⟨_, rfl, _, _, _, [], _, [], hW', trodAll_mk1 (shut_bool Tryz.underlying4 _), hlast, rfl, bel.frame _, fun h => by cases h⟩

theorem over : Rows.fnCoreRow.holds Tryz.pinned (OpenSpec.ofChange Rows.fnCoreSpec) :=
  OpenClaim.holds_of_wide 3 Tryz.f3 rfl rfl rfl rfl rfl rfl rfl ⟨rfl, rfl, rfl, rfl, rfl⟩ rfl rfl rfl rfl rfl (by kernel_rfl) Tryz.func3 closed
    (of_decide_eq_true (by kernel_rfl)) (by unfold Func.isWrapper; first | (rw [if_pos (by decide +kernel)]; kernel_rfl) | (rw [if_neg (by decide +kernel)]; exact ⟨rfl, rfl⟩))
    (fun os started H enc _ => lifted os started H enc)

theorem proved : Rows.FnCoreSaid := over
end Go.Proofs.YtncedeembfcakaaGreat.fnCore
