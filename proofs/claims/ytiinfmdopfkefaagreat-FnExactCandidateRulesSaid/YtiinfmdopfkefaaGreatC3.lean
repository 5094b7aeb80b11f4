/-
  PROVED: contracts of functions of the program over pure values. No condition beyond those that each theorem names.
-/
import Derived.Test.YtiinfmdopfkefaaGreatProg
import Derived.Test.YtiinfmdopfkefaaGreatD1
import Derived.Test.YtiinfmdopfkefaaGreatS
import Derived.Test.YtiinfmdopfkefaaGreatC2
namespace Go.Px.YtiinfmdopfkefaaGreat
set_option linter.unusedSimpArgs false
set_option linter.unusedVariables false
open Go.Px Go.Proofs
theorem ok18 : okFn Tryz.prog 18 = true := by kernel_rfl
theorem s_CandidateRules_pc (b0 : TProject) (b1 : TDomain) (r : List TRule) (h : s_CandidateRules b0 b1 = some r) : PC Tryz.prog 18 [eTProject b0, eTDomain b1] (.fresh false 38 4 (r.map eTRule)) := by
 unfold s_CandidateRules at h
 refine PC.start Tryz.func18 Tryz.ntmps18 rfl ok18 rfl ?_
 refine Run.sr ?_
 refine X.bx ?_
 refine X.bx ?_
 refine X.an ?_
 refine Run.seq ?_
 refine Run.sr ?_
 refine X.ld shp36 ?_
 refine X.ld shp51 ?_
 obtain ⟨v1, hv1, h⟩ := bindE h
 refine X.cp (s_l14Ok_pc _ _ _ hv1) ?_
 refine X.un (by rfl) (by rfl) (by rfl) ?_
 refine X.nil ?_
 refine R.cd (fun hc2 => ?_) (fun hc2 => ?_)
 ·replace h := condT hc2 h
  refine Run.sr ?_
  refine X.an ?_
  cases h
  refine R.fin1n (x := false) (e := 38) (sz := 4) Tryz.results18 (by rfl) (by decide) ?_
  rfl
 ·replace h := condF hc2 h
  refine Run.skip ?_
  refine Run.sr ?_
  refine X.ld shp36 ?_
  refine X.ld shp51 ?_
  obtain ⟨v3, hv3, h⟩ := bindE h
  refine X.callF (s_l17For_pc _ _ _ hv3) (by rfl) (by rfl) (by rfl) (by trivial) (by rfl) (by rfl) (by rfl) (by rfl) ?_
  refine X.an ?_
  cases h
  refine R.fin1o Tryz.results18 (by rfl) (by rfl) (by first | rfl | simp [setL] | omega) ?_
  rfl
end Go.Px.YtiinfmdopfkefaaGreat
