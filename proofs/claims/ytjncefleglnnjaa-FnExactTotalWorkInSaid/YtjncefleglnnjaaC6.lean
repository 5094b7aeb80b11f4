/-
  PROVED: contracts of functions of the program over pure values. No condition beyond those that each theorem names.
-/
import Derived.Test.YtjncefleglnnjaaProg
import Derived.Test.YtjncefleglnnjaaD1
import Derived.Test.YtjncefleglnnjaaC1
import Derived.Test.YtjncefleglnnjaaC2
namespace Go.Px.Ytjncefleglnnjaa
set_option linter.unusedSimpArgs false
set_option linter.unusedVariables false
open Go.Px Go.Proofs
theorem ok76 : okFn Try.prog 76 = true := by kernel_rfl
theorem i_Project_hasResource_pc (b0 : TProject) (b1 : Int) (r : Bool) (h : i_Project_hasResource b0 b1 = some r) : PC Try.prog 76 [eTProject b0, int b1] (bool r) := by
  unfold i_Project_hasResource at h
  refine PC.start Try.func76 Try.ntmps76 rfl ok76 rfl ?_
  refine Run.seq ?_
  refine Run.reg ?_
  refine X.box (by rfl) (by rfl) (by repeat (first | exact trivial | refine ⟨by rfl, ?_⟩ | refine ⟨by simp [setL], ?_⟩)) (by rfl) (by rfl) (by rfl) (by rfl) ?_
  refine X.assign (by rfl) (by rfl) ?_
  refine X.nil ?_
  refine Run.seq ?_
  refine Run.reg ?_
  refine X.move (by rfl) (by rfl) ?_
  refine X.fieldAddr_l fld34_3 (by rfl) (by rfl) ?_
  refine X.load_l shp32 (by rfl) (by rfl) (by rfl) (by rfl) (by rfl) (by rfl) ?_
  refine X.len_s elt32 (by rfl) (by exact List.length_map ..) (by rfl) ?_
  refine X.subW (by rfl) (by rfl) (by rfl) ?_
  obtain ⟨v1, hv1, h⟩ := bindE h
  refine X.callP (i_within_pc _ _ _ _ hv1) (by rfl) (by rfl) (by rfl) (by repeat (first | exact trivial | refine ⟨by rfl, ?_⟩ | refine ⟨by simp [setL], ?_⟩)) (by rfl) (by rfl) (by rfl) (by rfl) ?_
  refine X.assign (by rfl) (by rfl) ?_
  refine X.nil ?_
  cases h
  refine R.fin1 Try.results76 (by rfl) (by rfl) ?_
  rfl
end Go.Px.Ytjncefleglnnjaa
