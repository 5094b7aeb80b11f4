/-
  PROVED: contracts of functions of the program over pure values. No condition beyond those that each theorem names.
-/
import Derived.Test.YtjncefleglnnjaaProg
import Derived.Test.YtjncefleglnnjaaD1
import Derived.Test.YtjncefleglnnjaaC1
import Derived.Test.YtjncefleglnnjaaC2
namespace Go.Px.Ytjncefleglnnjaa
set_option linter.unusedSimpArgs false
set_option linter.unusedVariables false
open Go.Px Go.Proofs
theorem ok161 : okFn Try.prog 161 = true := by kernel_rfl
theorem ok160 : okFn Try.prog 160 = true := by kernel_rfl
theorem s_l02Min_pc (b0 : Int) (b1 : Int) (r : Int) (h : s_l02Min b0 b1 = some r) : PC Try.prog 161 [int b0, int b1] (int r) := by
  unfold s_l02Min at h
  refine PC.start Try.func161 Try.ntmps161 rfl ok161 rfl ?_
  refine Run.seq ?_
  refine Run.reg ?_
  refine X.assign (by rfl) (by rfl) ?_
  refine X.nil ?_
  refine Run.seq ?_
  refine Run.seq ?_
  refine Run.reg ?_
  refine X.move (by rfl) (by rfl) ?_
  refine X.move (by rfl) (by rfl) ?_
  refine X.bin (by rfl) (by rfl) (by rfl) (by rfl) (by intro h; cases h) (by rfl) ?_
  refine X.nil ?_
  refine R.cond (by rfl) (fun hc1 => ?_) (fun hc1 => ?_)
  · replace h := condT hc1 h
    refine Run.seq ?_
    refine Run.reg ?_
    refine X.move (by rfl) (by rfl) ?_
    refine X.assign (by rfl) (by rfl) ?_
    refine X.nil ?_
    cases h
    refine R.fin1 Try.results161 (by rfl) (by rfl) ?_
    rfl
  · replace h := condF hc1 h
    refine Run.skip ?_
    refine Run.seq ?_
    refine Run.reg ?_
    refine X.move (by rfl) (by rfl) ?_
    refine X.assign (by rfl) (by rfl) ?_
    refine X.nil ?_
    cases h
    refine R.fin1 Try.results161 (by rfl) (by rfl) ?_
    rfl
theorem s_l02Max_pc (b0 : Int) (b1 : Int) (r : Int) (h : s_l02Max b0 b1 = some r) : PC Try.prog 160 [int b0, int b1] (int r) := by
  unfold s_l02Max at h
  refine PC.start Try.func160 Try.ntmps160 rfl ok160 rfl ?_
  refine Run.seq ?_
  refine Run.reg ?_
  refine X.assign (by rfl) (by rfl) ?_
  refine X.nil ?_
  refine Run.seq ?_
  refine Run.seq ?_
  refine Run.reg ?_
  refine X.move (by rfl) (by rfl) ?_
  refine X.move (by rfl) (by rfl) ?_
  refine X.bin (by rfl) (by rfl) (by rfl) (by rfl) (by intro h; cases h) (by rfl) ?_
  refine X.nil ?_
  refine R.cond (by rfl) (fun hc1 => ?_) (fun hc1 => ?_)
  · replace h := condT hc1 h
    refine Run.seq ?_
    refine Run.reg ?_
    refine X.move (by rfl) (by rfl) ?_
    refine X.assign (by rfl) (by rfl) ?_
    refine X.nil ?_
    cases h
    refine R.fin1 Try.results160 (by rfl) (by rfl) ?_
    rfl
  · replace h := condF hc1 h
    refine Run.skip ?_
    refine Run.seq ?_
    refine Run.reg ?_
    refine X.move (by rfl) (by rfl) ?_
    refine X.assign (by rfl) (by rfl) ?_
    refine X.nil ?_
    cases h
    refine R.fin1 Try.results160 (by rfl) (by rfl) ?_
    rfl
end Go.Px.Ytjncefleglnnjaa
