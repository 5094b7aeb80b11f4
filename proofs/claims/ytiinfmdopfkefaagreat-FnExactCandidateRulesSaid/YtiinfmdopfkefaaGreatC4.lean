/-
  PROVED: contracts of functions of the program over pure values. No condition beyond those that each theorem names.
-/
import Derived.Test.YtiinfmdopfkefaaGreatProg
import Derived.Test.YtiinfmdopfkefaaGreatD1
import Derived.Test.YtiinfmdopfkefaaGreatS
import Derived.Test.YtiinfmdopfkefaaGreatC2
namespace Go.Px.YtiinfmdopfkefaaGreat
set_option linter.unusedSimpArgs false
set_option linter.unusedVariables false
open Go.Px Go.Proofs
theorem ok28 : okFn Tryz.prog 28 = true := by kernel_rfl
theorem w_eqRule_pc (b0 : TRule) (b1 : TRule) (r : Bool) (h : w_eqRule b0 b1 = some r) : PC Tryz.prog 28 [eTRule b0, eTRule b1] (bool r) := by
 unfold w_eqRule at h
 refine PC.start Tryz.func28 Tryz.ntmps28 rfl ok28 rfl ?_
 refine Run.sr ?_
 refine X.bx ?_
 refine X.bx ?_
 refine X.an ?_
 refine Run.seq ?_
 refine Run.sr ?_
 refine X.fl fld38_0 ?_
 refine X.ld shp3 ?_
 refine X.fl fld38_0 ?_
 refine X.ld shp3 ?_
 refine X.bi ?_
 refine X.nil ?_
 refine R.cd (fun hc1 => ?_) (fun hc1 => ?_)
 ·replace h := condT hc1 h
  refine Run.sr ?_
  refine X.an ?_
  cases h
  refine R.f1 Tryz.results28 ?_
  rfl
 ·replace h := condF hc1 h
  refine Run.skip ?_
  refine Run.seq ?_
  refine Run.sr ?_
  refine X.fl fld38_1 ?_
  refine X.ld shp3 ?_
  refine X.fl fld38_1 ?_
  refine X.ld shp3 ?_
  refine X.bi ?_
  refine X.nil ?_
  refine R.cd (fun hc2 => ?_) (fun hc2 => ?_)
  ·replace h := condT hc2 h
   refine Run.sr ?_
   refine X.an ?_
   cases h
   refine R.f1 Tryz.results28 ?_
   rfl
  ·replace h := condF hc2 h
   refine Run.skip ?_
   refine Run.seq ?_
   refine Run.sr ?_
   refine X.fl fld38_2 ?_
   refine X.ld shp3 ?_
   refine X.fl fld38_2 ?_
   refine X.ld shp3 ?_
   refine X.bi ?_
   refine X.nil ?_
   refine R.cd (fun hc3 => ?_) (fun hc3 => ?_)
   ·replace h := condT hc3 h
    refine Run.sr ?_
    refine X.an ?_
    cases h
    refine R.f1 Tryz.results28 ?_
    rfl
   ·replace h := condF hc3 h
    refine Run.skip ?_
    refine Run.seq ?_
    refine Run.sr ?_
    refine X.fl fld38_3 ?_
    refine X.ld shp3 ?_
    refine X.fl fld38_3 ?_
    refine X.ld shp3 ?_
    refine X.bi ?_
    refine X.nil ?_
    refine R.cd (fun hc4 => ?_) (fun hc4 => ?_)
    ·replace h := condT hc4 h
     refine Run.sr ?_
     refine X.an ?_
     cases h
     refine R.f1 Tryz.results28 ?_
     rfl
    ·replace h := condF hc4 h
     refine Run.skip ?_
     refine Run.sr ?_
     refine X.an ?_
     cases h
     refine R.f1 Tryz.results28 ?_
     rfl
end Go.Px.YtiinfmdopfkefaaGreat
