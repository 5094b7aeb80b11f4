/-
  PROVED: contracts of functions of the program over pure values. No condition beyond those that each theorem names.
-/
import Derived.Test.YtbppcgnbkeegbaaGreatDoorProg
import Derived.Test.YtbppcgnbkeegbaaGreatDoorD1
import Derived.Test.YtbppcgnbkeegbaaGreatDoorS
import Derived.Test.YtbppcgnbkeegbaaGreatDoorC2
namespace Go.Px.YtbppcgnbkeegbaaGreatDoor
set_option linter.unusedSimpArgs false
set_option linter.unusedVariables false
open Go.Px Go.Proofs
theorem ok3 : okFn Tryz.prog 3 = true := by kernel_rfl
theorem w_FnExactFormatLine_pc (b0 : TProject) (b1 : TLine) (r : Bool) (h : w_FnExactFormatLine b0 b1 = some r) : PC Tryz.prog 3 [eTProject b0, eTLine b1] (bool r) := by
 unfold w_FnExactFormatLine at h
 refine PC.start Tryz.func3 Tryz.ntmps3 rfl ok3 rfl ?_
 refine Run.sr ?_
 refine X.bx ?_
 refine X.bx ?_
 refine X.an ?_
 refine Run.sr ?_
 refine X.an ?_
 refine Run.sr ?_
 refine X.ld shp27 ?_
 refine X.mv ?_
 obtain ⟨v1, hv1, h⟩ := bindE h
 refine X.cp (w_szProject_pc _ _ _ hv1) ?_
 refine X.an ?_
 refine Run.seq ?_
 refine Run.sr ?_
 refine X.mv ?_
 refine X.bi ?_
 refine X.nil ?_
 refine R.cd (fun hc2 => ?_) (fun hc2 => ?_)
 ·replace h := condT hc2 h
  refine Run.sr ?_
  refine X.an ?_
  cases h
  refine R.f1 Tryz.results3 ?_
  rfl
 ·replace h := condF hc2 h
  refine Run.skip ?_
  refine Run.sr ?_
  refine X.ld shp32 ?_
  refine X.mv ?_
  obtain ⟨v3, hv3, h⟩ := bindE h
  refine X.cp (w_szLine_pc _ _ _ hv3) ?_
  refine X.an ?_
  refine Run.seq ?_
  refine Run.sr ?_
  refine X.mv ?_
  refine X.bi ?_
  refine X.nil ?_
  refine R.cd (fun hc4 => ?_) (fun hc4 => ?_)
  ·replace h := condT hc4 h
   refine Run.sr ?_
   refine X.an ?_
   cases h
   refine R.f1 Tryz.results3 ?_
   rfl
  ·replace h := condF hc4 h
   refine Run.skip ?_
   refine Run.seq ?_
   refine Run.draw (footOf [(0, ([128], [], [], [])), (1, ([], [1344, 1345, 1346, 1347], [], [])), (2, ([192], [], [], [])), (3, ([], [1472], [], [])), (4, ([1344, 1345, 1346, 1347, 1472], [], [], []))]) mixed (by kernel_rfl) (by kernel_rfl) ?_
   refine X.ld shp27 ?_
   obtain ⟨v5, hv5, h⟩ := bindE h
   refine X.callA (PC.ofY (ps := [eTProject b0]) (w_toProject_pc _ _ hv5) (by rfl) (by rfl)) (by rfl) (by rfl) (by rfl) (by trivial) (by rfl) (by rfl) (by rfl) (by rfl) (by rfl) (by rfl) ?_
   refine X.ld shp32 ?_
   obtain ⟨v6, hv6, h⟩ := bindE h
   refine X.callA (PC.ofY (ps := [eTLine b1]) (w_toLine_pc _ _ hv6) (by rfl) (by rfl)) (by rfl) (by rfl) (by rfl) (by trivial) (by rfl) (by rfl) (by rfl) (by rfl) (by rfl) (by rfl) ?_
   obtain ⟨v7, hv7, h⟩ := bindE h
   refine X.cp (s_FormatLine_pc _ _ _ hv7) ?_
   refine X.an ?_
   refine Run.sr ?_
   refine X.ld shp27 ?_
   obtain ⟨v8, hv8, h⟩ := bindE h
   refine X.callA (PC.ofY (ps := [eTProject b0]) (w_toProject_pc _ _ hv8) (by rfl) (by rfl)) (by rfl) (by rfl) (by rfl) (by trivial) (by rfl) (by rfl) (by rfl) (by rfl) (by rfl) (by rfl) ?_
   refine X.alloc zer40 (by rfl) (by rfl) (by rfl) ?_
   refine X.sl shp40 ?_
   refine X.nil ?_
   refine Run.sr ?_
   refine X.ld shp32 ?_
   obtain ⟨v9, hv9, h⟩ := bindE h
   refine X.callA (PC.ofY (ps := [eTLine b1]) (w_toLine_pc _ _ hv9) (by rfl) (by rfl)) (by rfl) (by rfl) (by rfl) (by trivial) (by rfl) (by rfl) (by rfl) (by rfl) (by rfl) (by rfl) ?_
   refine X.alloc zer45 (by rfl) (by rfl) (by rfl) ?_
   refine X.sl shp45 ?_
   refine X.nil ?_
   refine Run.sr ?_
   refine X.ld shp40 ?_
   refine X.ld shp45 ?_
   obtain ⟨v10, hv10, h⟩ := bindE h
   refine X.cp (i_FormatLine_pc _ _ _ hv10) ?_
   refine X.an ?_
   refine Run.seq ?_
   refine Run.sr ?_
   refine X.mv ?_
   refine X.mv ?_
   refine X.bi ?_
   refine X.nil ?_
   refine R.cd (fun hc11 => ?_) (fun hc11 => ?_)
   ·replace h := condT hc11 h
    refine Run.sr ?_
    refine X.an ?_
    cases h
    refine R.f1 Tryz.results3 ?_
    rfl
   ·replace h := condF hc11 h
    refine Run.skip ?_
    refine Run.seq ?_
    refine Run.seq ?_
    refine Run.draw (footOf [(0, ([448], [], [], [])), (1, ([128], [], [], [])), (2, ([], [2368, 2369, 2370, 2371], [], [])), (3, ([1664, 1665, 1666, 1667, 2368, 2369, 2370, 2371], [], [], []))]) mixed (by kernel_rfl) (by kernel_rfl) ?_
    refine X.ld shp40 ?_
    refine X.ld shp27 ?_
    obtain ⟨v12, hv12, h⟩ := bindE h
    refine X.callA (PC.ofY (ps := [eTProject b0]) (w_toProject_pc _ _ hv12) (by rfl) (by rfl)) (by rfl) (by rfl) (by rfl) (by trivial) (by rfl) (by rfl) (by rfl) (by rfl) (by rfl) (by rfl) ?_
    obtain ⟨v13, hv13, h⟩ := bindE h
    refine X.cp (w_eqProject_pc _ _ _ hv13) ?_
    refine X.un (by rfl) (by rfl) (by rfl) ?_
    refine X.nil ?_
    refine R.cd (fun hc14 => ?_) (fun hc14 => ?_)
    ·replace h := condT hc14 h
     refine Run.sr ?_
     refine X.an ?_
     cases h
     refine R.f1 Tryz.results3 ?_
     rfl
    ·replace h := condF hc14 h
     refine Run.skip ?_
     refine Run.seq ?_
     refine Run.seq ?_
     refine Run.draw (footOf [(0, ([512], [], [], [])), (1, ([192], [], [], [])), (2, ([], [2688], [], [])), (3, ([1792, 2688], [], [], []))]) mixed (by kernel_rfl) (by kernel_rfl) ?_
     refine X.ld shp45 ?_
     refine X.ld shp32 ?_
     obtain ⟨v15, hv15, h⟩ := bindE h
     refine X.callA (PC.ofY (ps := [eTLine b1]) (w_toLine_pc _ _ hv15) (by rfl) (by rfl)) (by rfl) (by rfl) (by rfl) (by trivial) (by rfl) (by rfl) (by rfl) (by rfl) (by rfl) (by rfl) ?_
     obtain ⟨v16, hv16, h⟩ := bindE h
     refine X.cp (w_eqLine_pc _ _ _ hv16) ?_
     refine X.un (by rfl) (by rfl) (by rfl) ?_
     refine X.nil ?_
     refine R.cd (fun hc17 => ?_) (fun hc17 => ?_)
     ·replace h := condT hc17 h
      refine Run.sr ?_
      refine X.an ?_
      cases h
      refine R.f1 Tryz.results3 ?_
      rfl
     ·replace h := condF hc17 h
      refine Run.skip ?_
      refine Run.sr ?_
      refine X.an ?_
      cases h
      refine R.f1 Tryz.results3 ?_
      rfl
end Go.Px.YtbppcgnbkeegbaaGreatDoor
