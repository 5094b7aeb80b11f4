/-
  PROVED: contracts of functions of the program over pure values. No condition beyond those that each theorem names.
-/
import Derived.Test.YtiinfmdopfkefaaGreatProg
import Derived.Test.YtiinfmdopfkefaaGreatD2
import Derived.Test.YtiinfmdopfkefaaGreatS
import Derived.Test.YtiinfmdopfkefaaGreatC1
import Derived.Test.YtiinfmdopfkefaaGreatC3
import Derived.Test.YtiinfmdopfkefaaGreatC6
namespace Go.Px.YtiinfmdopfkefaaGreat
set_option linter.unusedSimpArgs false
set_option linter.unusedVariables false
open Go.Px Go.Proofs
theorem shp29 : shp Tryz.prog 29 = some (true, 4) := by kernel_rfl
theorem fld29_0 : fldOff Tryz.prog 29 0 = some 0 := by kernel_rfl
theorem fld29_1 : fldOff Tryz.prog 29 1 = some 1 := by kernel_rfl
theorem fld29_2 : fldOff Tryz.prog 29 2 = some 2 := by kernel_rfl
theorem fld29_3 : fldOff Tryz.prog 29 3 = some 3 := by kernel_rfl
theorem ok10 : okFn Tryz.prog 10 = true := by kernel_rfl
theorem ok35 : okFn Tryz.prog 35 = true := by kernel_rfl
theorem ok38 : okFn Tryz.prog 38 = true := by kernel_rfl
theorem ok8 : okFn Tryz.prog 8 = true := by kernel_rfl
theorem ok90 : okFn Tryz.prog 90 = true := by kernel_rfl
theorem ok137 : okFn Tryz.prog 137 = true := by kernel_rfl
theorem ok89 : okFn Tryz.prog 89 = true := by kernel_rfl
theorem ok45 : okFn Tryz.prog 45 = true := by kernel_rfl
theorem ok11 : okFn Tryz.prog 11 = true := by kernel_rfl
theorem ok16 : okFn Tryz.prog 16 = true := by kernel_rfl
theorem ok3 : okFn Tryz.prog 3 = true := by kernel_rfl
theorem w_toRule_pc (b0 : TRule) (r : TRule) (h : w_toRule b0 = some r) : PC Tryz.prog 10 [eTRule b0] (eTRule r) := by
 unfold w_toRule at h
 refine PC.start Tryz.func10 Tryz.ntmps10 rfl ok10 rfl ?_
 refine Run.sr ?_
 refine X.bx ?_
 refine X.alloc zer38 (by rfl) (by rfl) (by rfl) ?_
 refine X.nil ?_
 refine Run.sr ?_
 refine X.alloc zer38 (by rfl) (by rfl) (by rfl) ?_
 refine X.nil ?_
 refine Run.sr ?_
 refine X.fl fld29_0 ?_
 refine X.ld shp3 ?_
 refine X.fl fld38_0 ?_
 refine X.sl shp3 ?_
 refine X.nil ?_
 refine Run.sr ?_
 refine X.fl fld29_1 ?_
 refine X.ld shp3 ?_
 refine X.fl fld38_1 ?_
 refine X.sl shp3 ?_
 refine X.nil ?_
 refine Run.sr ?_
 refine X.fl fld29_2 ?_
 refine X.ld shp3 ?_
 refine X.fl fld38_2 ?_
 refine X.sl shp3 ?_
 refine X.nil ?_
 refine Run.sr ?_
 refine X.fl fld29_3 ?_
 refine X.ld shp3 ?_
 refine X.fl fld38_3 ?_
 refine X.sl shp3 ?_
 refine X.nil ?_
 refine Run.sr ?_
 refine X.ld shp38 ?_
 refine X.sl shp38 ?_
 refine X.nil ?_
 cases h
 refine R.finC Tryz.results10 shp38 (by rfl) (by rfl) (by rfl) (by rfl) (by repeat (first | trivial | refine ⟨by first | rfl | simp [setL], ?_⟩)) ?_
 rfl
theorem s_RuleOk_pc (b0 : TProject) (b1 : TRule) (r : Bool) (h : s_RuleOk b0 b1 = some r) : PC Tryz.prog 35 [eTProject b0, eTRule b1] (bool r) := by
 unfold s_RuleOk at h
 refine PC.start Tryz.func35 Tryz.ntmps35 rfl ok35 rfl ?_
 refine Run.sr ?_
 refine X.bx ?_
 refine X.bx ?_
 refine X.an ?_
 refine Run.sr ?_
 refine X.fl fld36_1 ?_
 refine X.ld shp32 ?_
 refine X.ls elt32 ?_
 refine X.an ?_
 refine Run.seq ?_
 refine Run.sr ?_
 refine X.ld shp36 ?_
 obtain ⟨v1, hv1, h⟩ := bindE h
 refine X.callP (s_ProjectOk_pc _ _ hv1) (by rfl) (by rfl) (by rfl) (by trivial) (by rfl) (by rfl) (by rfl) (by rfl) ?_
 refine X.un (by rfl) (by rfl) (by rfl) ?_
 refine X.nil ?_
 refine R.cd (fun hc2 => ?_) (fun hc2 => ?_)
 ·replace h := condT hc2 h
  refine Run.sr ?_
  refine X.an ?_
  cases h
  refine R.f1 Tryz.results35 ?_
  rfl
 ·replace h := condF hc2 h
  refine Run.skip ?_
  refine Run.seq ?_
  refine Run.sr ?_
  refine X.fl fld38_0 ?_
  refine X.ld shp3 ?_
  refine X.nil ?_
  refine Run.block ?_
  refine Run.sr ?_
  refine X.bi ?_
  refine X.an ?_
  refine R.cd (fun hc3 => ?_) (fun hc3 => ?_)
  ·replace h := condT hc3 h
   refine Run.seq ?_
   obtain ⟨v4, hv4, h⟩ := bindE h
   obtain ⟨e5, he5, h2⟩ := bindE h
   refine R.regG [(4, bool e5)] [] ?_ ?_
   ·clear h; have h := he5; clear he5 h2
    refine X.fl fld38_1 ?_
    refine X.ld shp3 ?_
    refine X.fl fld36_2 ?_
    refine X.ld shp33 ?_
    refine X.ls elt33 ?_
    refine X.subW (by rfl) (by rfl) (by rfl) ?_
    refine X.callP (s_l01In_pc _ _ _ _ hv4) (by rfl) (by rfl) (by rfl) (by trivial) (by rfl) (by rfl) (by rfl) (by rfl) ?_
    refine X.mv ?_
    refine X.iG (fun hb6 => ?_) (fun hb6 => ?_)
    ·replace h := condT hb6 h
     refine X.fl fld38_2 ?_
     refine X.gy ?_
     refine X.ld shp3 ?_
     refine X.gy ?_
     refine X.bi ?_
     refine X.pT ?_
     refine X.mv ?_
     refine X.iG (fun hb7 => ?_) (fun hb7 => ?_)
     ·replace h := condT hb7 h
      refine X.fl fld38_3 ?_
      refine X.gy ?_
      refine X.ld shp3 ?_
      refine X.gy ?_
      refine X.bi ?_
      refine X.pT ?_
      refine X.as ?_
      cases h
      exact X.eG
     ·replace h := condF hb7 h
      refine X.gn ?_
      refine X.gn ?_
      refine X.pF ?_
      refine X.as ?_
      cases h
      exact X.eG
    ·replace h := condF hb6 h
     refine X.gn ?_
     refine X.gn ?_
     refine X.pF ?_
     refine X.mv ?_
     refine X.gn ?_
     refine X.gn ?_
     refine X.gn ?_
     refine X.pF ?_
     refine X.as ?_
     cases h
     exact X.eG
   replace h := h2; clear h2
   cases h
   refine R.f1 Tryz.results35 ?_
   rfl
  ·replace h := condF hc3 h
   refine Run.sr ?_
   refine X.bi ?_
   refine X.an ?_
   refine R.cd (fun hc8 => ?_) (fun hc8 => ?_)
   ·replace h := condT hc8 h
    refine Run.seq ?_
    obtain ⟨v9, hv9, h⟩ := bindE h
    obtain ⟨e10, he10, h2⟩ := bindE h
    refine R.regG [(4, bool e10)] [] ?_ ?_
    ·clear h; have h := he10; clear he10 h2
     refine X.fl fld38_1 ?_
     refine X.ld shp3 ?_
     refine X.mv ?_
     refine X.subW (by rfl) (by rfl) (by rfl) ?_
     refine X.callP (s_l01In_pc _ _ _ _ hv9) (by rfl) (by rfl) (by rfl) (by trivial) (by rfl) (by rfl) (by rfl) (by rfl) ?_
     refine X.mv ?_
     refine X.iG (fun hb11 => ?_) (fun hb11 => ?_)
     ·replace h := condT hb11 h
      refine X.fl fld38_2 ?_
      refine X.gy ?_
      refine X.ld shp3 ?_
      refine X.gy ?_
      refine X.bi ?_
      refine X.pT ?_
      refine X.mv ?_
      refine X.iG (fun hb12 => ?_) (fun hb12 => ?_)
      ·replace h := condT hb12 h
       refine X.fl fld38_3 ?_
       refine X.gy ?_
       refine X.ld shp3 ?_
       refine X.gy ?_
       refine X.bi ?_
       refine X.pT ?_
       refine X.as ?_
       cases h
       exact X.eG
      ·replace h := condF hb12 h
       refine X.gn ?_
       refine X.gn ?_
       refine X.pF ?_
       refine X.as ?_
       cases h
       exact X.eG
     ·replace h := condF hb11 h
      refine X.gn ?_
      refine X.gn ?_
      refine X.pF ?_
      refine X.mv ?_
      refine X.gn ?_
      refine X.gn ?_
      refine X.gn ?_
      refine X.pF ?_
      refine X.as ?_
      cases h
      exact X.eG
    replace h := h2; clear h2
    cases h
    refine R.f1 Tryz.results35 ?_
    rfl
   ·replace h := condF hc8 h
    refine Run.sr ?_
    refine X.bi ?_
    refine X.an ?_
    refine R.cd (fun hc13 => ?_) (fun hc13 => ?_)
    ·replace h := condT hc13 h
     refine Run.seq ?_
     obtain ⟨v14, hv14, h⟩ := bindE h
     obtain ⟨e15, he15, h2⟩ := bindE h
     refine R.regG [(4, bool e15)] [] ?_ ?_
     ·clear h; have h := he15; clear he15 h2
      refine X.fl fld38_1 ?_
      refine X.ld shp3 ?_
      refine X.fl fld36_3 ?_
      refine X.ld shp34 ?_
      refine X.ls elt34 ?_
      refine X.subW (by rfl) (by rfl) (by rfl) ?_
      refine X.callP (s_l01In_pc _ _ _ _ hv14) (by rfl) (by rfl) (by rfl) (by trivial) (by rfl) (by rfl) (by rfl) (by rfl) ?_
      refine X.mv ?_
      refine X.iG (fun hb16 => ?_) (fun hb16 => ?_)
      ·replace h := condT hb16 h
       refine X.fl fld38_2 ?_
       refine X.gy ?_
       refine X.ld shp3 ?_
       refine X.gy ?_
       obtain ⟨v17, hv17, h⟩ := bindE h
       refine X.callP (s_l01In_pc _ _ _ _ hv17) (by rfl) (by rfl) (by rfl) (by trivial) (by rfl) (by rfl) (by rfl) (by rfl) ?_
       refine X.pT ?_
       refine X.mv ?_
       refine X.iG (fun hb18 => ?_) (fun hb18 => ?_)
       ·replace h := condT hb18 h
        refine X.fl fld38_3 ?_
        refine X.gy ?_
        refine X.ld shp3 ?_
        refine X.gy ?_
        refine X.bi ?_
        refine X.pT ?_
        refine X.as ?_
        cases h
        exact X.eG
       ·replace h := condF hb18 h
        refine X.gn ?_
        refine X.gn ?_
        refine X.pF ?_
        refine X.as ?_
        cases h
        exact X.eG
      ·replace h := condF hb16 h
       refine X.gn ?_
       refine X.gn ?_
       refine X.pF ?_
       refine X.mv ?_
       refine X.gn ?_
       refine X.gn ?_
       refine X.gn ?_
       refine X.pF ?_
       refine X.as ?_
       cases h
       exact X.eG
     replace h := h2; clear h2
     cases h
     refine R.f1 Tryz.results35 ?_
     rfl
    ·replace h := condF hc13 h
     refine Run.sr ?_
     refine X.bi ?_
     refine X.an ?_
     refine R.cd (fun hc19 => ?_) (fun hc19 => ?_)
     ·replace h := condT hc19 h
      refine Run.seq ?_
      obtain ⟨v20, hv20, h⟩ := bindE h
      obtain ⟨e21, he21, h2⟩ := bindE h
      refine R.regG [(4, bool e21)] [] ?_ ?_
      ·clear h; have h := he21; clear he21 h2
       refine X.fl fld38_1 ?_
       refine X.ld shp3 ?_
       refine X.fl fld36_3 ?_
       refine X.ld shp34 ?_
       refine X.ls elt34 ?_
       refine X.subW (by rfl) (by rfl) (by rfl) ?_
       refine X.callP (s_l01In_pc _ _ _ _ hv20) (by rfl) (by rfl) (by rfl) (by trivial) (by rfl) (by rfl) (by rfl) (by rfl) ?_
       refine X.mv ?_
       refine X.iG (fun hb22 => ?_) (fun hb22 => ?_)
       ·replace h := condT hb22 h
        refine X.fl fld38_2 ?_
        refine X.gy ?_
        refine X.ld shp3 ?_
        refine X.gy ?_
        obtain ⟨v23, hv23, h⟩ := bindE h
        refine X.callP (s_l01In_pc _ _ _ _ hv23) (by rfl) (by rfl) (by rfl) (by trivial) (by rfl) (by rfl) (by rfl) (by rfl) ?_
        refine X.pT ?_
        refine X.mv ?_
        refine X.iG (fun hb24 => ?_) (fun hb24 => ?_)
        ·replace h := condT hb24 h
         refine X.fl fld38_3 ?_
         refine X.gy ?_
         refine X.ld shp3 ?_
         refine X.gy ?_
         obtain ⟨v25, hv25, h⟩ := bindE h
         refine X.callP (s_l01In_pc _ _ _ _ hv25) (by rfl) (by rfl) (by rfl) (by trivial) (by rfl) (by rfl) (by rfl) (by rfl) ?_
         refine X.pT ?_
         refine X.mv ?_
         refine X.iG (fun hb26 => ?_) (fun hb26 => ?_)
         ·replace h := condT hb26 h
          refine X.fl fld38_2 ?_
          refine X.gy ?_
          refine X.ld shp3 ?_
          refine X.gy ?_
          refine X.fl fld38_3 ?_
          refine X.gy ?_
          refine X.ld shp3 ?_
          refine X.gy ?_
          refine X.bi ?_
          refine X.pT ?_
          refine X.as ?_
          cases h
          exact X.eG
         ·replace h := condF hb26 h
          refine X.gn ?_
          refine X.gn ?_
          refine X.gn ?_
          refine X.gn ?_
          refine X.pF ?_
          refine X.as ?_
          cases h
          exact X.eG
        ·replace h := condF hb24 h
         refine X.gn ?_
         refine X.gn ?_
         refine X.pF ?_
         refine X.mv ?_
         refine X.gn ?_
         refine X.gn ?_
         refine X.gn ?_
         refine X.gn ?_
         refine X.gn ?_
         refine X.pF ?_
         refine X.as ?_
         cases h
         exact X.eG
       ·replace h := condF hb22 h
        refine X.gn ?_
        refine X.gn ?_
        refine X.pF ?_
        refine X.mv ?_
        refine X.gn ?_
        refine X.gn ?_
        refine X.gn ?_
        refine X.pF ?_
        refine X.mv ?_
        refine X.gn ?_
        refine X.gn ?_
        refine X.gn ?_
        refine X.gn ?_
        refine X.gn ?_
        refine X.pF ?_
        refine X.as ?_
        cases h
        exact X.eG
      replace h := h2; clear h2
      cases h
      refine R.f1 Tryz.results35 ?_
      rfl
     ·replace h := condF hc19 h
      refine Run.sr ?_
      refine X.bi ?_
      refine X.an ?_
      refine R.cd (fun hc27 => ?_) (fun hc27 => ?_)
      ·replace h := condT hc27 h
       refine Run.seq ?_
       obtain ⟨v28, hv28, h⟩ := bindE h
       obtain ⟨e29, he29, h2⟩ := bindE h
       refine R.regG [(4, bool e29)] [] ?_ ?_
       ·clear h; have h := he29; clear he29 h2
        refine X.ld shp36 ?_
        refine X.fl fld38_1 ?_
        refine X.ld shp3 ?_
        refine X.callP (s_IsMachine_pc _ _ _ hv28) (by rfl) (by rfl) (by rfl) (by trivial) (by rfl) (by rfl) (by rfl) (by rfl) ?_
        refine X.mv ?_
        refine X.iG (fun hb30 => ?_) (fun hb30 => ?_)
        ·replace h := condT hb30 h
         refine X.fl fld38_2 ?_
         refine X.gy ?_
         refine X.ld shp3 ?_
         refine X.gy ?_
         refine X.mv ?_
         refine X.gy ?_
         refine X.subW (by rfl) (by rfl) (by rfl) ?_
         refine X.gy ?_
         obtain ⟨v31, hv31, h⟩ := bindE h
         refine X.callP (s_l01In_pc _ _ _ _ hv31) (by rfl) (by rfl) (by rfl) (by trivial) (by rfl) (by rfl) (by rfl) (by rfl) ?_
         refine X.pT ?_
         refine X.mv ?_
         refine X.iG (fun hb32 => ?_) (fun hb32 => ?_)
         ·replace h := condT hb32 h
          refine X.fl fld38_3 ?_
          refine X.gy ?_
          refine X.ld shp3 ?_
          refine X.gy ?_
          refine X.mv ?_
          refine X.gy ?_
          refine X.subW (by rfl) (by rfl) (by rfl) ?_
          refine X.gy ?_
          obtain ⟨v33, hv33, h⟩ := bindE h
          refine X.callP (s_l01In_pc _ _ _ _ hv33) (by rfl) (by rfl) (by rfl) (by trivial) (by rfl) (by rfl) (by rfl) (by rfl) ?_
          refine X.pT ?_
          refine X.mv ?_
          refine X.iG (fun hb34 => ?_) (fun hb34 => ?_)
          ·replace h := condT hb34 h
           refine X.fl fld38_2 ?_
           refine X.gy ?_
           refine X.ld shp3 ?_
           refine X.gy ?_
           refine X.fl fld38_3 ?_
           refine X.gy ?_
           refine X.ld shp3 ?_
           refine X.gy ?_
           refine X.bi ?_
           refine X.pT ?_
           refine X.as ?_
           cases h
           exact X.eG
          ·replace h := condF hb34 h
           refine X.gn ?_
           refine X.gn ?_
           refine X.gn ?_
           refine X.gn ?_
           refine X.pF ?_
           refine X.as ?_
           cases h
           exact X.eG
         ·replace h := condF hb32 h
          refine X.gn ?_
          refine X.gn ?_
          refine X.gn ?_
          refine X.gn ?_
          refine X.pF ?_
          refine X.mv ?_
          refine X.gn ?_
          refine X.gn ?_
          refine X.gn ?_
          refine X.gn ?_
          refine X.gn ?_
          refine X.pF ?_
          refine X.as ?_
          cases h
          exact X.eG
        ·replace h := condF hb30 h
         refine X.gn ?_
         refine X.gn ?_
         refine X.gn ?_
         refine X.gn ?_
         refine X.pF ?_
         refine X.mv ?_
         refine X.gn ?_
         refine X.gn ?_
         refine X.gn ?_
         refine X.gn ?_
         refine X.gn ?_
         refine X.pF ?_
         refine X.mv ?_
         refine X.gn ?_
         refine X.gn ?_
         refine X.gn ?_
         refine X.gn ?_
         refine X.gn ?_
         refine X.pF ?_
         refine X.as ?_
         cases h
         exact X.eG
       replace h := h2; clear h2
       cases h
       refine R.f1 Tryz.results35 ?_
       rfl
      ·replace h := condF hc27 h
       refine Run.sr ?_
       refine X.bi ?_
       refine X.an ?_
       refine R.cd (fun hc35 => ?_) (fun hc35 => ?_)
       ·replace h := condT hc35 h
        refine Run.seq ?_
        obtain ⟨v36, hv36, h⟩ := bindE h
        obtain ⟨e37, he37, h2⟩ := bindE h
        refine R.regG [(4, bool e37)] [] ?_ ?_
        ·clear h; have h := he37; clear he37 h2
         refine X.fl fld38_1 ?_
         refine X.ld shp3 ?_
         refine X.fl fld36_4 ?_
         refine X.ld shp25 ?_
         refine X.ls elt25 ?_
         refine X.subW (by rfl) (by rfl) (by rfl) ?_
         refine X.callP (s_l01In_pc _ _ _ _ hv36) (by rfl) (by rfl) (by rfl) (by trivial) (by rfl) (by rfl) (by rfl) (by rfl) ?_
         refine X.mv ?_
         refine X.iG (fun hb38 => ?_) (fun hb38 => ?_)
         ·replace h := condT hb38 h
          refine X.fl fld38_2 ?_
          refine X.gy ?_
          refine X.ld shp3 ?_
          refine X.gy ?_
          refine X.bi ?_
          refine X.pT ?_
          refine X.mv ?_
          refine X.iG (fun hb39 => ?_) (fun hb39 => ?_)
          ·replace h := condT hb39 h
           refine X.fl fld38_3 ?_
           refine X.gy ?_
           refine X.ld shp3 ?_
           refine X.gy ?_
           refine X.bi ?_
           refine X.pT ?_
           refine X.as ?_
           cases h
           exact X.eG
          ·replace h := condF hb39 h
           refine X.gn ?_
           refine X.gn ?_
           refine X.pF ?_
           refine X.as ?_
           cases h
           exact X.eG
         ·replace h := condF hb38 h
          refine X.gn ?_
          refine X.gn ?_
          refine X.pF ?_
          refine X.mv ?_
          refine X.gn ?_
          refine X.gn ?_
          refine X.gn ?_
          refine X.pF ?_
          refine X.as ?_
          cases h
          exact X.eG
        replace h := h2; clear h2
        cases h
        refine R.f1 Tryz.results35 ?_
        rfl
       ·replace h := condF hc35 h
        refine Run.skip ?_
        refine Run.blk ?_
        refine Run.sr ?_
        refine X.an ?_
        cases h
        refine R.f1 Tryz.results35 ?_
        rfl
theorem s_Users_pc (b0 : TProject) (b1 : Int) (r : List Int) (h : s_Users b0 b1 = some r) : PC Tryz.prog 38 [eTProject b0, int b1] (.slice (r.map int)) := by
 unfold s_Users at h
 refine PC.start Tryz.func38 Tryz.ntmps38 rfl ok38 rfl ?_
 refine Run.sr ?_
 refine X.bx ?_
 refine X.an ?_
 refine Run.sr ?_
 refine X.buildSlice false elt25 zer3 (by rfl) (by rfl) (by rfl) (by rfl) (by rfl) (by rfl) (by repeat (first | trivial | refine ⟨by first | rfl | simp [setL], ?_⟩)) (allSz_spec (by rfl)) (by rfl) (by rfl) (by rfl) ?_
 refine X.an ?_
 refine Run.seq ?_
 refine Run.seq ?_
 obtain ⟨v1, hv1, h⟩ := bindE h
 obtain ⟨e2, he2, h2⟩ := bindE h
 refine R.regG [(1, int b1), (2, .lptr 128 0), (5, .own 640 (([] : List Int).map int).length), (22, bool e2)] [(128, .blk true [int b0.Deadline, .slice (b0.Activities.map eTActivity), .slice (b0.Links.map eTLink), .slice (b0.Resources.map eTResource), .slice (b0.Stocks.map int)]), (640, .obj false 3 1 (([] : List Int).map int))] ?_ ?_
 ·clear h; have h := he2; clear he2 h2
  refine X.ld shp36 ?_
  refine X.callP (s_ProjectOk_pc _ _ hv1) (by rfl) (by rfl) (by rfl) (by trivial) (by rfl) (by rfl) (by rfl) (by rfl) ?_
  refine X.un (by rfl) (by rfl) (by rfl) ?_
  refine X.mv ?_
  refine X.iG (fun hb3 => ?_) (fun hb3 => ?_)
  ·replace h := condF hb3 h
   refine X.mv ?_
   refine X.gy ?_
   refine X.fl fld36_3 ?_
   refine X.gy ?_
   refine X.ld shp34 ?_
   refine X.gy ?_
   refine X.ls elt34 ?_
   refine X.gy ?_
   refine X.subW (by rfl) (by rfl) (by rfl) ?_
   refine X.gy ?_
   obtain ⟨v4, hv4, h⟩ := bindE h
   refine X.callP (s_l01In_pc _ _ _ _ hv4) (by rfl) (by rfl) (by rfl) (by trivial) (by rfl) (by rfl) (by rfl) (by rfl) ?_
   refine X.gy ?_
   refine X.un (by rfl) (by rfl) (by rfl) ?_
   refine X.pF ?_
   cases h
   exact X.eG
  ·replace h := condT hb3 h
   refine X.gn ?_
   refine X.gn ?_
   refine X.gn ?_
   refine X.gn ?_
   refine X.gn ?_
   refine X.gn ?_
   refine X.pT ?_
   cases h
   exact X.eG
 replace h := h2; clear h2
 refine R.cd (fun hc5 => ?_) (fun hc5 => ?_)
 ·replace h := condT hc5 h
  refine Run.sr ?_
  refine X.an ?_
  cases h
  refine R.castS (t := 4) (.slice []) (by rfl) (.inr (.inl ⟨rfl, rfl⟩)) ?_
  refine R.f1 Tryz.results38 ?_
  rfl
 ·replace h := condF hc5 h
  refine Run.skip ?_
  refine Run.seq ?_
  refine Run.sr ?_
  refine X.fl fld36_1 ?_
  refine X.ld shp32 ?_
  refine X.ls elt32 ?_
  refine X.mn ?_
  obtain ⟨o6, ho6, h⟩ := bindE h
  refine R.join2 (β := (List Int)) [] [] (fun p34 S => (5, .slice (p34.map int)) :: S) (fun p34 M => M) (fun p34 => p34 = o6) ?_ ?_
  ·intro JJ9 hmeet8
   have hup7 := h; clear h; have h := ho6; clear ho6
   refine Run.block ?_
   refine R.castS (t := 5) _ (by rfl) (.inr (.inr ⟨_, _, _, _, _, rfl, (by rfl), (by first | rfl | simp [setL] | omega), rfl⟩)) ?_
   refine R.bndS (t := 24) (by rfl) (fun hbd12 => ?_)
   replace hbd12 : b0.Activities.length ≤ 9223372036854775807 := by first | (rw [List.length_map] at hbd12; exact hbd12) | simp
   refine R.loop2 (β := Int × (List Int)) [(1, int b1), (24, .slice (b0.Activities.map eTActivity)), (25, int (b0.Activities.length : Int))] [] (fun bb S => (5, .slice (bb.2.map int)) :: (26, int bb.1) :: S) (fun bb M => M) (fun n bb => 0 ≤ bb.1 ∧ bb.1 + n = (b0.Activities.length : Int) ∧ s_Users_L1 b1 (b0.Activities.drop bb.1.toNat) bb.1 bb.2 = some o6) b0.Activities.length (0, ([] : List Int)) (by repeat (first | trivial | refine ⟨by first | rfl | simp [setL], ?_⟩)) (by repeat (first | trivial | refine ⟨by first | rfl | simp [setL], ?_⟩)) (by rfl) (by rfl) ⟨Int.le_refl _, by simp, h⟩ ?_
   clear h
   rintro JJ12 n12 ⟨z13, a14⟩ hag12 ⟨hza12, hzb12, h⟩
   dsimp only at hza12 hzb12 h
   refine Run.sr ?_
   refine X.bi ?_
   refine X.nil ?_
   refine Run.seq ?_
   refine R.cd (fun hc17 => ?_) (fun hc17 => ?_)
   ·obtain ⟨x15, xs16, hd12, hx12, hds12, hlt12⟩ := drop_atI hza12 hc17
    rw [hd12] at h
    rw [s_Users_L1] at h
    refine Run.skip ?_
    refine Run.seq ?_
    refine Run.block ?_
    refine Run.sr ?_
    refine X.mv ?_
    refine X.index_s elt32 (by rfl) (by rfl) (idxL_spec hx12).1 (idxL_map eTActivity hx12) (by rfl) (by rfl) (by rfl) ?_
    refine X.lc shp108 ?_
    refine X.alloc zer108 (by rfl) (by rfl) (by rfl) ?_
    refine X.as ?_
    refine X.sl shp108 ?_
    refine X.nil ?_
    refine Run.sr ?_
    refine X.fl fld108_2 ?_
    refine X.ld shp106 ?_
    refine X.ls elt106 ?_
    refine X.mn ?_
    obtain ⟨o18, ho18, h⟩ := bindE h
    refine R.join2 (β := (List Int)) [(1, int b1), (24, .slice (b0.Activities.map eTActivity)), (25, int (b0.Activities.length : Int)), (26, int z13)] [] (fun p33 S => (5, .slice (p33.map int)) :: S) (fun p33 M => M) (fun p33 => p33 = o18) ?_ ?_
    ·intro JJ21 hmeet20
     have hup19 := h; clear h; have h := ho18; clear ho18
     refine Run.block ?_
     refine R.bndS (t := 32) (by rfl) (fun hbd24 => ?_)
     replace hbd24 : x15.Modes.length ≤ 9223372036854775807 := by first | (rw [List.length_map] at hbd24; exact hbd24) | simp
     refine R.loop2 (β := Int × (List Int)) [(1, int b1), (6, int z13), (24, .slice (b0.Activities.map eTActivity)), (25, int (b0.Activities.length : Int)), (26, int z13), (32, .slice (x15.Modes.map eTMode)), (33, int (x15.Modes.length : Int))] [] (fun bb S => (5, .slice (bb.2.map int)) :: (34, int bb.1) :: S) (fun bb M => M) (fun n bb => 0 ≤ bb.1 ∧ bb.1 + n = (x15.Modes.length : Int) ∧ s_Users_L2 b1 z13 (x15.Modes.drop bb.1.toNat) bb.1 bb.2 = some o18) x15.Modes.length (0, a14) (by repeat (first | trivial | refine ⟨by first | rfl | simp [setL], ?_⟩)) (by repeat (first | trivial | refine ⟨by first | rfl | simp [setL], ?_⟩)) (by rfl) (by rfl) ⟨Int.le_refl _, by simp, h⟩ ?_
     clear h
     rintro JJ24 n24 ⟨z25, a26⟩ hag24 ⟨hza24, hzb24, h⟩
     dsimp only at hza24 hzb24 h
     refine Run.sr ?_
     refine X.bi ?_
     refine X.nil ?_
     refine Run.seq ?_
     refine R.cd (fun hc29 => ?_) (fun hc29 => ?_)
     ·obtain ⟨x27, xs28, hd24, hx24, hds24, hlt24⟩ := drop_atI hza24 hc29
      rw [hd24] at h
      rw [s_Users_L2] at h
      refine Run.skip ?_
      refine Run.seq ?_
      refine Run.block ?_
      refine Run.sr ?_
      refine X.index_s elt106 (by rfl) (by rfl) (idxL_spec hx24).1 (idxL_map eTMode hx24) (by rfl) (by rfl) (by rfl) ?_
      refine X.lc shp110 ?_
      refine X.alloc zer110 (by rfl) (by rfl) (by rfl) ?_
      refine X.sl shp110 ?_
      refine X.nil ?_
      refine Run.sr ?_
      refine X.fl fld110_1 ?_
      refine X.ld shp25 ?_
      refine X.mv ?_
      obtain ⟨v30, hv30, h⟩ := bindE h
      refine X.index_s elt25 (by rfl) (by rfl) (idxL_spec hv30).1 (idxL_map int hv30) (by rfl) (by rfl) (by rfl) ?_
      refine X.lc shp3 ?_
      refine X.bi ?_
      refine X.nil ?_
      refine R.cd (fun hc31 => ?_) (fun hc31 => ?_)
      ·replace h := condT hc31 h
       refine Run.reg ?_
       refine X.mv ?_
       refine X.mv ?_
       obtain ⟨v32, hv32, h⟩ := bindE h
       refine X.callP (s_SetAdd_pc _ _ _ hv32) (by rfl) (by rfl) (by rfl) (by trivial) (by rfl) (by rfl) (by rfl) (by rfl) ?_
       refine X.an ?_
       refine Run.blk ?_
       refine Run.reg ?_
       refine X.add (by rfl) (by rfl) (by omega) (by rfl) ?_
       refine X.mn ?_
       exact hag24 (n24 - 1) (z25 + 1, v32) _ _ (by omega) ⟨by first | omega | (dsimp only; omega), by first | omega | (dsimp only; omega), by first | (rw [hds24]; exact h) | (dsimp only; rw [hds24]; exact h)⟩ (by trivial) (by trivial) (by rfl) (by rfl)
      ·replace h := condF hc31 h
       refine Run.skip ?_
       refine Run.blk ?_
       refine Run.reg ?_
       refine X.add (by rfl) (by rfl) (by omega) (by rfl) ?_
       refine X.mn ?_
       exact hag24 (n24 - 1) (z25 + 1, a26) _ _ (by omega) ⟨by first | omega | (dsimp only; omega), by first | omega | (dsimp only; omega), by first | (rw [hds24]; exact h) | (dsimp only; rw [hds24]; exact h)⟩ (by trivial) (by trivial) (by rfl) (by rfl)
     ·rw [drop_endI hza24 hc29] at h
      rw [s_Users_L2] at h
      refine Run.exit (by rfl) ?_
      exact hmeet20 a26 _ _ (Option.some.inj h) (by trivial) (by trivial) (by rfl) (by rfl)
    rintro p33 rfl
    refine Run.blk ?_
    refine Run.reg ?_
    refine X.add (by rfl) (by rfl) (by omega) (by rfl) ?_
    refine X.mn ?_
    exact hag12 (n12 - 1) (z13 + 1, p33) _ _ (by omega) ⟨by first | omega | (dsimp only; omega), by first | omega | (dsimp only; omega), by first | (rw [hds12]; exact h) | (dsimp only; rw [hds12]; exact h)⟩ (by trivial) (by trivial) (by rfl) (by rfl)
   ·rw [drop_endI hza12 hc17] at h
    rw [s_Users_L1] at h
    refine Run.exit (by rfl) ?_
    exact hmeet8 a14 _ _ (Option.some.inj h) (by trivial) (by trivial) (by rfl) (by rfl)
  rintro p34 rfl
  refine Run.sr ?_
  refine X.mv ?_
  refine X.an ?_
  cases h
  refine R.f1 Tryz.results38 ?_
  rfl
theorem s_RuleActivities_pc (b0 : TProject) (b1 : TRule) (r : List Int) (h : s_RuleActivities b0 b1 = some r) : PC Tryz.prog 8 [eTProject b0, eTRule b1] (.slice (r.map int)) := by
 unfold s_RuleActivities at h
 refine PC.start Tryz.func8 Tryz.ntmps8 rfl ok8 rfl ?_
 refine Run.sr ?_
 refine X.bx ?_
 refine X.bx ?_
 refine X.an ?_
 refine Run.seq ?_
 refine Run.sr ?_
 refine X.ld shp36 ?_
 refine X.ld shp38 ?_
 obtain ⟨v1, hv1, h⟩ := bindE h
 refine X.callP (s_RuleOk_pc _ _ _ hv1) (by rfl) (by rfl) (by rfl) (by trivial) (by rfl) (by rfl) (by rfl) (by rfl) ?_
 refine X.un (by rfl) (by rfl) (by rfl) ?_
 refine X.nil ?_
 refine R.cd (fun hc2 => ?_) (fun hc2 => ?_)
 ·replace h := condT hc2 h
  refine Run.sr ?_
  refine X.an ?_
  cases h
  refine R.castS (t := 4) (.slice []) (by rfl) (.inr (.inl ⟨rfl, rfl⟩)) ?_
  refine R.f1 Tryz.results8 ?_
  rfl
 ·replace h := condF hc2 h
  refine Run.skip ?_
  refine Run.seq ?_
  refine Run.sr ?_
  refine X.fl fld38_0 ?_
  refine X.ld shp3 ?_
  refine X.nil ?_
  refine Run.block ?_
  refine Run.sr ?_
  refine X.bi ?_
  refine X.an ?_
  refine R.cd (fun hc3 => ?_) (fun hc3 => ?_)
  ·replace h := condT hc3 h
   refine Run.seq ?_
   refine Run.draw (footOf [(1, ([128], [], [], [])), (3, ([192], [], [], [])), (8, ([128], [], [], [])), (10, ([192], [], [], [])), (14, ([1728], [1728], [], [])), (15, ([1728], [], [], []))]) mixed (by kernel_rfl) (by kernel_rfl) ?_
   refine X.fl fld36_2 ?_
   refine X.ld shp33 ?_
   refine X.fl fld38_1 ?_
   refine X.ld shp3 ?_
   obtain ⟨v4, hv4, h⟩ := bindE h
   refine X.index_s elt33 (by rfl) (by rfl) (idxL_spec hv4).1 (idxL_map eTLink hv4) (by rfl) (by rfl) (by rfl) ?_
   refine X.fieldAddr_c fld68_0 (by rfl) (by rfl) ?_
   refine X.lc shp3 ?_
   refine X.fl fld36_2 ?_
   refine X.ld shp33 ?_
   refine X.fl fld38_1 ?_
   refine X.ld shp3 ?_
   refine X.index_s elt33 (by rfl) (by rfl) (idxL_spec hv4).1 (idxL_map eTLink hv4) (by rfl) (by rfl) (by rfl) ?_
   refine X.fieldAddr_c fld68_1 (by rfl) (by rfl) ?_
   refine X.lc shp3 ?_
   refine X.buildSlice false elt25 zer3 (by rfl) (by rfl) (by rfl) (by rfl) (by rfl) (by rfl) (by repeat (first | trivial | refine ⟨by first | rfl | simp [setL], ?_⟩)) (allSz_spec (by rfl)) (by rfl) (by rfl) (by rfl) ?_
   obtain ⟨v5, hv5, h⟩ := bindE h
   refine X.callP (s_SetOf_pc _ _ hv5) (by rfl) (by rfl) (by rfl) (by repeat (first | trivial | refine ⟨by first | rfl | simp [setL], ?_⟩)) (by rfl) (by rfl) (by rfl) (by rfl) ?_
   refine X.an ?_
   cases h
   refine R.f1 Tryz.results8 ?_
   rfl
  ·replace h := condF hc3 h
   refine Run.sr ?_
   refine X.bi ?_
   refine X.an ?_
   refine R.cd (fun hc6 => ?_) (fun hc6 => ?_)
   ·replace h := condT hc6 h
    refine Run.sr ?_
    refine X.fl fld38_1 ?_
    refine X.ld shp3 ?_
    refine X.buildSlice false elt25 zer3 (by rfl) (by rfl) (by rfl) (by rfl) (by rfl) (by rfl) (by repeat (first | trivial | refine ⟨by first | rfl | simp [setL], ?_⟩)) (allSz_spec (by rfl)) (by rfl) (by rfl) (by rfl) ?_
    refine X.an ?_
    cases h
    refine R.castS (t := 4) _ (by rfl) (.inr (.inr ⟨_, _, _, _, _, rfl, (by rfl), (by first | rfl | simp [setL] | omega), rfl⟩)) ?_
    refine R.f1 Tryz.results8 ?_
    rfl
   ·replace h := condF hc6 h
    refine Run.sr ?_
    refine X.bi ?_
    refine X.an ?_
    refine R.cd (fun hc7 => ?_) (fun hc7 => ?_)
    ·replace h := condT hc7 h
     refine Run.sr ?_
     refine X.fl fld38_2 ?_
     refine X.ld shp3 ?_
     refine X.fl fld38_3 ?_
     refine X.ld shp3 ?_
     refine X.buildSlice false elt25 zer3 (by rfl) (by rfl) (by rfl) (by rfl) (by rfl) (by rfl) (by repeat (first | trivial | refine ⟨by first | rfl | simp [setL], ?_⟩)) (allSz_spec (by rfl)) (by rfl) (by rfl) (by rfl) ?_
     refine X.an ?_
     cases h
     refine R.castS (t := 4) _ (by rfl) (.inr (.inr ⟨_, _, _, _, _, rfl, (by rfl), (by first | rfl | simp [setL] | omega), rfl⟩)) ?_
     refine R.f1 Tryz.results8 ?_
     rfl
    ·replace h := condF hc7 h
     refine Run.sr ?_
     refine X.bi ?_
     refine X.an ?_
     refine R.cd (fun hc8 => ?_) (fun hc8 => ?_)
     ·replace h := condT hc8 h
      refine Run.sr ?_
      refine X.fl fld36_1 ?_
      refine X.ld shp32 ?_
      refine X.ls elt32 ?_
      obtain ⟨v9, hv9, h⟩ := bindE h
      refine X.callF (s_IntRange_pc _ _ hv9) (by rfl) (by rfl) (by rfl) (by trivial) (by rfl) (by rfl) (by rfl) (by rfl) ?_
      refine X.an ?_
      cases h
      refine R.castS (t := 4) _ (by rfl) (.inr (.inr ⟨_, _, _, _, _, rfl, (by rfl), (by first | rfl | simp [setL] | omega), rfl⟩)) ?_
      refine R.f1 Tryz.results8 ?_
      rfl
     ·replace h := condF hc8 h
      refine Run.skip ?_
      refine Run.blk ?_
      refine Run.sr ?_
      refine X.ld shp36 ?_
      refine X.fl fld38_1 ?_
      refine X.ld shp3 ?_
      obtain ⟨v10, hv10, h⟩ := bindE h
      refine X.callP (s_Users_pc _ _ _ hv10) (by rfl) (by rfl) (by rfl) (by trivial) (by rfl) (by rfl) (by rfl) (by rfl) ?_
      refine X.an ?_
      cases h
      refine R.f1 Tryz.results8 ?_
      rfl
theorem i_Users_c1_pc (b0 : TMode) (c1 : Int) (r : Bool) (h : i_Users_c1 b0 c1 = some r) : PC Tryz.prog 90 [eTMode b0, .cptr (int c1 : PV).cells 0] (bool r) := by
 unfold i_Users_c1 at h
 refine PC.start Tryz.func90 Tryz.ntmps90 rfl ok90 rfl ?_
 refine Run.sr ?_
 refine X.bx ?_
 refine X.an ?_
 refine Run.sr ?_
 refine X.fl fld110_1 ?_
 refine X.ld shp25 ?_
 refine X.lc shp3 ?_
 obtain ⟨v1, hv1, h⟩ := bindE h
 refine X.index_s elt25 (by rfl) (by rfl) (idxL_spec hv1).1 (idxL_map int hv1) (by rfl) (by rfl) (by rfl) ?_
 refine X.lc shp3 ?_
 refine X.bi ?_
 refine X.an ?_
 cases h
 refine R.f1 Tryz.results90 ?_
 rfl
theorem slices_IndexFunc_Mode_pc (b0 : List TMode) (g1 : TMode → Option Bool) (g1id : Nat) (g1c : List PV) (hg1 : ∀ (x0 : TMode) v, g1 x0 = some v → PC Tryz.prog g1id ([eTMode x0] ++ g1c) (bool v)) (r : Int) (h : slices_IndexFunc_Mode b0 g1 = some r) : PC Tryz.prog 137 [.slice (b0.map eTMode), .fn g1id g1c] (int r) := by
 unfold slices_IndexFunc_Mode at h
 refine PC.start Tryz.func137 Tryz.ntmps137 rfl ok137 rfl ?_
 refine Run.sr ?_
 refine X.an ?_
 refine Run.seq ?_
 refine Run.sr ?_
 refine X.mv ?_
 refine X.ls elt106 ?_
 refine X.mn ?_
 obtain ⟨o1, ho1, h⟩ := bindE h
 refine R.join2 (β := Unit) [] [] (fun p14 S => S) (fun p14 M => M) (fun p14 => (Sum.inl p14) = o1) ?_ ?_
 ·intro JJ4 hmeet3
  have hup2 := h; clear h; have h := ho1; clear ho1
  refine Run.block ?_
  refine R.bndS (t := 0) (by rfl) (fun hbd7 => ?_)
  replace hbd7 : b0.length ≤ 9223372036854775807 := by first | (rw [List.length_map] at hbd7; exact hbd7) | simp
  refine R.loop2 (β := Int) [(0, .slice (b0.map eTMode)), (1, .fn g1id g1c), (7, int (b0.length : Int))] [] (fun bb S => (8, int bb) :: S) (fun bb M => M) (fun n bb => 0 ≤ bb ∧ bb + n = (b0.length : Int) ∧ slices_IndexFunc_Mode_L1 g1 (b0.drop bb.toNat) bb = some o1) b0.length (0 : Int) (by repeat (first | trivial | refine ⟨by first | rfl | simp [setL], ?_⟩)) (by repeat (first | trivial | refine ⟨by first | rfl | simp [setL], ?_⟩)) (by rfl) (by rfl) ⟨Int.le_refl _, by simp, h⟩ ?_
  clear h
  rintro JJ7 n7 z8 hag7 ⟨hza7, hzb7, h⟩
  refine Run.sr ?_
  refine X.bi ?_
  refine X.nil ?_
  refine Run.seq ?_
  refine R.cd (fun hc11 => ?_) (fun hc11 => ?_)
  ·obtain ⟨x9, xs10, hd7, hx7, hds7, hlt7⟩ := drop_atI hza7 hc11
   rw [hd7] at h
   rw [slices_IndexFunc_Mode_L1] at h
   refine Run.skip ?_
   refine Run.seq ?_
   refine Run.block ?_
   refine Run.sr ?_
   refine X.mv ?_
   refine X.an ?_
   refine Run.sr ?_
   refine X.mv ?_
   refine X.mv ?_
   refine X.mv ?_
   refine X.index_s elt106 (by rfl) (by rfl) (idxL_spec hx7).1 (idxL_map eTMode hx7) (by rfl) (by rfl) (by rfl) ?_
   refine X.lc shp110 ?_
   obtain ⟨v12, hv12, h⟩ := bindE h
   refine X.callP (hg1 _ _ hv12) (by rfl) (by rfl) (by rfl) (by trivial) (by rfl) (by rfl) (by rfl) (by rfl) ?_
   refine X.nil ?_
   refine R.cd (fun hc13 => ?_) (fun hc13 => ?_)
   ·replace h := condT hc13 h
    refine Run.sr ?_
    refine X.mv ?_
    refine X.an ?_
    cases h
    have h := hup2
    replace h := elimR h
    cases h
    refine R.f1 Tryz.results137 ?_
    rfl
   ·replace h := condF hc13 h
    refine Run.skip ?_
    refine Run.blk ?_
    refine Run.reg ?_
    refine X.add (by rfl) (by rfl) (by omega) (by rfl) ?_
    refine X.mn ?_
    exact hag7 (n7 - 1) (z8 + 1) _ _ (by omega) ⟨by first | omega | (dsimp only; omega), by first | omega | (dsimp only; omega), by first | (rw [hds7]; exact h) | (dsimp only; rw [hds7]; exact h)⟩ (by trivial) (by trivial) (by rfl) (by rfl)
  ·rw [drop_endI hza7 hc11] at h
   rw [slices_IndexFunc_Mode_L1] at h
   refine Run.exit (by rfl) ?_
   exact hmeet3 () _ _ (Option.some.inj h) (by trivial) (by trivial) (by rfl) (by rfl)
 rintro p14 rfl
 replace h := elimL h
 refine Run.sr ?_
 refine X.an ?_
 cases h
 refine R.f1 Tryz.results137 ?_
 rfl
theorem slices_ContainsFunc_Mode_pc (b0 : List TMode) (g1 : TMode → Option Bool) (g1id : Nat) (g1c : List PV) (hg1 : ∀ (x0 : TMode) v, g1 x0 = some v → PC Tryz.prog g1id ([eTMode x0] ++ g1c) (bool v)) (r : Bool) (h : slices_ContainsFunc_Mode b0 g1 = some r) : PC Tryz.prog 89 [.slice (b0.map eTMode), .fn g1id g1c] (bool r) := by
 unfold slices_ContainsFunc_Mode at h
 refine PC.start Tryz.func89 Tryz.ntmps89 rfl ok89 rfl ?_
 refine Run.sr ?_
 refine X.an ?_
 refine Run.sr ?_
 refine X.mv ?_
 refine X.mv ?_
 obtain ⟨v1, hv1, h⟩ := bindE h
 refine X.callP (slices_IndexFunc_Mode_pc _ g1 _ _ hg1 _ hv1) (by rfl) (by rfl) (by rfl) (by trivial) (by rfl) (by rfl) (by rfl) (by rfl) ?_
 refine X.bi ?_
 refine X.an ?_
 cases h
 refine R.f1 Tryz.results89 ?_
 rfl
theorem i_Users_pc (b0 : TProject) (b1 : Int) (r : List Int) (h : i_Users b0 b1 = some r) : PC Tryz.prog 45 [eTProject b0, int b1] (.fresh true 3 1 (r.map int)) := by
 unfold i_Users at h
 refine PC.start Tryz.func45 Tryz.ntmps45 rfl ok45 rfl ?_
 refine Run.sr ?_
 refine X.bx ?_
 refine X.bx ?_
 refine X.an ?_
 refine Run.seq ?_
 refine Run.seq ?_
 obtain ⟨v1, hv1, h⟩ := bindE h
 obtain ⟨e2, he2, h2⟩ := bindE h
 refine R.regG [(2, .lptr 128 0), (3, .lptr 192 0), (16, bool e2)] [(128, .blk true [int b0.Deadline, .slice (b0.Activities.map eTActivity), .slice (b0.Links.map eTLink), .slice (b0.Resources.map eTResource), .slice (b0.Stocks.map int)]), (192, .blk true [int b1])] ?_ ?_
 ·clear h; have h := he2; clear he2 h2
  refine X.ld shp36 ?_
  refine X.callP (i_ProjectOk_pc _ _ hv1) (by rfl) (by rfl) (by rfl) (by trivial) (by rfl) (by rfl) (by rfl) (by rfl) ?_
  refine X.un (by rfl) (by rfl) (by rfl) ?_
  refine X.mv ?_
  refine X.iG (fun hb3 => ?_) (fun hb3 => ?_)
  ·replace h := condF hb3 h
   refine X.ld shp36 ?_
   refine X.gy ?_
   refine X.ld shp3 ?_
   refine X.gy ?_
   obtain ⟨v4, hv4, h⟩ := bindE h
   refine X.callP (i_Project_hasResource_pc _ _ _ hv4) (by rfl) (by rfl) (by rfl) (by trivial) (by rfl) (by rfl) (by rfl) (by rfl) ?_
   refine X.gy ?_
   refine X.un (by rfl) (by rfl) (by rfl) ?_
   refine X.pF ?_
   cases h
   exact X.eG
  ·replace h := condT hb3 h
   refine X.gn ?_
   refine X.gn ?_
   refine X.gn ?_
   refine X.pT ?_
   cases h
   exact X.eG
 replace h := h2; clear h2
 refine R.cd (fun hc5 => ?_) (fun hc5 => ?_)
 ·replace h := condT hc5 h
  refine Run.sr ?_
  refine X.an ?_
  cases h
  refine R.fin1n (x := true) (e := 3) (sz := 1) Tryz.results45 (by rfl) (by decide) ?_
  rfl
 ·replace h := condF hc5 h
  refine Run.skip ?_
  refine Run.sr ?_
  refine X.buildSlice true elt25 zer3 (by rfl) (by rfl) (by rfl) (by rfl) (by rfl) (by rfl) (by repeat (first | trivial | refine ⟨by first | rfl | simp [setL], ?_⟩)) (allSz_spec (by rfl)) (by rfl) (by rfl) (by rfl) ?_
  refine X.an ?_
  refine Run.seq ?_
  refine Run.sr ?_
  refine X.fl fld36_1 ?_
  refine X.ld shp32 ?_
  refine X.ls elt32 ?_
  refine X.mn ?_
  obtain ⟨o6, ho6, h⟩ := bindE h
  refine R.join2 (β := (List Int)) [] [] (fun p21 S => (5, .own 1088 (p21.map int).length) :: S) (fun p21 M => (1088, .obj true 3 1 (p21.map int)) :: M) (fun p21 => p21 = o6) ?_ ?_
  ·intro JJ9 hmeet8
   have hup7 := h; clear h; have h := ho6; clear ho6
   refine Run.block ?_
   refine R.pubBlk (n := 192) (by rfl) (by rfl) (by repeat (first | trivial | refine ⟨by first | rfl | simp [setL], ?_⟩)) ?_
   refine R.bndS (t := 19) (by rfl) (fun hbd12 => ?_)
   replace hbd12 : b0.Activities.length ≤ 9223372036854775807 := by first | (rw [List.length_map] at hbd12; exact hbd12) | simp
   refine R.loop2 (β := Int × (List Int)) [(3, .lptr 192 0), (19, .slice (b0.Activities.map eTActivity)), (20, int (b0.Activities.length : Int))] [(192, .blk false [int b1])] (fun bb S => (5, .own 1088 (bb.2.map int).length) :: (21, int bb.1) :: S) (fun bb M => (1088, .obj true 3 1 (bb.2.map int)) :: M) (fun n bb => 0 ≤ bb.1 ∧ bb.1 + n = (b0.Activities.length : Int) ∧ i_Users_L1 b1 (b0.Activities.drop bb.1.toNat) bb.1 bb.2 = some o6) b0.Activities.length (0, ([] : List Int)) (by repeat (first | trivial | refine ⟨by first | rfl | simp [setL], ?_⟩)) (by repeat (first | trivial | refine ⟨by first | rfl | simp [setL], ?_⟩)) (by rfl) (by rfl) ⟨Int.le_refl _, by simp, h⟩ ?_
   clear h
   rintro JJ12 n12 ⟨z13, a14⟩ hag12 ⟨hza12, hzb12, h⟩
   dsimp only at hza12 hzb12 h
   refine Run.sr ?_
   refine X.bi ?_
   refine X.nil ?_
   refine Run.seq ?_
   refine R.cd (fun hc17 => ?_) (fun hc17 => ?_)
   ·obtain ⟨x15, xs16, hd12, hx12, hds12, hlt12⟩ := drop_atI hza12 hc17
    rw [hd12] at h
    rw [i_Users_L1] at h
    refine Run.skip ?_
    refine Run.seq ?_
    refine Run.block ?_
    refine Run.sr ?_
    refine X.mv ?_
    refine X.index_s elt32 (by rfl) (by rfl) (idxL_spec hx12).1 (idxL_map eTActivity hx12) (by rfl) (by rfl) (by rfl) ?_
    refine X.lc shp108 ?_
    refine X.alloc zer108 (by rfl) (by rfl) (by rfl) ?_
    refine X.as ?_
    refine X.sl shp108 ?_
    refine X.nil ?_
    refine Run.sr ?_
    refine X.fl fld108_2 ?_
    refine X.ld shp106 ?_
    refine X.makeFunc (by rfl) (by rfl) (by repeat (first | trivial | refine ⟨by first | rfl | simp [setL], ?_⟩)) (by rfl) (by rfl) ?_
    obtain ⟨v18, hv18, h⟩ := bindE h
    refine X.callP (slices_ContainsFunc_Mode_pc _ (fun x0 => i_Users_c1 x0 b1) _ _ (fun x0 v hv => i_Users_c1_pc _ _ _ hv) _ hv18) (by rfl) (by rfl) (by rfl) (by trivial) (by rfl) (by rfl) (by rfl) (by rfl) ?_
    refine X.nil ?_
    refine R.cd (fun hc19 => ?_) (fun hc19 => ?_)
    ·replace h := condT hc19 h
     refine Run.reg ?_
     refine X.mv ?_
     refine X.mv ?_
     refine X.buildSlice true elt25 zer3 (by rfl) (by rfl) (by rfl) (by rfl) (by rfl) (by rfl) (by repeat (first | trivial | refine ⟨by first | rfl | simp [setL], ?_⟩)) (allSz_spec (by rfl)) (by rfl) (by rfl) (by rfl) ?_
     obtain ⟨v20, hv20, h⟩ := bindE h
     refine X.append elt25 zer3 (by rfl) (by rfl) (by first | rfl | simp [setL] | omega) (by rfl) (.own _ _ _ _ _ _ (look_mem (by rfl)) (by first | rfl | simp [setL] | omega)) (allSz_spec (by rfl)) (appL_len int hv20) (appL_map int hv20) (by rfl) (by rfl) (by rfl) (by rfl) ?_
     refine X.an ?_
     refine Run.blk ?_
     refine Run.reg ?_
     refine X.add (by rfl) (by rfl) (by omega) (by rfl) ?_
     refine X.mn ?_
     exact hag12 (n12 - 1) (z13 + 1, v20) _ _ (by omega) ⟨by first | omega | (dsimp only; omega), by first | omega | (dsimp only; omega), by first | (rw [hds12]; exact h) | (dsimp only; rw [hds12]; exact h)⟩ (by repeat (first | trivial | refine ⟨by first | rfl | simp [setL], ?_⟩)) (by repeat (first | trivial | refine ⟨by first | rfl | simp [setL], ?_⟩)) (by rfl) (by rfl)
    ·replace h := condF hc19 h
     refine Run.skip ?_
     refine Run.blk ?_
     refine Run.reg ?_
     refine X.add (by rfl) (by rfl) (by omega) (by rfl) ?_
     refine X.mn ?_
     exact hag12 (n12 - 1) (z13 + 1, a14) _ _ (by omega) ⟨by first | omega | (dsimp only; omega), by first | omega | (dsimp only; omega), by first | (rw [hds12]; exact h) | (dsimp only; rw [hds12]; exact h)⟩ (by repeat (first | trivial | refine ⟨by first | rfl | simp [setL], ?_⟩)) (by repeat (first | trivial | refine ⟨by first | rfl | simp [setL], ?_⟩)) (by rfl) (by rfl)
   ·rw [drop_endI hza12 hc17] at h
    rw [i_Users_L1] at h
    refine Run.exit (by rfl) ?_
    exact hmeet8 a14 _ _ (Option.some.inj h) (by repeat (first | trivial | refine ⟨by first | rfl | simp [setL], ?_⟩)) (by repeat (first | trivial | refine ⟨by first | rfl | simp [setL], ?_⟩)) (by rfl) (by rfl)
  rintro p21 rfl
  refine Run.sr ?_
  refine X.mv ?_
  refine X.an ?_
  cases h
  refine R.fin1o Tryz.results45 (by rfl) (by rfl) (by first | rfl | simp [setL] | omega) ?_
  rfl
theorem i_RuleActivities_pc (b0 : TProject) (b1 : TRule) (r : List Int) (h : i_RuleActivities b0 b1 = some r) : PC Tryz.prog 11 [eTProject b0, eTRule b1] (.fresh true 3 1 (r.map int)) := by
 unfold i_RuleActivities at h
 refine PC.start Tryz.func11 Tryz.ntmps11 rfl ok11 rfl ?_
 refine Run.sr ?_
 refine X.bx ?_
 refine X.bx ?_
 refine X.an ?_
 refine Run.seq ?_
 refine Run.sr ?_
 refine X.ld shp36 ?_
 refine X.ld shp38 ?_
 obtain ⟨v1, hv1, h⟩ := bindE h
 refine X.callP (i_RuleOk_pc _ _ _ hv1) (by rfl) (by rfl) (by rfl) (by trivial) (by rfl) (by rfl) (by rfl) (by rfl) ?_
 refine X.un (by rfl) (by rfl) (by rfl) ?_
 refine X.nil ?_
 refine R.cd (fun hc2 => ?_) (fun hc2 => ?_)
 ·replace h := condT hc2 h
  refine Run.sr ?_
  refine X.an ?_
  cases h
  refine R.fin1n (x := true) (e := 3) (sz := 1) Tryz.results11 (by rfl) (by decide) ?_
  rfl
 ·replace h := condF hc2 h
  refine Run.skip ?_
  refine Run.seq ?_
  refine Run.sr ?_
  refine X.fl fld38_0 ?_
  refine X.ld shp3 ?_
  refine X.nil ?_
  refine Run.block ?_
  refine Run.sr ?_
  refine X.bi ?_
  refine X.an ?_
  refine R.cd (fun hc3 => ?_) (fun hc3 => ?_)
  ·replace h := condT hc3 h
   refine Run.seq ?_
   refine Run.draw (footOf [(1, ([128], [], [], [])), (3, ([192], [], [], [])), (8, ([128], [], [], [])), (10, ([192], [], [], [])), (14, ([1728], [1728], [], [])), (15, ([1728], [1728, 1792], [], []))]) mixed (by kernel_rfl) (by kernel_rfl) ?_
   refine X.fl fld36_2 ?_
   refine X.ld shp33 ?_
   refine X.fl fld38_1 ?_
   refine X.ld shp3 ?_
   obtain ⟨v4, hv4, h⟩ := bindE h
   refine X.index_s elt33 (by rfl) (by rfl) (idxL_spec hv4).1 (idxL_map eTLink hv4) (by rfl) (by rfl) (by rfl) ?_
   refine X.fieldAddr_c fld68_0 (by rfl) (by rfl) ?_
   refine X.lc shp3 ?_
   refine X.fl fld36_2 ?_
   refine X.ld shp33 ?_
   refine X.fl fld38_1 ?_
   refine X.ld shp3 ?_
   refine X.index_s elt33 (by rfl) (by rfl) (idxL_spec hv4).1 (idxL_map eTLink hv4) (by rfl) (by rfl) (by rfl) ?_
   refine X.fieldAddr_c fld68_1 (by rfl) (by rfl) ?_
   refine X.lc shp3 ?_
   refine X.buildSlice true elt25 zer3 (by rfl) (by rfl) (by rfl) (by rfl) (by rfl) (by rfl) (by repeat (first | trivial | refine ⟨by first | rfl | simp [setL], ?_⟩)) (allSz_spec (by rfl)) (by rfl) (by rfl) (by rfl) ?_
   obtain ⟨v5, hv5, h⟩ := bindE h
   refine X.callM [(63, 1728)] (PC.lend (M0 := [(63, .obj true 3 1 (([v4.From, v4.To] : List Int).map int))]) (i_SetOf_pc _ _ hv5) (FlatR.freshM (fun _ => (by repeat (first | exact trivial | refine ⟨trivial, ?_⟩)))) (by rfl) (.own 63 _ _ _ _ _ _ _ (by rfl) (by first | rfl | simp [setL] | omega) .nil)) (by rfl) (by rfl) (.ownB 63 (by rfl) (by first | rfl | simp [setL] | omega) (by rfl) .nil) (by rfl) ⟨rfl, rfl, ⟨_, by rfl, by constructor⟩, by constructor, trivial⟩ (by rfl) (by rfl) (by rfl) (by rfl) (by rfl) (by rfl) (by rfl) (by rfl) (by rfl) ?_
   refine X.an ?_
   cases h
   refine R.fin1o Tryz.results11 (by rfl) (by rfl) (by first | rfl | simp [setL] | omega) ?_
   rfl
  ·replace h := condF hc3 h
   refine Run.sr ?_
   refine X.bi ?_
   refine X.an ?_
   refine R.cd (fun hc6 => ?_) (fun hc6 => ?_)
   ·replace h := condT hc6 h
    refine Run.sr ?_
    refine X.fl fld38_1 ?_
    refine X.ld shp3 ?_
    refine X.buildSlice true elt25 zer3 (by rfl) (by rfl) (by rfl) (by rfl) (by rfl) (by rfl) (by repeat (first | trivial | refine ⟨by first | rfl | simp [setL], ?_⟩)) (allSz_spec (by rfl)) (by rfl) (by rfl) (by rfl) ?_
    refine X.an ?_
    cases h
    refine R.fin1o Tryz.results11 (by rfl) (by rfl) (by first | rfl | simp [setL] | omega) ?_
    rfl
   ·replace h := condF hc6 h
    refine Run.seq ?_
    refine Run.sr ?_
    refine X.bi ?_
    refine X.an ?_
    obtain ⟨o7, ho7, h⟩ := bindE h
    refine R.join2 (β := Bool) [(2, .lptr 128 0), (3, .lptr 192 0), (10, int b1.Kind)] [(128, .blk true [int b0.Deadline, .slice (b0.Activities.map eTActivity), .slice (b0.Links.map eTLink), .slice (b0.Resources.map eTResource), .slice (b0.Stocks.map int)]), (192, .blk true [int b1.Kind, int b1.A, int b1.B, int b1.C])] (fun p12 S => (34, bool p12) :: S) (fun p12 M => M) (fun p12 => p12 = o7) ?_ ?_
    ·intro JJ10 hmeet9
     have hup8 := h; clear h; have h := ho7; clear ho7
     refine R.cd (fun hc11 => ?_) (fun hc11 => ?_)
     ·replace h := condT hc11 h
      refine Run.skip ?_
      exact hmeet9 (b1.Kind == 3) _ _ (Option.some.inj h) (by trivial) (by trivial) (by rfl) (by rfl)
     ·replace h := condF hc11 h
      refine Run.reg ?_
      refine X.bi ?_
      refine X.an ?_
      exact hmeet9 (b1.Kind == 4) _ _ (Option.some.inj h) (by trivial) (by trivial) (by rfl) (by rfl)
    rintro p12 rfl
    refine R.cd (fun hc13 => ?_) (fun hc13 => ?_)
    ·replace h := condT hc13 h
     refine Run.sr ?_
     refine X.ld shp36 ?_
     refine X.fl fld38_1 ?_
     refine X.ld shp3 ?_
     obtain ⟨v14, hv14, h⟩ := bindE h
     refine X.callF (i_Users_pc _ _ _ hv14) (by rfl) (by rfl) (by rfl) (by trivial) (by rfl) (by rfl) (by rfl) (by rfl) ?_
     refine X.an ?_
     cases h
     refine R.fin1o Tryz.results11 (by rfl) (by rfl) (by first | rfl | simp [setL] | omega) ?_
     rfl
    ·replace h := condF hc13 h
     refine Run.sr ?_
     refine X.bi ?_
     refine X.an ?_
     refine R.cd (fun hc15 => ?_) (fun hc15 => ?_)
     ·replace h := condT hc15 h
      refine Run.sr ?_
      refine X.fl fld38_2 ?_
      refine X.ld shp3 ?_
      refine X.fl fld38_3 ?_
      refine X.ld shp3 ?_
      refine X.buildSlice true elt25 zer3 (by rfl) (by rfl) (by rfl) (by rfl) (by rfl) (by rfl) (by repeat (first | trivial | refine ⟨by first | rfl | simp [setL], ?_⟩)) (allSz_spec (by rfl)) (by rfl) (by rfl) (by rfl) ?_
      refine X.an ?_
      cases h
      refine R.fin1o Tryz.results11 (by rfl) (by rfl) (by first | rfl | simp [setL] | omega) ?_
      rfl
     ·replace h := condF hc15 h
      refine Run.skip ?_
      refine Run.blk ?_
      refine Run.sr ?_
      refine X.fl fld36_1 ?_
      refine X.ld shp32 ?_
      refine X.ls elt32 ?_
      obtain ⟨v16, hv16, h⟩ := bindE h
      refine X.callF (i_IntRange_pc _ _ hv16) (by rfl) (by rfl) (by rfl) (by trivial) (by rfl) (by rfl) (by rfl) (by rfl) ?_
      refine X.an ?_
      cases h
      refine R.fin1o Tryz.results11 (by rfl) (by rfl) (by first | rfl | simp [setL] | omega) ?_
      rfl
theorem w_markIntS_pc (b0 : List Int) (b1 : Int) (r : Int × (List Int)) (h : w_markIntS b0 b1 = some r) : PCM Tryz.prog 15 [.own 63 (b0.map int).length, int b1] [(63, .obj true 3 1 (b0.map int))] (int r.1) [(63, .obj true 3 1 (r.2.map int))] := by
 unfold w_markIntS at h
 refine PCM.start Tryz.func15 Tryz.ntmps15 rfl ok15 rfl (by rfl) (by rfl) (by rfl) (by rfl) (by rfl) ?_
 refine Run.sr ?_
 refine X.an ?_
 refine Run.seq ?_
 refine Run.sr ?_
 refine X.an ?_
 obtain ⟨o1, ho1, h⟩ := bindE h
 refine R.join2 (β := Int × (List Int)) [] [] (fun p14 S => (1, int p14.1) :: S) (fun p14 M => (63, .obj true 3 1 (p14.2.map int)) :: M) (fun p14 => p14 = o1) ?_ ?_
 ·intro JJ4 hmeet3
  have hup2 := h; clear h; have h := ho1; clear ho1
  refine Run.block ?_
  refine R.loop2 (β := Int × Int × (List Int)) [] [] (fun bb S => (0, .own 63 (bb.2.2.map int).length) :: (1, int bb.1) :: (5, int bb.2.1) :: S) (fun bb M => (63, .obj true 3 1 (bb.2.2.map int)) :: M) (fun n bb => w_markIntS_L1 n bb.1 bb.2.1 bb.2.2 = some o1) F0 (b1, 0, b0) (by repeat (first | trivial | refine ⟨by first | rfl | simp [setL], ?_⟩)) (by repeat (first | trivial | refine ⟨by first | rfl | simp [setL], ?_⟩)) (by rfl) (by rfl) h ?_
  clear h
  rintro JJ5 n5 ⟨a7, a8, a9⟩ hag5 h
  dsimp only at h
  obtain _ | n5 := n5
  ·exact absurd h (by simp [w_markIntS_L1])
  rw [w_markIntS_L1] at h
  refine Run.seq ?_
  refine Run.sr ?_
  refine X.mv ?_
  refine X.mv ?_
  refine X.len_o elt25 (by rfl) (by rfl) (by first | rfl | simp [setL] | omega) (by first | exact List.length_map .. | rfl) (by rfl) (by rfl) ?_
  refine X.bi ?_
  refine X.nil ?_
  refine R.cd (fun hc12 => ?_) (fun hc12 => ?_)
  ·replace h := condT hc12 h
   refine Run.skip ?_
   refine Run.seq ?_
   refine Run.block ?_
   refine Run.sr ?_
   refine X.mv ?_
   refine X.mv ?_
   refine X.mv ?_
   obtain ⟨v13, hv13, h⟩ := bindE h
   refine X.index_xs elt25 (by rfl) (by rfl) (by first | rfl | simp [setL] | omega) (by rfl) (by exact (Int.toNat_of_nonneg (idxL_spec hv13).1).symm) (by have := idxL_lt hv13; simpa using this) (by rfl) (by rfl) ?_
   refine X.store_es shp3 (by rfl) (by rfl) (by first | rfl | simp [setL] | omega) (idxL_map _ hv13) (by rfl) (by rfl) (by repeat (first | trivial | refine ⟨by first | rfl | simp [setL], ?_⟩)) (by rfl) (by rfl) (by rfl) (by rfl) (by exact setL_map _ _ _ a7) ?_
   refine X.nil ?_
   refine Run.reg ?_
   refine X.mv ?_
   refine X.addW (by rfl) (by rfl) (by rfl) ?_
   refine X.an ?_
   refine Run.blk ?_
   refine Run.reg ?_
   refine X.mv ?_
   refine X.addW (by rfl) (by rfl) (by rfl) ?_
   refine X.an ?_
   refine R.castS (t := 0) (.own 63 ((setL a9 a8 a7).map int).length) (by rfl) (.inl (by first | rfl | simp [setL])) ?_
   exact hag5 n5 ((W (a7 + 1)), (W (a8 + 1)), (setL a9 a8 a7)) _ _ (by omega) h (by repeat (first | trivial | refine ⟨by first | rfl | simp [setL], ?_⟩)) (by repeat (first | trivial | refine ⟨by first | rfl | simp [setL], ?_⟩)) (by rfl) (by rfl)
  ·replace h := condF hc12 h
   refine Run.exit (by rfl) ?_
   exact hmeet3 (a7, a9) _ _ (Option.some.inj h) (by repeat (first | trivial | refine ⟨by first | rfl | simp [setL], ?_⟩)) (by repeat (first | trivial | refine ⟨by first | rfl | simp [setL], ?_⟩)) (by rfl) (by rfl)
 rintro p14 rfl
 refine Run.sr ?_
 refine X.mv ?_
 refine X.an ?_
 cases h
 exact R.finM1 Tryz.results15 (by rfl) (by rfl) (by repeat (first | exact trivial | refine ⟨by rfl, ?_⟩)) rfl
theorem w_heldIntS_pc (b0 : List Int) (b1 : Int) (r : Int) (h : w_heldIntS b0 b1 = some r) : PC Tryz.prog 16 [.slice (b0.map int), int b1] (int r) := by
 unfold w_heldIntS at h
 refine PC.start Tryz.func16 Tryz.ntmps16 rfl ok16 rfl ?_
 refine Run.sr ?_
 refine X.an ?_
 refine Run.seq ?_
 refine Run.sr ?_
 refine X.an ?_
 obtain ⟨o1, ho1, h⟩ := bindE h
 refine R.join2 (β := Int) [] [] (fun p14 S => (1, int p14) :: S) (fun p14 M => M) (fun p14 => (Sum.inl p14) = o1) ?_ ?_
 ·intro JJ4 hmeet3
  have hup2 := h; clear h; have h := ho1; clear ho1
  refine Run.block ?_
  refine R.bndS (t := 0) (by rfl) (fun hbd7 => ?_)
  replace hbd7 : b0.length ≤ 9223372036854775807 := by first | (rw [List.length_map] at hbd7; exact hbd7) | simp
  refine R.loop2 (β := Int × Int) [(0, .slice (b0.map int))] [] (fun bb S => (1, int bb.2) :: (5, int bb.1) :: S) (fun bb M => M) (fun n bb => 0 ≤ bb.1 ∧ bb.1 + n = (b0.length : Int) ∧ w_heldIntS_L1 (b0.drop bb.1.toNat) bb.1 bb.2 = some o1) b0.length (0, b1) (by repeat (first | trivial | refine ⟨by first | rfl | simp [setL], ?_⟩)) (by repeat (first | trivial | refine ⟨by first | rfl | simp [setL], ?_⟩)) (by rfl) (by rfl) ⟨Int.le_refl _, by simp, h⟩ ?_
  clear h
  rintro JJ7 n7 ⟨z8, a9⟩ hag7 ⟨hza7, hzb7, h⟩
  dsimp only at hza7 hzb7 h
  refine Run.seq ?_
  refine Run.sr ?_
  refine X.mv ?_
  refine X.mv ?_
  refine X.ls elt25 ?_
  refine X.bi ?_
  refine X.nil ?_
  refine R.cd (fun hc12 => ?_) (fun hc12 => ?_)
  ·obtain ⟨x10, xs11, hd7, hx7, hds7, hlt7⟩ := drop_atI hza7 hc12
   rw [hd7] at h
   rw [w_heldIntS_L1] at h
   refine Run.skip ?_
   refine Run.seq ?_
   refine Run.block ?_
   refine Run.seq ?_
   refine Run.sr ?_
   refine X.mv ?_
   refine X.mv ?_
   refine X.index_s elt25 (by rfl) (by rfl) (idxL_spec hx7).1 (idxL_map int hx7) (by rfl) (by rfl) (by rfl) ?_
   refine X.lc shp3 ?_
   refine X.mv ?_
   refine X.bi ?_
   refine X.nil ?_
   refine R.cd (fun hc13 => ?_) (fun hc13 => ?_)
   ·replace h := condT hc13 h
    refine Run.sr ?_
    refine X.an ?_
    cases h
    have h := hup2
    replace h := elimR h
    cases h
    refine R.f1 Tryz.results16 ?_
    rfl
   ·replace h := condF hc13 h
    refine Run.skip ?_
    refine Run.reg ?_
    refine X.mv ?_
    refine X.addW (by rfl) (by rfl) (by rfl) ?_
    refine X.an ?_
    refine Run.blk ?_
    refine Run.reg ?_
    refine X.mv ?_
    refine X.add (by rfl) (by rfl) (by omega) (by rfl) ?_
    refine X.an ?_
    exact hag7 (n7 - 1) (z8 + 1, (W (a9 + 1))) _ _ (by omega) ⟨by first | omega | (dsimp only; omega), by first | omega | (dsimp only; omega), by first | (rw [hds7]; exact h) | (dsimp only; rw [hds7]; exact h)⟩ (by trivial) (by trivial) (by rfl) (by rfl)
  ·rw [drop_endI hza7 hc12] at h
   rw [w_heldIntS_L1] at h
   refine Run.exit (by rfl) ?_
   exact hmeet3 a9 _ _ (Option.some.inj h) (by trivial) (by trivial) (by rfl) (by rfl)
 rintro p14 rfl
 replace h := elimL h
 refine Run.sr ?_
 refine X.mv ?_
 refine X.an ?_
 cases h
 refine R.f1 Tryz.results16 ?_
 rfl
theorem w_FnExactRuleActivities_pc (b0 : TProject) (b1 : TRule) (r : Bool) (h : w_FnExactRuleActivities b0 b1 = some r) : PC Tryz.prog 3 [eTProject b0, eTRule b1] (bool r) := by
 unfold w_FnExactRuleActivities at h
 refine PC.start Tryz.func3 Tryz.ntmps3 rfl ok3 rfl ?_
 refine Run.sr ?_
 refine X.bx ?_
 refine X.bx ?_
 refine X.an ?_
 refine Run.sr ?_
 refine X.an ?_
 refine Run.sr ?_
 refine X.ld shp27 ?_
 refine X.mv ?_
 obtain ⟨v1, hv1, h⟩ := bindE h
 refine X.callP (w_szProject_pc _ _ _ hv1) (by rfl) (by rfl) (by rfl) (by trivial) (by rfl) (by rfl) (by rfl) (by rfl) ?_
 refine X.an ?_
 refine Run.seq ?_
 refine Run.sr ?_
 refine X.mv ?_
 refine X.bi ?_
 refine X.nil ?_
 refine R.cd (fun hc2 => ?_) (fun hc2 => ?_)
 ·replace h := condT hc2 h
  refine Run.sr ?_
  refine X.an ?_
  cases h
  refine R.f1 Tryz.results3 ?_
  rfl
 ·replace h := condF hc2 h
  refine Run.skip ?_
  refine Run.seq ?_
  refine Run.draw (footOf [(0, ([128], [], [], [])), (1, ([], [1216, 1217, 1218, 1219], [], [])), (2, ([192], [], [], [])), (4, ([1216, 1217, 1218, 1219], [], [], []))]) mixed (by kernel_rfl) (by kernel_rfl) ?_
  refine X.ld shp27 ?_
  obtain ⟨v3, hv3, h⟩ := bindE h
  refine X.callA (PC.ofY (ps := [eTProject b0]) (w_toProject_pc _ _ hv3) (by rfl) (by rfl)) (by rfl) (by rfl) (by rfl) (by trivial) (by rfl) (by rfl) (by rfl) (by rfl) (by rfl) (by rfl) ?_
  refine X.ld shp29 ?_
  obtain ⟨v4, hv4, h⟩ := bindE h
  refine X.callA (w_toRule_pc _ _ hv4) (by rfl) (by rfl) (by rfl) (by trivial) (by rfl) (by rfl) (by rfl) (by rfl) (by rfl) (by rfl) ?_
  obtain ⟨v5, hv5, h⟩ := bindE h
  refine X.callP (s_RuleActivities_pc _ _ _ hv5) (by rfl) (by rfl) (by rfl) (by repeat (first | trivial | refine ⟨by first | rfl | simp [setL], ?_⟩)) (by rfl) (by rfl) (by rfl) (by rfl) ?_
  refine X.an ?_
  refine Run.sr ?_
  refine X.ld shp27 ?_
  obtain ⟨v6, hv6, h⟩ := bindE h
  refine X.callY (w_toProject_pc _ _ hv6) (by rfl) (by rfl) (by rfl) (by trivial) (by rfl) (by rfl) (by rfl) (by rfl) (by rfl) (by rfl) (by rfl) ?_
  refine X.alloc zer36 (by rfl) (by rfl) (by rfl) ?_
  refine X.sl shp36 ?_
  refine X.nil ?_
  refine Run.seq ?_
  refine Run.draw (footOf [(0, ([448], [], [], [])), (1, ([192], [], [], [])), (3, ([1536], [1536, 1792], [], []))]) mixed (by kernel_rfl) (by kernel_rfl) ?_
  refine X.ld shp36 ?_
  refine X.ld shp29 ?_
  obtain ⟨v7, hv7, h⟩ := bindE h
  refine X.callA (w_toRule_pc _ _ hv7) (by rfl) (by rfl) (by rfl) (by trivial) (by rfl) (by rfl) (by rfl) (by rfl) (by rfl) (by rfl) ?_
  obtain ⟨v8, hv8, h⟩ := bindE h
  refine X.callM [(6527, 1536)] (PC.lend (M0 := [(6527, .yreg false false)]) (i_RuleActivities_pc _ _ _ hv8) (FlatR.freshM (fun _ => (by repeat (first | exact trivial | refine ⟨trivial, ?_⟩)))) (by rfl) (.agg _ _ _ _ (.same _ _ _ (by rfl) (.yng 6527 _ _ _ _ (by rfl) (.yng 6527 _ _ _ _ (by rfl) (.yng 6527 _ _ _ _ (by rfl) (.yng 6527 _ _ _ _ (by rfl) .nil))))) (.agg _ _ _ _ (.same _ _ _ (by rfl) (.same _ _ _ (by rfl) (.same _ _ _ (by rfl) (.same _ _ _ (by rfl) .nil)))) .nil))) (by rfl) (by rfl) (.agg _ _ _ _ _ _ (.pureB (by rfl) (by repeat (first | trivial | refine ⟨by first | rfl | simp [setL], ?_⟩)) (.yngB 6527 (by rfl) (by rfl) (.yngB 6527 (by rfl) (by rfl) (.yngB 6527 (by rfl) (by rfl) (.yngB 6527 (by rfl) (by rfl) .nil))))) (.pureB (by rfl) (by repeat (first | trivial | refine ⟨by first | rfl | simp [setL], ?_⟩)) .nil)) (by rfl) ⟨rfl, rfl, ⟨_, by rfl, by constructor⟩, by constructor, trivial⟩ (by rfl) (by rfl) (by rfl) (by rfl) (by rfl) (by rfl) (by rfl) (by rfl) (by rfl) ?_
  refine X.an ?_
  refine Run.seq ?_
  refine Run.sr ?_
  refine X.mv ?_
  refine X.mv ?_
  obtain ⟨v9, hv9, h⟩ := bindE h
  refine X.callM [(63, 1792)] (PC.lend (M0 := [(63, .obj true 3 1 (v8.map int))]) (w_eqIntS_pc _ _ _ hv9) (.lit _) (by rfl) (.own 63 _ _ _ _ _ _ _ (by rfl) (by first | rfl | simp [setL] | omega) (.same _ _ _ (by rfl) .nil))) (by rfl) (by rfl) (.ownB 63 (by rfl) (by first | rfl | simp [setL] | omega) (by rfl) (.pureB (by rfl) (by repeat (first | trivial | refine ⟨by first | rfl | simp [setL], ?_⟩)) .nil)) (by rfl) ⟨rfl, rfl, ⟨_, by rfl, by constructor⟩, by constructor, trivial⟩ (by rfl) (by rfl) (by rfl) (by rfl) (by rfl) (by rfl) (by rfl) (by rfl) (by rfl) ?_
  refine X.un (by rfl) (by rfl) (by rfl) ?_
  refine X.nil ?_
  refine R.cd (fun hc10 => ?_) (fun hc10 => ?_)
  ·replace h := condT hc10 h
   refine Run.sr ?_
   refine X.an ?_
   cases h
   refine R.f1 Tryz.results3 ?_
   rfl
  ·replace h := condF hc10 h
   refine Run.skip ?_
   refine Run.seq ?_
   refine Run.seq ?_
   refine Run.draw (footOf [(0, ([448], [], [], [])), (1, ([128], [], [], [])), (2, ([], [2240, 2241, 2242, 2243], [], [])), (3, ([1536, 2240, 2241, 2242, 2243], [1536], [], []))]) mixed (by kernel_rfl) (by kernel_rfl) ?_
   refine X.ld shp36 ?_
   refine X.ld shp27 ?_
   obtain ⟨v11, hv11, h⟩ := bindE h
   refine X.callA (PC.ofY (ps := [eTProject b0]) (w_toProject_pc _ _ hv11) (by rfl) (by rfl)) (by rfl) (by rfl) (by rfl) (by trivial) (by rfl) (by rfl) (by rfl) (by rfl) (by rfl) (by rfl) ?_
   obtain ⟨v12, hv12, h⟩ := bindE h
   refine X.callM [(6527, 1536)] (PC.lend (M0 := [(6527, .yreg false false)]) (w_eqProject_pc _ _ _ hv12) (.lit _) (by rfl) (.agg _ _ _ _ (.same _ _ _ (by rfl) (.yng 6527 _ _ _ _ (by rfl) (.yng 6527 _ _ _ _ (by rfl) (.yng 6527 _ _ _ _ (by rfl) (.yng 6527 _ _ _ _ (by rfl) .nil))))) (.agg _ _ _ _ (.same _ _ _ (by rfl) (.same _ _ _ (by rfl) (.same _ _ _ (by rfl) (.same _ _ _ (by rfl) (.same _ _ _ (by rfl) .nil))))) .nil))) (by rfl) (by rfl) (.agg _ _ _ _ _ _ (.pureB (by rfl) (by repeat (first | trivial | refine ⟨by first | rfl | simp [setL], ?_⟩)) (.yngB 6527 (by rfl) (by rfl) (.yngB 6527 (by rfl) (by rfl) (.yngB 6527 (by rfl) (by rfl) (.yngB 6527 (by rfl) (by rfl) .nil))))) (.pureB (by rfl) (by repeat (first | trivial | refine ⟨by first | rfl | simp [setL], ?_⟩)) .nil)) (by rfl) ⟨rfl, rfl, ⟨_, by rfl, by constructor⟩, by constructor, trivial⟩ (by rfl) (by rfl) (by rfl) (by rfl) (by rfl) (by rfl) (by rfl) (by rfl) (by rfl) ?_
   refine X.un (by rfl) (by rfl) (by rfl) ?_
   refine X.nil ?_
   refine R.cd (fun hc13 => ?_) (fun hc13 => ?_)
   ·replace h := condT hc13 h
    refine Run.sr ?_
    refine X.an ?_
    cases h
    refine R.f1 Tryz.results3 ?_
    rfl
   ·replace h := condF hc13 h
    refine Run.skip ?_
    refine Run.sr ?_
    refine X.an ?_
    refine Run.seq ?_
    refine R.demote 1536 (by rfl) (by rfl) (by rfl) (by rfl) (by rfl) (by rfl) ?_
    refine Run.reg ?_
    refine X.ld shp36 ?_
    refine X.mv ?_
    obtain ⟨v14, hv14, h⟩ := bindE h
    refine X.callM [(63, 1536)] (w_markProject_k_pc _ _ _ hv14) (by rfl) (by rfl) (.agg _ _ _ _ _ _ (.pureB (by rfl) (by repeat (first | trivial | refine ⟨by first | rfl | simp [setL], ?_⟩)) (.yskB 63 (by rfl) (by rfl) (.yskB 63 (by rfl) (by rfl) (.yskB 63 (by rfl) (by rfl) (.yskB 63 (by rfl) (by rfl) .nil))))) (.pureB (by rfl) (by repeat (first | trivial | refine ⟨by first | rfl | simp [setL], ?_⟩)) .nil)) (by rfl) ⟨rfl, rfl, ⟨_, by rfl, by constructor⟩, by constructor, trivial⟩ (by rfl) (by rfl) (by rfl) (by rfl) (by rfl) (by rfl) (by rfl) (by rfl) (by rfl) ?_
    refine X.an ?_
    refine Run.seq ?_
    refine Run.seq ?_
    obtain ⟨e15, he15, h2⟩ := bindE h
    refine R.regG [(2, .lptr 128 0), (3, .lptr 192 0), (6, .slice (v5.map int)), (8, .own 1792 (v8.map int).length), (48, bool e15)] [(128, .blk true [int b0.Deadline, .slice (b0.Activities.map eTActivity), .slice (b0.Links.map eTLink), .slice (b0.Resources.map eTResource), .slice (b0.Stocks.map int)]), (192, .blk true [int b1.Kind, int b1.A, int b1.B, int b1.C]), (1792, .obj true 3 1 (v8.map int))] ?_ ?_
    ·clear h; have h := he15; clear he15 h2
     refine X.mv ?_
     refine X.bi ?_
     refine X.mv ?_
     refine X.iG (fun hb16 => ?_) (fun hb16 => ?_)
     ·replace h := condF hb16 h
      refine X.mv ?_
      refine X.gy ?_
      refine X.mv ?_
      refine X.gy ?_
      obtain ⟨v17, hv17, h⟩ := bindE h
      refine X.callM [(63, 1792)] (PC.lend (M0 := [(63, .obj true 3 1 (v8.map int))]) (w_eqIntS_pc _ _ _ hv17) (.lit _) (by rfl) (.own 63 _ _ _ _ _ _ _ (by rfl) (by first | rfl | simp [setL] | omega) (.same _ _ _ (by rfl) .nil))) (by rfl) (by rfl) (.ownB 63 (by rfl) (by first | rfl | simp [setL] | omega) (by rfl) (.pureB (by rfl) (by repeat (first | trivial | refine ⟨by first | rfl | simp [setL], ?_⟩)) .nil)) (by rfl) ⟨rfl, rfl, ⟨_, by rfl, by constructor⟩, by constructor, trivial⟩ (by rfl) (by rfl) (by rfl) (by rfl) (by rfl) (by rfl) (by rfl) (by rfl) (by rfl) ?_
      refine X.gy ?_
      refine X.un (by rfl) (by rfl) (by rfl) ?_
      refine X.pF ?_
      cases h
      exact X.eG
     ·replace h := condT hb16 h
      refine X.gn ?_
      refine X.gn ?_
      refine X.gn ?_
      refine X.pT ?_
      cases h
      exact X.eG
    replace h := h2; clear h2
    refine R.cd (fun hc18 => ?_) (fun hc18 => ?_)
    ·replace h := condT hc18 h
     refine Run.sr ?_
     refine X.an ?_
     cases h
     refine R.f1 Tryz.results3 ?_
     rfl
    ·replace h := condF hc18 h
     refine Run.skip ?_
     refine Run.sr ?_
     refine X.an ?_
     refine Run.sr ?_
     refine X.mv ?_
     refine X.mv ?_
     obtain ⟨v19, hv19, h⟩ := bindE h
     refine X.callR [(63, 1792)] [(1792, (v8.map int).length)] [(1792, (v19.2.map int).length)] (w_markIntS_pc _ _ _ hv19) (by rfl) (by rfl) (.ownB 63 (by rfl) (by first | rfl | simp [setL] | omega) (by rfl) (.pureB (by rfl) (by repeat (first | trivial | refine ⟨by first | rfl | simp [setL], ?_⟩)) .nil)) (by rfl) ⟨rfl, rfl, ⟨_, by rfl, by constructor⟩, by constructor, trivial⟩ (by rfl) (by rfl) (by rfl) (by rfl) ⟨rfl, ⟨_, _, _, _, by rfl, by rfl⟩, ⟨_, _, _, _, by rfl, by rfl⟩, trivial⟩ (by rfl) (by repeat (first | trivial | refine ⟨by first | rfl | simp [setL], ?_⟩)) (by rfl) (by rfl) (by rfl) (by rfl) (by rfl) ?_
     refine X.an ?_
     refine Run.sr ?_
     refine X.an ?_
     refine Run.sr ?_
     refine X.mv ?_
     refine X.mv ?_
     obtain ⟨v20, hv20, h⟩ := bindE h
     refine X.callM [(63, 1792)] (PC.lend (M0 := [(63, .obj true 3 1 (v19.2.map int))]) (w_heldIntS_pc _ _ _ hv20) (.lit _) (by rfl) (.own 63 _ _ _ _ _ _ _ (by rfl) (by first | rfl | simp [setL] | omega) (.same _ _ _ (by rfl) .nil))) (by rfl) (by rfl) (.ownB 63 (by rfl) (by first | rfl | simp [setL] | omega) (by rfl) (.pureB (by rfl) (by repeat (first | trivial | refine ⟨by first | rfl | simp [setL], ?_⟩)) .nil)) (by rfl) ⟨rfl, rfl, ⟨_, by rfl, by constructor⟩, by constructor, trivial⟩ (by rfl) (by rfl) (by rfl) (by rfl) (by rfl) (by rfl) (by rfl) (by rfl) (by rfl) ?_
     refine X.an ?_
     refine Run.seq ?_
     refine Run.sr ?_
     refine X.mv ?_
     refine X.bi ?_
     refine X.nil ?_
     refine R.cd (fun hc21 => ?_) (fun hc21 => ?_)
     ·replace h := condT hc21 h
      refine Run.sr ?_
      refine X.an ?_
      cases h
      refine R.f1 Tryz.results3 ?_
      rfl
     ·replace h := condF hc21 h
      refine Run.skip ?_
      refine Run.seq ?_
      refine Run.sr ?_
      refine X.mv ?_
      refine X.mv ?_
      refine X.bi ?_
      refine X.nil ?_
      refine R.cd (fun hc22 => ?_) (fun hc22 => ?_)
      ·replace h := condT hc22 h
       refine Run.sr ?_
       refine X.an ?_
       cases h
       refine R.f1 Tryz.results3 ?_
       rfl
      ·replace h := condF hc22 h
       refine Run.skip ?_
       refine Run.seq ?_
       refine Run.draw (footOf [(0, ([128], [], [], [])), (1, ([], [3904, 3905, 3906, 3907], [], [])), (2, ([192], [], [], [])), (4, ([3904, 3905, 3906, 3907], [4096], [], []))]) mixed (by kernel_rfl) (by kernel_rfl) ?_
       refine X.ld shp27 ?_
       obtain ⟨v23, hv23, h⟩ := bindE h
       refine X.callA (PC.ofY (ps := [eTProject b0]) (w_toProject_pc _ _ hv23) (by rfl) (by rfl)) (by rfl) (by rfl) (by rfl) (by trivial) (by rfl) (by rfl) (by rfl) (by rfl) (by rfl) (by rfl) ?_
       refine X.ld shp29 ?_
       obtain ⟨v24, hv24, h⟩ := bindE h
       refine X.callA (w_toRule_pc _ _ hv24) (by rfl) (by rfl) (by rfl) (by trivial) (by rfl) (by rfl) (by rfl) (by rfl) (by rfl) (by rfl) ?_
       obtain ⟨v25, hv25, h⟩ := bindE h
       refine X.callF (PC.pubF (i_RuleActivities_pc _ _ _ hv25)) (by rfl) (by rfl) (by rfl) (by repeat (first | trivial | refine ⟨by first | rfl | simp [setL], ?_⟩)) (by rfl) (by rfl) (by rfl) (by rfl) ?_
       refine X.an ?_
       refine Run.seq ?_
       refine Run.sr ?_
       refine X.mv ?_
       refine X.mv ?_
       obtain ⟨v26, hv26, h⟩ := bindE h
       refine X.callP (w_eqIntS_pc _ _ _ hv26) (by rfl) (by rfl) (by rfl) (by repeat (first | trivial | refine ⟨by first | rfl | simp [setL], ?_⟩)) (by rfl) (by rfl) (by rfl) (by rfl) ?_
       refine X.un (by rfl) (by rfl) (by rfl) ?_
       refine X.nil ?_
       refine R.cd (fun hc27 => ?_) (fun hc27 => ?_)
       ·replace h := condT hc27 h
        refine Run.sr ?_
        refine X.an ?_
        cases h
        refine R.f1 Tryz.results3 ?_
        rfl
       ·replace h := condF hc27 h
        refine Run.skip ?_
        refine Run.sr ?_
        refine X.an ?_
        refine Run.sr ?_
        refine X.mv ?_
        refine X.mv ?_
        obtain ⟨v28, hv28, h⟩ := bindE h
        refine X.callM [(63, 1792)] (PC.lend (M0 := [(63, .obj true 3 1 (v19.2.map int))]) (w_heldIntS_pc _ _ _ hv28) (.lit _) (by rfl) (.own 63 _ _ _ _ _ _ _ (by rfl) (by first | rfl | simp [setL] | omega) (.same _ _ _ (by rfl) .nil))) (by rfl) (by rfl) (.ownB 63 (by rfl) (by first | rfl | simp [setL] | omega) (by rfl) (.pureB (by rfl) (by repeat (first | trivial | refine ⟨by first | rfl | simp [setL], ?_⟩)) .nil)) (by rfl) ⟨rfl, rfl, ⟨_, by rfl, by constructor⟩, by constructor, trivial⟩ (by rfl) (by rfl) (by rfl) (by rfl) (by rfl) (by rfl) (by rfl) (by rfl) (by rfl) ?_
        refine X.an ?_
        refine Run.seq ?_
        refine Run.sr ?_
        refine X.mv ?_
        refine X.bi ?_
        refine X.nil ?_
        refine R.cd (fun hc29 => ?_) (fun hc29 => ?_)
        ·replace h := condT hc29 h
         refine Run.sr ?_
         refine X.an ?_
         cases h
         refine R.f1 Tryz.results3 ?_
         rfl
        ·replace h := condF hc29 h
         refine Run.skip ?_
         refine Run.seq ?_
         refine Run.sr ?_
         refine X.mv ?_
         refine X.mv ?_
         refine X.bi ?_
         refine X.nil ?_
         refine R.cd (fun hc30 => ?_) (fun hc30 => ?_)
         ·replace h := condT hc30 h
          refine Run.sr ?_
          refine X.an ?_
          cases h
          refine R.f1 Tryz.results3 ?_
          rfl
         ·replace h := condF hc30 h
          refine Run.skip ?_
          refine Run.sr ?_
          refine X.an ?_
          cases h
          refine R.f1 Tryz.results3 ?_
          rfl
end Go.Px.YtiinfmdopfkefaaGreat
