/-
  PROVED: contracts of functions of the program over pure values. No condition beyond those that each theorem names.
-/
import Derived.Test.YtiinfmdopfkefaaGreatProg
import Derived.Test.YtiinfmdopfkefaaGreatD2
import Derived.Test.YtiinfmdopfkefaaGreatS
import Derived.Test.YtiinfmdopfkefaaGreatC1
namespace Go.Px.YtiinfmdopfkefaaGreat
set_option linter.unusedSimpArgs false
set_option linter.unusedVariables false
open Go.Px Go.Proofs
theorem ok85 : okFn Tryz.prog 85 = true := by kernel_rfl
theorem ok43 : okFn Tryz.prog 43 = true := by kernel_rfl
theorem i_Project_hasStock_pc (b0 : TProject) (b1 : Int) (r : Bool) (h : i_Project_hasStock b0 b1 = some r) : PC Tryz.prog 85 [eTProject b0, int b1] (bool r) := by
 unfold i_Project_hasStock at h
 refine PC.start Tryz.func85 Tryz.ntmps85 rfl ok85 rfl ?_
 refine Run.sr ?_
 refine X.bx ?_
 refine X.an ?_
 refine Run.sr ?_
 refine X.mv ?_
 refine X.fl fld36_4 ?_
 refine X.ld shp25 ?_
 refine X.ls elt25 ?_
 refine X.subW (by rfl) (by rfl) (by rfl) ?_
 obtain ⟨v1, hv1, h⟩ := bindE h
 refine X.callP (i_within_pc _ _ _ _ hv1) (by rfl) (by rfl) (by rfl) (by trivial) (by rfl) (by rfl) (by rfl) (by rfl) ?_
 refine X.an ?_
 cases h
 refine R.f1 Tryz.results85 ?_
 rfl
theorem i_RuleOk_pc (b0 : TProject) (b1 : TRule) (r : Bool) (h : i_RuleOk b0 b1 = some r) : PC Tryz.prog 43 [eTProject b0, eTRule b1] (bool r) := by
 unfold i_RuleOk at h
 refine PC.start Tryz.func43 Tryz.ntmps43 rfl ok43 rfl ?_
 refine Run.sr ?_
 refine X.bx ?_
 refine X.bx ?_
 refine X.an ?_
 refine Run.seq ?_
 refine Run.sr ?_
 refine X.ld shp36 ?_
 obtain ⟨v1, hv1, h⟩ := bindE h
 refine X.callP (i_ProjectOk_pc _ _ hv1) (by rfl) (by rfl) (by rfl) (by trivial) (by rfl) (by rfl) (by rfl) (by rfl) ?_
 refine X.un (by rfl) (by rfl) (by rfl) ?_
 refine X.nil ?_
 refine R.cd (fun hc2 => ?_) (fun hc2 => ?_)
 ·replace h := condT hc2 h
  refine Run.sr ?_
  refine X.an ?_
  cases h
  refine R.f1 Tryz.results43 ?_
  rfl
 ·replace h := condF hc2 h
  refine Run.skip ?_
  refine Run.seq ?_
  refine Run.sr ?_
  refine X.fl fld38_0 ?_
  refine X.ld shp3 ?_
  refine X.nil ?_
  refine Run.block ?_
  refine Run.sr ?_
  refine X.bi ?_
  refine X.an ?_
  refine R.cd (fun hc3 => ?_) (fun hc3 => ?_)
  ·replace h := condT hc3 h
   refine Run.seq ?_
   obtain ⟨v4, hv4, h⟩ := bindE h
   obtain ⟨e5, he5, h2⟩ := bindE h
   refine R.regG [(4, bool e5)] [] ?_ ?_
   ·clear h; have h := he5; clear he5 h2
    refine X.fl fld38_1 ?_
    refine X.ld shp3 ?_
    refine X.fl fld36_2 ?_
    refine X.ld shp33 ?_
    refine X.ls elt33 ?_
    refine X.subW (by rfl) (by rfl) (by rfl) ?_
    refine X.callP (i_within_pc _ _ _ _ hv4) (by rfl) (by rfl) (by rfl) (by trivial) (by rfl) (by rfl) (by rfl) (by rfl) ?_
    refine X.mv ?_
    refine X.iG (fun hb6 => ?_) (fun hb6 => ?_)
    ·replace h := condT hb6 h
     refine X.fl fld38_2 ?_
     refine X.gy ?_
     refine X.ld shp3 ?_
     refine X.gy ?_
     refine X.bi ?_
     refine X.pT ?_
     refine X.mv ?_
     refine X.iG (fun hb7 => ?_) (fun hb7 => ?_)
     ·replace h := condT hb7 h
      refine X.fl fld38_3 ?_
      refine X.gy ?_
      refine X.ld shp3 ?_
      refine X.gy ?_
      refine X.bi ?_
      refine X.pT ?_
      refine X.as ?_
      cases h
      exact X.eG
     ·replace h := condF hb7 h
      refine X.gn ?_
      refine X.gn ?_
      refine X.pF ?_
      refine X.as ?_
      cases h
      exact X.eG
    ·replace h := condF hb6 h
     refine X.gn ?_
     refine X.gn ?_
     refine X.pF ?_
     refine X.mv ?_
     refine X.gn ?_
     refine X.gn ?_
     refine X.gn ?_
     refine X.pF ?_
     refine X.as ?_
     cases h
     exact X.eG
   replace h := h2; clear h2
   cases h
   refine R.f1 Tryz.results43 ?_
   rfl
  ·replace h := condF hc3 h
   refine Run.sr ?_
   refine X.bi ?_
   refine X.an ?_
   refine R.cd (fun hc8 => ?_) (fun hc8 => ?_)
   ·replace h := condT hc8 h
    refine Run.seq ?_
    obtain ⟨v9, hv9, h⟩ := bindE h
    obtain ⟨e10, he10, h2⟩ := bindE h
    refine R.regG [(4, bool e10)] [] ?_ ?_
    ·clear h; have h := he10; clear he10 h2
     refine X.ld shp36 ?_
     refine X.fl fld38_1 ?_
     refine X.ld shp3 ?_
     refine X.callP (i_Project_hasActivity_pc _ _ _ hv9) (by rfl) (by rfl) (by rfl) (by trivial) (by rfl) (by rfl) (by rfl) (by rfl) ?_
     refine X.mv ?_
     refine X.iG (fun hb11 => ?_) (fun hb11 => ?_)
     ·replace h := condT hb11 h
      refine X.fl fld38_2 ?_
      refine X.gy ?_
      refine X.ld shp3 ?_
      refine X.gy ?_
      refine X.bi ?_
      refine X.pT ?_
      refine X.mv ?_
      refine X.iG (fun hb12 => ?_) (fun hb12 => ?_)
      ·replace h := condT hb12 h
       refine X.fl fld38_3 ?_
       refine X.gy ?_
       refine X.ld shp3 ?_
       refine X.gy ?_
       refine X.bi ?_
       refine X.pT ?_
       refine X.as ?_
       cases h
       exact X.eG
      ·replace h := condF hb12 h
       refine X.gn ?_
       refine X.gn ?_
       refine X.pF ?_
       refine X.as ?_
       cases h
       exact X.eG
     ·replace h := condF hb11 h
      refine X.gn ?_
      refine X.gn ?_
      refine X.pF ?_
      refine X.mv ?_
      refine X.gn ?_
      refine X.gn ?_
      refine X.gn ?_
      refine X.pF ?_
      refine X.as ?_
      cases h
      exact X.eG
    replace h := h2; clear h2
    cases h
    refine R.f1 Tryz.results43 ?_
    rfl
   ·replace h := condF hc8 h
    refine Run.sr ?_
    refine X.bi ?_
    refine X.an ?_
    refine R.cd (fun hc13 => ?_) (fun hc13 => ?_)
    ·replace h := condT hc13 h
     refine Run.seq ?_
     obtain ⟨v14, hv14, h⟩ := bindE h
     obtain ⟨e15, he15, h2⟩ := bindE h
     refine R.regG [(4, bool e15)] [] ?_ ?_
     ·clear h; have h := he15; clear he15 h2
      refine X.ld shp36 ?_
      refine X.fl fld38_1 ?_
      refine X.ld shp3 ?_
      refine X.callP (i_Project_hasResource_pc _ _ _ hv14) (by rfl) (by rfl) (by rfl) (by trivial) (by rfl) (by rfl) (by rfl) (by rfl) ?_
      refine X.mv ?_
      refine X.iG (fun hb16 => ?_) (fun hb16 => ?_)
      ·replace h := condT hb16 h
       refine X.fl fld38_2 ?_
       refine X.gy ?_
       refine X.ld shp3 ?_
       refine X.gy ?_
       obtain ⟨v17, hv17, h⟩ := bindE h
       refine X.callP (i_isTime_pc _ _ hv17) (by rfl) (by rfl) (by rfl) (by trivial) (by rfl) (by rfl) (by rfl) (by rfl) ?_
       refine X.pT ?_
       refine X.mv ?_
       refine X.iG (fun hb18 => ?_) (fun hb18 => ?_)
       ·replace h := condT hb18 h
        refine X.fl fld38_3 ?_
        refine X.gy ?_
        refine X.ld shp3 ?_
        refine X.gy ?_
        refine X.bi ?_
        refine X.pT ?_
        refine X.as ?_
        cases h
        exact X.eG
       ·replace h := condF hb18 h
        refine X.gn ?_
        refine X.gn ?_
        refine X.pF ?_
        refine X.as ?_
        cases h
        exact X.eG
      ·replace h := condF hb16 h
       refine X.gn ?_
       refine X.gn ?_
       refine X.pF ?_
       refine X.mv ?_
       refine X.gn ?_
       refine X.gn ?_
       refine X.gn ?_
       refine X.pF ?_
       refine X.as ?_
       cases h
       exact X.eG
     replace h := h2; clear h2
     cases h
     refine R.f1 Tryz.results43 ?_
     rfl
    ·replace h := condF hc13 h
     refine Run.sr ?_
     refine X.bi ?_
     refine X.an ?_
     refine R.cd (fun hc19 => ?_) (fun hc19 => ?_)
     ·replace h := condT hc19 h
      refine Run.seq ?_
      obtain ⟨v20, hv20, h⟩ := bindE h
      obtain ⟨e21, he21, h2⟩ := bindE h
      refine R.regG [(4, bool e21)] [] ?_ ?_
      ·clear h; have h := he21; clear he21 h2
       refine X.ld shp36 ?_
       refine X.fl fld38_1 ?_
       refine X.ld shp3 ?_
       refine X.callP (i_Project_hasResource_pc _ _ _ hv20) (by rfl) (by rfl) (by rfl) (by trivial) (by rfl) (by rfl) (by rfl) (by rfl) ?_
       refine X.mv ?_
       refine X.iG (fun hb22 => ?_) (fun hb22 => ?_)
       ·replace h := condT hb22 h
        refine X.fl fld38_2 ?_
        refine X.gy ?_
        refine X.ld shp3 ?_
        refine X.gy ?_
        obtain ⟨v23, hv23, h⟩ := bindE h
        refine X.callP (i_isTime_pc _ _ hv23) (by rfl) (by rfl) (by rfl) (by trivial) (by rfl) (by rfl) (by rfl) (by rfl) ?_
        refine X.pT ?_
        refine X.mv ?_
        refine X.iG (fun hb24 => ?_) (fun hb24 => ?_)
        ·replace h := condT hb24 h
         refine X.fl fld38_3 ?_
         refine X.gy ?_
         refine X.ld shp3 ?_
         refine X.gy ?_
         obtain ⟨v25, hv25, h⟩ := bindE h
         refine X.callP (i_isTime_pc _ _ hv25) (by rfl) (by rfl) (by rfl) (by trivial) (by rfl) (by rfl) (by rfl) (by rfl) ?_
         refine X.pT ?_
         refine X.mv ?_
         refine X.iG (fun hb26 => ?_) (fun hb26 => ?_)
         ·replace h := condT hb26 h
          refine X.fl fld38_2 ?_
          refine X.gy ?_
          refine X.ld shp3 ?_
          refine X.gy ?_
          refine X.fl fld38_3 ?_
          refine X.gy ?_
          refine X.ld shp3 ?_
          refine X.gy ?_
          refine X.bi ?_
          refine X.pT ?_
          refine X.as ?_
          cases h
          exact X.eG
         ·replace h := condF hb26 h
          refine X.gn ?_
          refine X.gn ?_
          refine X.gn ?_
          refine X.gn ?_
          refine X.pF ?_
          refine X.as ?_
          cases h
          exact X.eG
        ·replace h := condF hb24 h
         refine X.gn ?_
         refine X.gn ?_
         refine X.pF ?_
         refine X.mv ?_
         refine X.gn ?_
         refine X.gn ?_
         refine X.gn ?_
         refine X.gn ?_
         refine X.gn ?_
         refine X.pF ?_
         refine X.as ?_
         cases h
         exact X.eG
       ·replace h := condF hb22 h
        refine X.gn ?_
        refine X.gn ?_
        refine X.pF ?_
        refine X.mv ?_
        refine X.gn ?_
        refine X.gn ?_
        refine X.gn ?_
        refine X.pF ?_
        refine X.mv ?_
        refine X.gn ?_
        refine X.gn ?_
        refine X.gn ?_
        refine X.gn ?_
        refine X.gn ?_
        refine X.pF ?_
        refine X.as ?_
        cases h
        exact X.eG
      replace h := h2; clear h2
      cases h
      refine R.f1 Tryz.results43 ?_
      rfl
     ·replace h := condF hc19 h
      refine Run.sr ?_
      refine X.bi ?_
      refine X.an ?_
      refine R.cd (fun hc27 => ?_) (fun hc27 => ?_)
      ·replace h := condT hc27 h
       refine Run.seq ?_
       obtain ⟨v28, hv28, h⟩ := bindE h
       obtain ⟨e29, he29, h2⟩ := bindE h
       refine R.regG [(4, bool e29)] [] ?_ ?_
       ·clear h; have h := he29; clear he29 h2
        refine X.ld shp36 ?_
        refine X.fl fld38_1 ?_
        refine X.ld shp3 ?_
        refine X.callP (i_IsMachine_pc _ _ _ hv28) (by rfl) (by rfl) (by rfl) (by trivial) (by rfl) (by rfl) (by rfl) (by rfl) ?_
        refine X.mv ?_
        refine X.iG (fun hb30 => ?_) (fun hb30 => ?_)
        ·replace h := condT hb30 h
         refine X.ld shp36 ?_
         refine X.gy ?_
         refine X.fl fld38_2 ?_
         refine X.gy ?_
         refine X.ld shp3 ?_
         refine X.gy ?_
         obtain ⟨v31, hv31, h⟩ := bindE h
         refine X.callP (i_Project_hasActivity_pc _ _ _ hv31) (by rfl) (by rfl) (by rfl) (by trivial) (by rfl) (by rfl) (by rfl) (by rfl) ?_
         refine X.pT ?_
         refine X.mv ?_
         refine X.iG (fun hb32 => ?_) (fun hb32 => ?_)
         ·replace h := condT hb32 h
          refine X.ld shp36 ?_
          refine X.gy ?_
          refine X.fl fld38_3 ?_
          refine X.gy ?_
          refine X.ld shp3 ?_
          refine X.gy ?_
          obtain ⟨v33, hv33, h⟩ := bindE h
          refine X.callP (i_Project_hasActivity_pc _ _ _ hv33) (by rfl) (by rfl) (by rfl) (by trivial) (by rfl) (by rfl) (by rfl) (by rfl) ?_
          refine X.pT ?_
          refine X.mv ?_
          refine X.iG (fun hb34 => ?_) (fun hb34 => ?_)
          ·replace h := condT hb34 h
           refine X.fl fld38_2 ?_
           refine X.gy ?_
           refine X.ld shp3 ?_
           refine X.gy ?_
           refine X.fl fld38_3 ?_
           refine X.gy ?_
           refine X.ld shp3 ?_
           refine X.gy ?_
           refine X.bi ?_
           refine X.pT ?_
           refine X.as ?_
           cases h
           exact X.eG
          ·replace h := condF hb34 h
           refine X.gn ?_
           refine X.gn ?_
           refine X.gn ?_
           refine X.gn ?_
           refine X.pF ?_
           refine X.as ?_
           cases h
           exact X.eG
         ·replace h := condF hb32 h
          refine X.gn ?_
          refine X.gn ?_
          refine X.gn ?_
          refine X.pF ?_
          refine X.mv ?_
          refine X.gn ?_
          refine X.gn ?_
          refine X.gn ?_
          refine X.gn ?_
          refine X.gn ?_
          refine X.pF ?_
          refine X.as ?_
          cases h
          exact X.eG
        ·replace h := condF hb30 h
         refine X.gn ?_
         refine X.gn ?_
         refine X.gn ?_
         refine X.pF ?_
         refine X.mv ?_
         refine X.gn ?_
         refine X.gn ?_
         refine X.gn ?_
         refine X.gn ?_
         refine X.pF ?_
         refine X.mv ?_
         refine X.gn ?_
         refine X.gn ?_
         refine X.gn ?_
         refine X.gn ?_
         refine X.gn ?_
         refine X.pF ?_
         refine X.as ?_
         cases h
         exact X.eG
       replace h := h2; clear h2
       cases h
       refine R.f1 Tryz.results43 ?_
       rfl
      ·replace h := condF hc27 h
       refine Run.sr ?_
       refine X.bi ?_
       refine X.an ?_
       refine R.cd (fun hc35 => ?_) (fun hc35 => ?_)
       ·replace h := condT hc35 h
        refine Run.seq ?_
        obtain ⟨v36, hv36, h⟩ := bindE h
        obtain ⟨e37, he37, h2⟩ := bindE h
        refine R.regG [(4, bool e37)] [] ?_ ?_
        ·clear h; have h := he37; clear he37 h2
         refine X.ld shp36 ?_
         refine X.fl fld38_1 ?_
         refine X.ld shp3 ?_
         refine X.callP (i_Project_hasStock_pc _ _ _ hv36) (by rfl) (by rfl) (by rfl) (by trivial) (by rfl) (by rfl) (by rfl) (by rfl) ?_
         refine X.mv ?_
         refine X.iG (fun hb38 => ?_) (fun hb38 => ?_)
         ·replace h := condT hb38 h
          refine X.fl fld38_2 ?_
          refine X.gy ?_
          refine X.ld shp3 ?_
          refine X.gy ?_
          refine X.bi ?_
          refine X.pT ?_
          refine X.mv ?_
          refine X.iG (fun hb39 => ?_) (fun hb39 => ?_)
          ·replace h := condT hb39 h
           refine X.fl fld38_3 ?_
           refine X.gy ?_
           refine X.ld shp3 ?_
           refine X.gy ?_
           refine X.bi ?_
           refine X.pT ?_
           refine X.as ?_
           cases h
           exact X.eG
          ·replace h := condF hb39 h
           refine X.gn ?_
           refine X.gn ?_
           refine X.pF ?_
           refine X.as ?_
           cases h
           exact X.eG
         ·replace h := condF hb38 h
          refine X.gn ?_
          refine X.gn ?_
          refine X.pF ?_
          refine X.mv ?_
          refine X.gn ?_
          refine X.gn ?_
          refine X.gn ?_
          refine X.pF ?_
          refine X.as ?_
          cases h
          exact X.eG
        replace h := h2; clear h2
        cases h
        refine R.f1 Tryz.results43 ?_
        rfl
       ·replace h := condF hc35 h
        refine Run.skip ?_
        refine Run.blk ?_
        refine Run.sr ?_
        refine X.an ?_
        cases h
        refine R.f1 Tryz.results43 ?_
        rfl
end Go.Px.YtiinfmdopfkefaaGreat
