/-
  PROVED: contracts of functions of the program over pure values. No condition beyond those that each theorem names.
-/
import Derived.Test.YtiinfmdopfkefaaGreatProg
import Derived.Test.YtiinfmdopfkefaaGreatD1
import Derived.Test.YtiinfmdopfkefaaGreatS
import Derived.Test.YtiinfmdopfkefaaGreatC2
namespace Go.Px.YtiinfmdopfkefaaGreat
set_option linter.unusedSimpArgs false
set_option linter.unusedVariables false
open Go.Px Go.Proofs
theorem i_IsOverworked_pc (b0 : TProject) (b1 : TDomain) (b2 : Int) (b3 : Int) (b4 : Int) (r : Bool) (h : i_IsOverworked b0 b1 b2 b3 b4 = some r) : PC Tryz.prog 118 [eTProject b0, eTDomain b1, int b2, int b3, int b4] (bool r) := by
 unfold i_IsOverworked at h
 refine PC.start Tryz.func118 Tryz.ntmps118 rfl ok118 rfl ?_
 refine Run.sr ?_
 refine X.bx ?_
 refine X.bx ?_
 refine X.an ?_
 refine Run.seq ?_
 refine Run.seq ?_
 obtain ⟨v1, hv1, h⟩ := bindE h
 obtain ⟨e2, he2, h2⟩ := bindE h
 refine R.regG [(2, int b2), (3, int b3), (4, int b4), (5, .lptr 320 0), (6, .lptr 384 0), (35, bool e2)] [(320, .blk true [int b0.Deadline, .slice (b0.Activities.map eTActivity), .slice (b0.Links.map eTLink), .slice (b0.Resources.map eTResource), .slice (b0.Stocks.map int)]), (384, .blk true [.slice (b1.MinStart.map int), .slice (b1.MaxStart.map int), .slice (b1.Modes.map l_int)])] ?_ ?_
 ·clear h; have h := he2; clear he2 h2
  refine X.ld shp36 ?_
  refine X.ld shp51 ?_
  refine X.cp (i_isUsable_pc _ _ _ hv1) ?_
  refine X.un (by rfl) (by rfl) (by rfl) ?_
  refine X.mv ?_
  refine X.iG (fun hb3 => ?_) (fun hb3 => ?_)
  ·replace h := condF hb3 h
   refine X.ld shp36 ?_
   refine X.gy ?_
   refine X.mv ?_
   refine X.gy ?_
   obtain ⟨v4, hv4, h⟩ := bindE h
   refine X.cp (i_Project_hasResource_pc _ _ _ hv4) ?_
   refine X.gy ?_
   refine X.un (by rfl) (by rfl) (by rfl) ?_
   refine X.pF ?_
   refine X.mv ?_
   refine X.iG (fun hb5 => ?_) (fun hb5 => ?_)
   ·replace h := condF hb5 h
    refine X.mv ?_
    refine X.gy ?_
    obtain ⟨v6, hv6, h⟩ := bindE h
    refine X.cp (i_isTime_pc _ _ hv6) ?_
    refine X.gy ?_
    refine X.un (by rfl) (by rfl) (by rfl) ?_
    refine X.pF ?_
    refine X.mv ?_
    refine X.iG (fun hb7 => ?_) (fun hb7 => ?_)
    ·replace h := condF hb7 h
     refine X.mv ?_
     refine X.gy ?_
     obtain ⟨v8, hv8, h⟩ := bindE h
     refine X.cp (i_isTime_pc _ _ hv8) ?_
     refine X.gy ?_
     refine X.un (by rfl) (by rfl) (by rfl) ?_
     refine X.pF ?_
     refine X.mv ?_
     refine X.iG (fun hb9 => ?_) (fun hb9 => ?_)
     ·replace h := condF hb9 h
      refine X.mv ?_
      refine X.gy ?_
      refine X.mv ?_
      refine X.gy ?_
      refine X.bi ?_
      refine X.pF ?_
      cases h
      exact X.eG
     ·replace h := condT hb9 h
      refine X.gn ?_
      refine X.gn ?_
      refine X.pT ?_
      cases h
      exact X.eG
    ·replace h := condT hb7 h
     refine X.gn ?_
     refine X.gn ?_
     refine X.pT ?_
     refine X.mv ?_
     refine X.gn ?_
     refine X.gn ?_
     refine X.gn ?_
     refine X.pT ?_
     cases h
     exact X.eG
   ·replace h := condT hb5 h
    refine X.gn ?_
    refine X.gn ?_
    refine X.pT ?_
    refine X.mv ?_
    refine X.gn ?_
    refine X.gn ?_
    refine X.gn ?_
    refine X.pT ?_
    refine X.mv ?_
    refine X.gn ?_
    refine X.gn ?_
    refine X.gn ?_
    refine X.pT ?_
    cases h
    exact X.eG
  ·replace h := condT hb3 h
   refine X.gn ?_
   refine X.gn ?_
   refine X.gn ?_
   refine X.pT ?_
   refine X.mv ?_
   refine X.gn ?_
   refine X.gn ?_
   refine X.gn ?_
   refine X.pT ?_
   refine X.mv ?_
   refine X.gn ?_
   refine X.gn ?_
   refine X.gn ?_
   refine X.pT ?_
   refine X.mv ?_
   refine X.gn ?_
   refine X.gn ?_
   refine X.gn ?_
   refine X.pT ?_
   cases h
   exact X.eG
 replace h := h2; clear h2
 refine R.cd (fun hc10 => ?_) (fun hc10 => ?_)
 ·replace h := condT hc10 h
  refine Run.sr ?_
  refine X.an ?_
  cases h
  refine R.f1 Tryz.results118 ?_
  rfl
 ·replace h := condF hc10 h
  refine Run.skip ?_
  refine Run.seq ?_
  refine Run.draw (footOf [(0, ([320], [], [], [])), (1, ([384], [], [], [])), (7, ([320], [], [], []))]) mixed (by kernel_rfl) (by kernel_rfl) ?_
  refine X.ld shp36 ?_
  refine X.ld shp51 ?_
  refine X.mv ?_
  refine X.mv ?_
  refine X.mv ?_
  obtain ⟨v11, hv11, h⟩ := bindE h
  refine X.cp (i_Project_totalWork_pc _ _ _ _ _ _ hv11) ?_
  refine X.fl fld36_3 ?_
  refine X.ld shp34 ?_
  refine X.mv ?_
  obtain ⟨v12, hv12, h⟩ := bindE h
  refine X.ix elt34 (idxL_spec hv12).1 (idxL_map eTResource hv12) ?_
  refine X.fieldAddr_c fld86_0 (by rfl) (by rfl) ?_
  refine X.lc shp84 ?_
  refine X.mv ?_
  refine X.mv ?_
  obtain ⟨v13, hv13, h⟩ := bindE h
  refine X.cp (i_TotalCapacity_pc _ _ _ _ hv13) ?_
  refine X.bi ?_
  refine X.an ?_
  cases h
  refine R.f1 Tryz.results118 ?_
  rfl
theorem i_onMachine_pc (b0 : TProject) (b1 : TDomain) (b2 : Int) (r : Bool) (h : i_onMachine b0 b1 b2 = some r) : PC Tryz.prog 209 [eTProject b0, eTDomain b1, int b2] (bool r) := by
 unfold i_onMachine at h
 refine PC.start Tryz.func209 Tryz.ntmps209 rfl ok209 rfl ?_
 refine Run.sr ?_
 refine X.bx ?_
 refine X.bx ?_
 refine X.an ?_
 refine Run.seq ?_
 obtain ⟨v1, hv1, h⟩ := bindE h
 obtain ⟨e2, he2, h2⟩ := bindE h
 refine R.regG [(6, bool e2)] [] ?_ ?_
 ·clear h; have h := he2; clear he2 h2
  refine X.ld shp36 ?_
  refine X.ld shp51 ?_
  refine X.cp (i_isUsable_pc _ _ _ hv1) ?_
  refine X.mv ?_
  refine X.iG (fun hb3 => ?_) (fun hb3 => ?_)
  ·replace h := condT hb3 h
   refine X.ld shp36 ?_
   refine X.gy ?_
   refine X.mv ?_
   refine X.gy ?_
   obtain ⟨v4, hv4, h⟩ := bindE h
   refine X.cp (i_IsMachine_pc _ _ _ hv4) ?_
   refine X.pT ?_
   refine X.as ?_
   cases h
   exact X.eG
  ·replace h := condF hb3 h
   refine X.gn ?_
   refine X.gn ?_
   refine X.pF ?_
   refine X.as ?_
   cases h
   exact X.eG
 replace h := h2; clear h2
 cases h
 refine R.f1 Tryz.results209 ?_
 rfl
theorem i_arePair_pc (b0 : TProject) (b1 : TDomain) (b2 : Int) (b3 : Int) (b4 : Int) (r : Bool) (h : i_arePair b0 b1 b2 b3 b4 = some r) : PC Tryz.prog 194 [eTProject b0, eTDomain b1, int b2, int b3, int b4] (bool r) := by
 unfold i_arePair at h
 refine PC.start Tryz.func194 Tryz.ntmps194 rfl ok194 rfl ?_
 refine Run.sr ?_
 refine X.bx ?_
 refine X.bx ?_
 refine X.an ?_
 refine Run.seq ?_
 obtain ⟨v1, hv1, h⟩ := bindE h
 obtain ⟨e2, he2, h2⟩ := bindE h
 refine R.regG [(10, bool e2)] [] ?_ ?_
 ·clear h; have h := he2; clear he2 h2
  refine X.ld shp36 ?_
  refine X.ld shp51 ?_
  refine X.mv ?_
  refine X.cp (i_onMachine_pc _ _ _ _ hv1) ?_
  refine X.mv ?_
  refine X.iG (fun hb3 => ?_) (fun hb3 => ?_)
  ·replace h := condT hb3 h
   refine X.ld shp36 ?_
   refine X.gy ?_
   refine X.mv ?_
   refine X.gy ?_
   obtain ⟨v4, hv4, h⟩ := bindE h
   refine X.cp (i_Project_hasActivity_pc _ _ _ hv4) ?_
   refine X.pT ?_
   refine X.mv ?_
   refine X.iG (fun hb5 => ?_) (fun hb5 => ?_)
   ·replace h := condT hb5 h
    refine X.ld shp36 ?_
    refine X.gy ?_
    refine X.mv ?_
    refine X.gy ?_
    obtain ⟨v6, hv6, h⟩ := bindE h
    refine X.cp (i_Project_hasActivity_pc _ _ _ hv6) ?_
    refine X.pT ?_
    refine X.mv ?_
    refine X.iG (fun hb7 => ?_) (fun hb7 => ?_)
    ·replace h := condT hb7 h
     refine X.mv ?_
     refine X.gy ?_
     refine X.mv ?_
     refine X.gy ?_
     refine X.bi ?_
     refine X.pT ?_
     refine X.as ?_
     cases h
     exact X.eG
    ·replace h := condF hb7 h
     refine X.gn ?_
     refine X.gn ?_
     refine X.pF ?_
     refine X.as ?_
     cases h
     exact X.eG
   ·replace h := condF hb5 h
    refine X.gn ?_
    refine X.gn ?_
    refine X.pF ?_
    refine X.mv ?_
    refine X.gn ?_
    refine X.gn ?_
    refine X.gn ?_
    refine X.pF ?_
    refine X.as ?_
    cases h
    exact X.eG
  ·replace h := condF hb3 h
   refine X.gn ?_
   refine X.gn ?_
   refine X.pF ?_
   refine X.mv ?_
   refine X.gn ?_
   refine X.gn ?_
   refine X.gn ?_
   refine X.pF ?_
   refine X.mv ?_
   refine X.gn ?_
   refine X.gn ?_
   refine X.gn ?_
   refine X.pF ?_
   refine X.as ?_
   cases h
   exact X.eG
 replace h := h2; clear h2
 cases h
 refine R.f1 Tryz.results194 ?_
 rfl
theorem i_RequiredUsage_pc (b0 : TProject) (b1 : TDomain) (b2 : Int) (b3 : Int) (r : Int) (h : i_RequiredUsage b0 b1 b2 b3 = some r) : PC Tryz.prog 195 [eTProject b0, eTDomain b1, int b2, int b3] (int r) := by
 unfold i_RequiredUsage at h
 refine PC.start Tryz.func195 Tryz.ntmps195 rfl ok195 rfl ?_
 refine Run.sr ?_
 refine X.bx ?_
 refine X.bx ?_
 refine X.an ?_
 refine Run.seq ?_
 refine Run.seq ?_
 obtain ⟨v1, hv1, h⟩ := bindE h
 obtain ⟨e2, he2, h2⟩ := bindE h
 refine R.regG [(2, int b2), (3, int b3), (4, .lptr 256 0), (5, .lptr 320 0), (24, bool e2)] [(256, .blk true [int b0.Deadline, .slice (b0.Activities.map eTActivity), .slice (b0.Links.map eTLink), .slice (b0.Resources.map eTResource), .slice (b0.Stocks.map int)]), (320, .blk true [.slice (b1.MinStart.map int), .slice (b1.MaxStart.map int), .slice (b1.Modes.map l_int)])] ?_ ?_
 ·clear h; have h := he2; clear he2 h2
  refine X.ld shp36 ?_
  refine X.ld shp51 ?_
  refine X.cp (i_isUsable_pc _ _ _ hv1) ?_
  refine X.un (by rfl) (by rfl) (by rfl) ?_
  refine X.mv ?_
  refine X.iG (fun hb3 => ?_) (fun hb3 => ?_)
  ·replace h := condF hb3 h
   refine X.ld shp36 ?_
   refine X.gy ?_
   refine X.mv ?_
   refine X.gy ?_
   obtain ⟨v4, hv4, h⟩ := bindE h
   refine X.cp (i_Project_hasActivity_pc _ _ _ hv4) ?_
   refine X.gy ?_
   refine X.un (by rfl) (by rfl) (by rfl) ?_
   refine X.pF ?_
   refine X.mv ?_
   refine X.iG (fun hb5 => ?_) (fun hb5 => ?_)
   ·replace h := condF hb5 h
    refine X.ld shp36 ?_
    refine X.gy ?_
    refine X.mv ?_
    refine X.gy ?_
    obtain ⟨v6, hv6, h⟩ := bindE h
    refine X.cp (i_Project_hasResource_pc _ _ _ hv6) ?_
    refine X.gy ?_
    refine X.un (by rfl) (by rfl) (by rfl) ?_
    refine X.pF ?_
    cases h
    exact X.eG
   ·replace h := condT hb5 h
    refine X.gn ?_
    refine X.gn ?_
    refine X.gn ?_
    refine X.pT ?_
    cases h
    exact X.eG
  ·replace h := condT hb3 h
   refine X.gn ?_
   refine X.gn ?_
   refine X.gn ?_
   refine X.pT ?_
   refine X.mv ?_
   refine X.gn ?_
   refine X.gn ?_
   refine X.gn ?_
   refine X.gn ?_
   refine X.pT ?_
   cases h
   exact X.eG
 replace h := h2; clear h2
 refine R.cd (fun hc7 => ?_) (fun hc7 => ?_)
 ·replace h := condT hc7 h
  refine Run.sr ?_
  refine X.an ?_
  cases h
  refine R.f1 Tryz.results195 ?_
  rfl
 ·replace h := condF hc7 h
  refine Run.skip ?_
  refine Run.seq ?_
  refine Run.draw (footOf [(1, ([256], [], [], [])), (6, ([320], [], [], []))]) mixed (by kernel_rfl) (by kernel_rfl) ?_
  refine X.fl fld36_1 ?_
  refine X.ld shp32 ?_
  refine X.mv ?_
  obtain ⟨v8, hv8, h⟩ := bindE h
  refine X.ix elt32 (idxL_spec hv8).1 (idxL_map eTActivity hv8) ?_
  refine X.lc shp108 ?_
  refine X.fl fld51_2 ?_
  refine X.ld shp45 ?_
  refine X.mv ?_
  obtain ⟨v9, hv9, h⟩ := bindE h
  refine X.ix elt45 (idxL_spec hv9).1 (idxL_map l_int hv9) ?_
  refine X.lc shp25 ?_
  refine X.mv ?_
  obtain ⟨v10, hv10, h⟩ := bindE h
  refine X.cp (i_MinUsage_pc _ _ _ _ hv10) ?_
  refine X.an ?_
  cases h
  refine R.f1 Tryz.results195 ?_
  rfl
theorem i_BothUse_pc (b0 : TProject) (b1 : TDomain) (b2 : Int) (b3 : Int) (b4 : Int) (r : Bool) (h : i_BothUse b0 b1 b2 b3 b4 = some r) : PC Tryz.prog 155 [eTProject b0, eTDomain b1, int b2, int b3, int b4] (bool r) := by
 unfold i_BothUse at h
 refine PC.start Tryz.func155 Tryz.ntmps155 rfl ok155 rfl ?_
 refine Run.sr ?_
 refine X.bx ?_
 refine X.bx ?_
 refine X.an ?_
 refine Run.seq ?_
 obtain ⟨v1, hv1, h⟩ := bindE h
 obtain ⟨e2, he2, h2⟩ := bindE h
 refine R.regG [(10, bool e2)] [] ?_ ?_
 ·clear h; have h := he2; clear he2 h2
  refine X.ld shp36 ?_
  refine X.ld shp51 ?_
  refine X.mv ?_
  refine X.mv ?_
  refine X.mv ?_
  refine X.cp (i_arePair_pc _ _ _ _ _ _ hv1) ?_
  refine X.mv ?_
  refine X.iG (fun hb3 => ?_) (fun hb3 => ?_)
  ·replace h := condT hb3 h
   refine X.ld shp36 ?_
   refine X.gy ?_
   refine X.ld shp51 ?_
   refine X.gy ?_
   refine X.mv ?_
   refine X.gy ?_
   refine X.mv ?_
   refine X.gy ?_
   obtain ⟨v4, hv4, h⟩ := bindE h
   refine X.cp (i_RequiredUsage_pc _ _ _ _ _ hv4) ?_
   refine X.gy ?_
   refine X.bi ?_
   refine X.pT ?_
   refine X.mv ?_
   refine X.iG (fun hb5 => ?_) (fun hb5 => ?_)
   ·replace h := condT hb5 h
    refine X.ld shp36 ?_
    refine X.gy ?_
    refine X.ld shp51 ?_
    refine X.gy ?_
    refine X.mv ?_
    refine X.gy ?_
    refine X.mv ?_
    refine X.gy ?_
    obtain ⟨v6, hv6, h⟩ := bindE h
    refine X.cp (i_RequiredUsage_pc _ _ _ _ _ hv6) ?_
    refine X.gy ?_
    refine X.bi ?_
    refine X.pT ?_
    refine X.as ?_
    cases h
    exact X.eG
   ·replace h := condF hb5 h
    refine X.gn ?_
    refine X.gn ?_
    refine X.gn ?_
    refine X.gn ?_
    refine X.gn ?_
    refine X.pF ?_
    refine X.as ?_
    cases h
    exact X.eG
  ·replace h := condF hb3 h
   refine X.gn ?_
   refine X.gn ?_
   refine X.gn ?_
   refine X.gn ?_
   refine X.gn ?_
   refine X.pF ?_
   refine X.mv ?_
   refine X.gn ?_
   refine X.gn ?_
   refine X.gn ?_
   refine X.gn ?_
   refine X.gn ?_
   refine X.gn ?_
   refine X.pF ?_
   refine X.as ?_
   cases h
   exact X.eG
 replace h := h2; clear h2
 cases h
 refine R.f1 Tryz.results155 ?_
 rfl
theorem i_SetupTime_pc (b0 : TProject) (b1 : Int) (b2 : Int) (b3 : Int) (r : Int) (h : i_SetupTime b0 b1 b2 b3 = some r) : PC Tryz.prog 210 [eTProject b0, int b1, int b2, int b3] (int r) := by
 unfold i_SetupTime at h
 refine PC.start Tryz.func210 Tryz.ntmps210 rfl ok210 rfl ?_
 refine Run.sr ?_
 refine X.bx ?_
 refine X.an ?_
 refine Run.seq ?_
 refine Run.seq ?_
 obtain ⟨v1, hv1, h⟩ := bindE h
 obtain ⟨e2, he2, h2⟩ := bindE h
 refine R.regG [(1, int b1), (2, int b2), (3, int b3), (4, .lptr 256 0), (29, bool e2)] [(256, .blk true [int b0.Deadline, .slice (b0.Activities.map eTActivity), .slice (b0.Links.map eTLink), .slice (b0.Resources.map eTResource), .slice (b0.Stocks.map int)])] ?_ ?_
 ·clear h; have h := he2; clear he2 h2
  refine X.ld shp36 ?_
  refine X.mv ?_
  refine X.cp (i_IsMachine_pc _ _ _ hv1) ?_
  refine X.un (by rfl) (by rfl) (by rfl) ?_
  refine X.mv ?_
  refine X.iG (fun hb3 => ?_) (fun hb3 => ?_)
  ·replace h := condF hb3 h
   refine X.ld shp36 ?_
   refine X.gy ?_
   obtain ⟨v4, hv4, h⟩ := bindE h
   refine X.cp (i_ProjectOk_pc _ _ hv4) ?_
   refine X.gy ?_
   refine X.un (by rfl) (by rfl) (by rfl) ?_
   refine X.pF ?_
   refine X.mv ?_
   refine X.iG (fun hb5 => ?_) (fun hb5 => ?_)
   ·replace h := condF hb5 h
    refine X.ld shp36 ?_
    refine X.gy ?_
    refine X.mv ?_
    refine X.gy ?_
    obtain ⟨v6, hv6, h⟩ := bindE h
    refine X.cp (i_Project_hasActivity_pc _ _ _ hv6) ?_
    refine X.gy ?_
    refine X.un (by rfl) (by rfl) (by rfl) ?_
    refine X.pF ?_
    refine X.mv ?_
    refine X.iG (fun hb7 => ?_) (fun hb7 => ?_)
    ·replace h := condF hb7 h
     refine X.ld shp36 ?_
     refine X.gy ?_
     refine X.mv ?_
     refine X.gy ?_
     obtain ⟨v8, hv8, h⟩ := bindE h
     refine X.cp (i_Project_hasActivity_pc _ _ _ hv8) ?_
     refine X.gy ?_
     refine X.un (by rfl) (by rfl) (by rfl) ?_
     refine X.pF ?_
     cases h
     exact X.eG
    ·replace h := condT hb7 h
     refine X.gn ?_
     refine X.gn ?_
     refine X.gn ?_
     refine X.pT ?_
     cases h
     exact X.eG
   ·replace h := condT hb5 h
    refine X.gn ?_
    refine X.gn ?_
    refine X.gn ?_
    refine X.pT ?_
    refine X.mv ?_
    refine X.gn ?_
    refine X.gn ?_
    refine X.gn ?_
    refine X.gn ?_
    refine X.pT ?_
    cases h
    exact X.eG
  ·replace h := condT hb3 h
   refine X.gn ?_
   refine X.gn ?_
   refine X.pT ?_
   refine X.mv ?_
   refine X.gn ?_
   refine X.gn ?_
   refine X.gn ?_
   refine X.gn ?_
   refine X.pT ?_
   refine X.mv ?_
   refine X.gn ?_
   refine X.gn ?_
   refine X.gn ?_
   refine X.gn ?_
   refine X.pT ?_
   cases h
   exact X.eG
 replace h := h2; clear h2
 refine R.cd (fun hc9 => ?_) (fun hc9 => ?_)
 ·replace h := condT hc9 h
  refine Run.sr ?_
  refine X.an ?_
  cases h
  refine R.f1 Tryz.results210 ?_
  rfl
 ·replace h := condF hc9 h
  refine Run.skip ?_
  refine Run.seq ?_
  refine Run.draw (footOf [(1, ([256], [], [], [])), (7, ([256], [], [], [])), (15, ([256], [], [], []))]) mixed (by kernel_rfl) (by kernel_rfl) ?_
  refine X.fl fld36_3 ?_
  refine X.ld shp34 ?_
  refine X.mv ?_
  obtain ⟨v10, hv10, h⟩ := bindE h
  refine X.ix elt34 (idxL_spec hv10).1 (idxL_map eTResource hv10) ?_
  refine X.fieldAddr_c fld86_1 (by rfl) (by rfl) ?_
  refine X.lc shp45 ?_
  refine X.fl fld36_1 ?_
  refine X.ld shp32 ?_
  refine X.mv ?_
  obtain ⟨v11, hv11, h⟩ := bindE h
  refine X.ix elt32 (idxL_spec hv11).1 (idxL_map eTActivity hv11) ?_
  refine X.fieldAddr_c fld108_1 (by rfl) (by rfl) ?_
  refine X.lc shp3 ?_
  obtain ⟨v12, hv12, h⟩ := bindE h
  refine X.ix elt45 (idxL_spec hv12).1 (idxL_map l_int hv12) ?_
  refine X.lc shp25 ?_
  refine X.fl fld36_1 ?_
  refine X.ld shp32 ?_
  refine X.mv ?_
  obtain ⟨v13, hv13, h⟩ := bindE h
  refine X.ix elt32 (idxL_spec hv13).1 (idxL_map eTActivity hv13) ?_
  refine X.fieldAddr_c fld108_1 (by rfl) (by rfl) ?_
  refine X.lc shp3 ?_
  obtain ⟨v14, hv14, h⟩ := bindE h
  refine X.ix elt25 (idxL_spec hv14).1 (idxL_map int hv14) ?_
  refine X.lc shp3 ?_
  refine X.an ?_
  cases h
  refine R.f1 Tryz.results210 ?_
  rfl
theorem i_Project_after_pc (b0 : TProject) (b1 : TDomain) (b2 : Int) (b3 : Int) (b4 : Int) (r : Int) (h : i_Project_after b0 b1 b2 b3 b4 = some r) : PC Tryz.prog 196 [eTProject b0, eTDomain b1, int b2, int b3, int b4] (int r) := by
 unfold i_Project_after at h
 refine PC.start Tryz.func196 Tryz.ntmps196 rfl ok196 rfl ?_
 refine Run.sr ?_
 refine X.bx ?_
 refine X.bx ?_
 refine X.an ?_
 refine Run.seq ?_
 refine Run.draw (footOf [(1, ([384], [], [], [])), (5, ([320], [], [], [])), (6, ([384], [], [], [])), (10, ([320], [], [], []))]) mixed (by kernel_rfl) (by kernel_rfl) ?_
 refine X.fl fld51_0 ?_
 refine X.ld shp25 ?_
 refine X.mv ?_
 obtain ⟨v1, hv1, h⟩ := bindE h
 refine X.ix elt25 (idxL_spec hv1).1 (idxL_map int hv1) ?_
 refine X.lc shp3 ?_
 refine X.ld shp36 ?_
 refine X.ld shp51 ?_
 refine X.mv ?_
 obtain ⟨v2, hv2, h⟩ := bindE h
 refine X.cp (i_Project_duration_pc _ _ _ _ hv2) ?_
 refine X.addW (by rfl) (by rfl) (by rfl) ?_
 refine X.ld shp36 ?_
 refine X.mv ?_
 refine X.mv ?_
 refine X.mv ?_
 obtain ⟨v3, hv3, h⟩ := bindE h
 refine X.cp (i_SetupTime_pc _ _ _ _ _ hv3) ?_
 refine X.addW (by rfl) (by rfl) (by rfl) ?_
 refine X.an ?_
 cases h
 refine R.f1 Tryz.results196 ?_
 rfl
theorem i_CanPrecede_pc (b0 : TProject) (b1 : TDomain) (b2 : Int) (b3 : Int) (b4 : Int) (r : Bool) (h : i_CanPrecede b0 b1 b2 b3 b4 = some r) : PC Tryz.prog 156 [eTProject b0, eTDomain b1, int b2, int b3, int b4] (bool r) := by
 unfold i_CanPrecede at h
 refine PC.start Tryz.func156 Tryz.ntmps156 rfl ok156 rfl ?_
 refine Run.sr ?_
 refine X.bx ?_
 refine X.bx ?_
 refine X.an ?_
 refine Run.seq ?_
 obtain ⟨v1, hv1, h⟩ := bindE h
 obtain ⟨e2, he2, h2⟩ := bindE h
 refine R.drawG [(10, bool e2)] [] (footOf [(0, ([320], [], [], [])), (1, ([384], [], [], [])), (7, ([320], [], [], [])), (8, ([384], [], [], [])), (14, ([384], [], [], []))]) mixed (by kernel_rfl) (by kernel_rfl) ?_ ?_
 ·clear h; have h := he2; clear he2 h2
  refine X.ld shp36 ?_
  refine X.ld shp51 ?_
  refine X.mv ?_
  refine X.mv ?_
  refine X.mv ?_
  refine X.cp (i_arePair_pc _ _ _ _ _ _ hv1) ?_
  refine X.mv ?_
  refine X.iG (fun hb3 => ?_) (fun hb3 => ?_)
  ·replace h := condT hb3 h
   refine X.ld shp36 ?_
   refine X.gy ?_
   refine X.ld shp51 ?_
   refine X.gy ?_
   refine X.mv ?_
   refine X.gy ?_
   refine X.mv ?_
   refine X.gy ?_
   refine X.mv ?_
   refine X.gy ?_
   obtain ⟨v4, hv4, h⟩ := bindE h
   refine X.cp (i_Project_after_pc _ _ _ _ _ _ hv4) ?_
   refine X.gy ?_
   refine X.fl fld51_1 ?_
   refine X.gy ?_
   refine X.ld shp25 ?_
   refine X.gy ?_
   refine X.mv ?_
   refine X.gy ?_
   obtain ⟨v5, hv5, h⟩ := bindE h
   refine X.ix elt25 (idxL_spec hv5).1 (idxL_map int hv5) ?_
   refine X.gy ?_
   refine X.lc shp3 ?_
   refine X.gy ?_
   refine X.bi ?_
   refine X.pT ?_
   refine X.as ?_
   cases h
   exact X.eG
  ·replace h := condF hb3 h
   refine X.gn ?_
   refine X.gn ?_
   refine X.gn ?_
   refine X.gn ?_
   refine X.gn ?_
   refine X.gn ?_
   refine X.gn ?_
   refine X.gn ?_
   refine X.gn ?_
   refine X.gn ?_
   refine X.gn ?_
   refine X.pF ?_
   refine X.as ?_
   cases h
   exact X.eG
 replace h := h2; clear h2
 cases h
 refine R.f1 Tryz.results156 ?_
 rfl
theorem i_PairConflict_pc (b0 : TProject) (b1 : TDomain) (b2 : Int) (b3 : Int) (b4 : Int) (r : Bool) (h : i_PairConflict b0 b1 b2 b3 b4 = some r) : PC Tryz.prog 119 [eTProject b0, eTDomain b1, int b2, int b3, int b4] (bool r) := by
 unfold i_PairConflict at h
 refine PC.start Tryz.func119 Tryz.ntmps119 rfl ok119 rfl ?_
 refine Run.sr ?_
 refine X.bx ?_
 refine X.bx ?_
 refine X.an ?_
 refine Run.seq ?_
 obtain ⟨v1, hv1, h⟩ := bindE h
 obtain ⟨e2, he2, h2⟩ := bindE h
 refine R.regG [(10, bool e2)] [] ?_ ?_
 ·clear h; have h := he2; clear he2 h2
  refine X.ld shp36 ?_
  refine X.ld shp51 ?_
  refine X.mv ?_
  refine X.mv ?_
  refine X.mv ?_
  refine X.cp (i_BothUse_pc _ _ _ _ _ _ hv1) ?_
  refine X.mv ?_
  refine X.iG (fun hb3 => ?_) (fun hb3 => ?_)
  ·replace h := condT hb3 h
   refine X.ld shp36 ?_
   refine X.gy ?_
   refine X.ld shp51 ?_
   refine X.gy ?_
   refine X.mv ?_
   refine X.gy ?_
   refine X.mv ?_
   refine X.gy ?_
   refine X.mv ?_
   refine X.gy ?_
   obtain ⟨v4, hv4, h⟩ := bindE h
   refine X.cp (i_CanPrecede_pc _ _ _ _ _ _ hv4) ?_
   refine X.gy ?_
   refine X.un (by rfl) (by rfl) (by rfl) ?_
   refine X.pT ?_
   refine X.mv ?_
   refine X.iG (fun hb5 => ?_) (fun hb5 => ?_)
   ·replace h := condT hb5 h
    refine X.ld shp36 ?_
    refine X.gy ?_
    refine X.ld shp51 ?_
    refine X.gy ?_
    refine X.mv ?_
    refine X.gy ?_
    refine X.mv ?_
    refine X.gy ?_
    refine X.mv ?_
    refine X.gy ?_
    obtain ⟨v6, hv6, h⟩ := bindE h
    refine X.cp (i_CanPrecede_pc _ _ _ _ _ _ hv6) ?_
    refine X.gy ?_
    refine X.un (by rfl) (by rfl) (by rfl) ?_
    refine X.pT ?_
    refine X.as ?_
    cases h
    exact X.eG
   ·replace h := condF hb5 h
    refine X.gn ?_
    refine X.gn ?_
    refine X.gn ?_
    refine X.gn ?_
    refine X.gn ?_
    refine X.gn ?_
    refine X.pF ?_
    refine X.as ?_
    cases h
    exact X.eG
  ·replace h := condF hb3 h
   refine X.gn ?_
   refine X.gn ?_
   refine X.gn ?_
   refine X.gn ?_
   refine X.gn ?_
   refine X.gn ?_
   refine X.pF ?_
   refine X.mv ?_
   refine X.gn ?_
   refine X.gn ?_
   refine X.gn ?_
   refine X.gn ?_
   refine X.gn ?_
   refine X.gn ?_
   refine X.gn ?_
   refine X.pF ?_
   refine X.as ?_
   cases h
   exact X.eG
 replace h := h2; clear h2
 cases h
 refine R.f1 Tryz.results119 ?_
 rfl
theorem i_MinConsumption_c1_pc (b0 : TMode) (c1 : Int) (r : Int × Bool) (h : i_MinConsumption_c1 b0 c1 = some r) : PC Tryz.prog 197 [eTMode b0, .cptr (int c1 : PV).cells 0] (.tuple [int r.1, bool r.2]) := by
 unfold i_MinConsumption_c1 at h
 refine PC.start Tryz.func197 Tryz.ntmps197 rfl ok197 rfl ?_
 refine Run.sr ?_
 refine X.bx ?_
 refine X.as ?_
 refine X.an ?_
 refine Run.sr ?_
 refine X.fl fld110_2 ?_
 refine X.ld shp25 ?_
 refine X.lc shp3 ?_
 obtain ⟨v1, hv1, h⟩ := bindE h
 refine X.callT (i_element_pc _ _ _ hv1) (by rfl) (by rfl) (by rfl) (by trivial) (by rfl) (by rfl) (by rfl) (by rfl) (by rfl) (by rfl) ?_
 refine X.extract (by rfl) (by rfl) (by rfl) ?_
 refine X.extract (by rfl) (by rfl) (by rfl) ?_
 refine X.as ?_
 refine X.an ?_
 cases h
 refine R.fin2 Tryz.results197 (by rfl) (by rfl) (by rfl) (by repeat (first | trivial | refine ⟨by first | rfl | simp [setL], ?_⟩)) ?_
 rfl
theorem i_MinConsumption_pc (b0 : TActivity) (b1 : List Int) (b2 : Int) (r : Int) (h : i_MinConsumption b0 b1 b2 = some r) : PC Tryz.prog 157 [eTActivity b0, .slice (b1.map int), int b2] (int r) := by
 unfold i_MinConsumption at h
 refine PC.start Tryz.func157 Tryz.ntmps157 rfl ok157 rfl ?_
 refine Run.sr ?_
 refine X.bx ?_
 refine X.bx ?_
 refine X.an ?_
 refine Run.seq ?_
 refine R.pubBlk (n := 320) (by rfl) (by rfl) (by repeat (first | trivial | refine ⟨by first | rfl | simp [setL], ?_⟩)) ?_
 refine Run.reg ?_
 refine X.ld shp108 ?_
 refine X.mv ?_
 obtain ⟨v1, hv1, h⟩ := bindE h
 refine X.callF (i_chosen_pc _ _ _ hv1) (by rfl) (by rfl) (by rfl) (by trivial) (by rfl) (by rfl) (by rfl) (by rfl) ?_
 refine X.makeFunc (by rfl) (by rfl) (by repeat (first | trivial | refine ⟨by first | rfl | simp [setL], ?_⟩)) (by rfl) (by rfl) ?_
 obtain ⟨v2, hv2, h⟩ := bindE h
 refine X.cp (i_leastOf_pc _ (fun x0 => i_MinConsumption_c1 x0 b2) _ _ (fun x0 v hv => i_MinConsumption_c1_pc _ _ _ hv) _ hv2) ?_
 refine X.an ?_
 cases h
 refine R.f1 Tryz.results157 ?_
 rfl
theorem i_Project_refutesStock_pc (b0 : TProject) (b1 : TDomain) (b2 : Int) (r : Bool) (h : i_Project_refutesStock b0 b1 b2 = some r) : PC Tryz.prog 120 [eTProject b0, eTDomain b1, int b2] (bool r) := by
 unfold i_Project_refutesStock at h
 refine PC.start Tryz.func120 Tryz.ntmps120 rfl ok120 rfl ?_
 refine Run.sr ?_
 refine X.bx ?_
 refine X.bx ?_
 refine X.an ?_
 refine Run.sr ?_
 refine X.an ?_
 refine Run.seq ?_
 refine Run.sr ?_
 refine X.fl fld36_1 ?_
 refine X.ld shp32 ?_
 refine X.ls elt32 ?_
 refine X.mn ?_
 obtain ⟨o1, ho1, h⟩ := bindE h
 refine R.join2 (β := Int) [(2, int b2), (3, .lptr 192 0)] [(192, .blk true [int b0.Deadline, .slice (b0.Activities.map eTActivity), .slice (b0.Links.map eTLink), .slice (b0.Resources.map eTResource), .slice (b0.Stocks.map int)])] (fun p15 S => (7, int p15) :: S) (fun p15 M => M) (fun p15 => p15 = o1) ?_ ?_
 ·intro JJ4 hmeet3
  have hup2 := h; clear h; have h := ho1; clear ho1
  refine Run.block ?_
  refine R.bndS (t := 11) (by rfl) (fun hbd7 => ?_)
  replace hbd7 : b0.Activities.length ≤ 9223372036854775807 := by first | (rw [List.length_map] at hbd7; exact hbd7) | simp
  refine R.lp (β := Int × Int) [(2, int b2), (3, .lptr 192 0), (4, .lptr 256 0), (11, .slice (b0.Activities.map eTActivity)), (12, int (b0.Activities.length : Int))] [(192, .blk true [int b0.Deadline, .slice (b0.Activities.map eTActivity), .slice (b0.Links.map eTLink), .slice (b0.Resources.map eTResource), .slice (b0.Stocks.map int)]), (256, .blk true [.slice (b1.MinStart.map int), .slice (b1.MaxStart.map int), .slice (b1.Modes.map l_int)])] (fun bb S => (7, int bb.2) :: (13, int bb.1) :: S) (fun bb M => M) (fun n bb => 0 ≤ bb.1 ∧ bb.1 + n = (b0.Activities.length : Int) ∧ i_Project_refutesStock_L1 b1 b2 (b0.Activities.drop bb.1.toNat) bb.1 bb.2 = some o1) b0.Activities.length (0, 0) ⟨Int.le_refl _, by simp, h⟩ ?_
  clear h
  rintro JJ7 n7 ⟨z8, a9⟩ hag7 ⟨hza7, hzb7, h⟩
  dsimp only at hza7 hzb7 h
  refine Run.sr ?_
  refine X.bi ?_
  refine X.nil ?_
  refine Run.seq ?_
  refine R.cd (fun hc12 => ?_) (fun hc12 => ?_)
  ·obtain ⟨x10, xs11, hd7, hx7, hds7, hlt7⟩ := drop_atI hza7 hc12
   rw [hd7] at h
   rw [i_Project_refutesStock_L1] at h
   refine Run.skip ?_
   refine Run.seq ?_
   refine Run.block ?_
   refine Run.sr ?_
   refine X.mv ?_
   refine X.ix elt32 (idxL_spec hx7).1 (idxL_map eTActivity hx7) ?_
   refine X.lc shp108 ?_
   refine X.alloc zer108 (by rfl) (by rfl) (by rfl) ?_
   refine X.as ?_
   refine X.sl shp108 ?_
   refine X.nil ?_
   refine Run.draw (footOf [(1, ([576], [], [], [])), (3, ([256], [], [], []))]) mixed (by kernel_rfl) (by kernel_rfl) ?_
   refine X.mv ?_
   refine X.ld shp108 ?_
   refine X.fl fld51_2 ?_
   refine X.ld shp45 ?_
   refine X.mv ?_
   obtain ⟨v13, hv13, h⟩ := bindE h
   refine X.ix elt45 (idxL_spec hv13).1 (idxL_map l_int hv13) ?_
   refine X.lc shp25 ?_
   refine X.mv ?_
   obtain ⟨v14, hv14, h⟩ := bindE h
   refine X.cp (i_MinConsumption_pc _ _ _ _ hv14) ?_
   refine X.addW (by rfl) (by rfl) (by rfl) ?_
   refine X.an ?_
   refine Run.blk ?_
   refine Run.reg ?_
   refine X.ad ?_
   refine X.mn ?_
   exact R.ag hag7 (n7 - 1) (z8 + 1, (W (a9 + v14))) (R.n3 (by first | (rw [hds7]; exact h) | (dsimp only; rw [hds7]; exact h)))
  ·rw [drop_endI hza7 hc12] at h
   rw [i_Project_refutesStock_L1] at h
   refine Run.exit (by rfl) ?_
   exact R.mt hmeet3 a9 (Option.some.inj h)
 rintro p15 rfl
 refine Run.sr ?_
 refine X.mv ?_
 refine X.fl fld36_4 ?_
 refine X.ld shp25 ?_
 refine X.mv ?_
 obtain ⟨v16, hv16, h⟩ := bindE h
 refine X.ix elt25 (idxL_spec hv16).1 (idxL_map int hv16) ?_
 refine X.lc shp3 ?_
 refine X.bi ?_
 refine X.an ?_
 cases h
 refine R.f1 Tryz.results120 ?_
 rfl
theorem i_Refutes_pc (b0 : TProject) (b1 : TDomain) (b2 : TRule) (r : Bool) (h : i_Refutes b0 b1 b2 = some r) : PC Tryz.prog 69 [eTProject b0, eTDomain b1, eTRule b2] (bool r) := by
 unfold i_Refutes at h
 refine PC.start Tryz.func69 Tryz.ntmps69 rfl ok69 rfl ?_
 refine Run.sr ?_
 refine X.bx ?_
 refine X.bx ?_
 refine X.bx ?_
 refine X.an ?_
 refine Run.seq ?_
 refine Run.sr ?_
 refine X.ld shp36 ?_
 refine X.ld shp51 ?_
 obtain ⟨v1, hv1, h⟩ := bindE h
 refine X.cp (i_DomainForm_pc _ _ _ hv1) ?_
 refine X.un (by rfl) (by rfl) (by rfl) ?_
 refine X.nil ?_
 refine R.cd (fun hc2 => ?_) (fun hc2 => ?_)
 ·replace h := condT hc2 h
  refine Run.sr ?_
  refine X.an ?_
  cases h
  refine R.f1 Tryz.results69 ?_
  rfl
 ·replace h := condF hc2 h
  refine Run.skip ?_
  refine Run.seq ?_
  refine Run.sr ?_
  refine X.ld shp51 ?_
  obtain ⟨v3, hv3, h⟩ := bindE h
  refine X.cp (i_DomainEmpty_pc _ _ hv3) ?_
  refine X.nil ?_
  refine R.cd (fun hc4 => ?_) (fun hc4 => ?_)
  ·replace h := condT hc4 h
   refine Run.sr ?_
   refine X.an ?_
   cases h
   refine R.f1 Tryz.results69 ?_
   rfl
  ·replace h := condF hc4 h
   refine Run.skip ?_
   refine Run.seq ?_
   refine Run.sr ?_
   refine X.ld shp36 ?_
   refine X.ld shp38 ?_
   obtain ⟨v5, hv5, h⟩ := bindE h
   refine X.cp (i_RuleOk_pc _ _ _ hv5) ?_
   refine X.un (by rfl) (by rfl) (by rfl) ?_
   refine X.nil ?_
   refine R.cd (fun hc6 => ?_) (fun hc6 => ?_)
   ·replace h := condT hc6 h
    refine Run.sr ?_
    refine X.an ?_
    cases h
    refine R.f1 Tryz.results69 ?_
    rfl
   ·replace h := condF hc6 h
    refine Run.skip ?_
    refine Run.seq ?_
    refine Run.sr ?_
    refine X.fl fld38_0 ?_
    refine X.ld shp3 ?_
    refine X.nil ?_
    refine Run.block ?_
    refine Run.sr ?_
    refine X.bi ?_
    refine X.an ?_
    refine R.cd (fun hc7 => ?_) (fun hc7 => ?_)
    ·replace h := condT hc7 h
     refine Run.seq ?_
     refine Run.draw (footOf [(0, ([192], [], [], [])), (1, ([256], [], [], [])), (3, ([192], [], [], [])), (5, ([320], [], [], []))]) mixed (by kernel_rfl) (by kernel_rfl) ?_
     refine X.ld shp36 ?_
     refine X.ld shp51 ?_
     refine X.fl fld36_2 ?_
     refine X.ld shp33 ?_
     refine X.fl fld38_1 ?_
     refine X.ld shp3 ?_
     obtain ⟨v8, hv8, h⟩ := bindE h
     refine X.ix elt33 (idxL_spec hv8).1 (idxL_map eTLink hv8) ?_
     refine X.lc shp68 ?_
     obtain ⟨v9, hv9, h⟩ := bindE h
     refine X.cp (i_Project_refutesLink_pc _ _ _ _ hv9) ?_
     refine X.an ?_
     cases h
     refine R.f1 Tryz.results69 ?_
     rfl
    ·replace h := condF hc7 h
     refine Run.sr ?_
     refine X.bi ?_
     refine X.an ?_
     refine R.cd (fun hc10 => ?_) (fun hc10 => ?_)
     ·replace h := condT hc10 h
      refine Run.seq ?_
      refine Run.draw (footOf [(1, ([256], [], [], [])), (3, ([320], [], [], [])), (6, ([192], [], [], [])), (7, ([256], [], [], [])), (9, ([320], [], [], [])), (13, ([192], [], [], []))]) mixed (by kernel_rfl) (by kernel_rfl) ?_
      refine X.fl fld51_0 ?_
      refine X.ld shp25 ?_
      refine X.fl fld38_1 ?_
      refine X.ld shp3 ?_
      obtain ⟨v11, hv11, h⟩ := bindE h
      refine X.ix elt25 (idxL_spec hv11).1 (idxL_map int hv11) ?_
      refine X.lc shp3 ?_
      refine X.ld shp36 ?_
      refine X.ld shp51 ?_
      refine X.fl fld38_1 ?_
      refine X.ld shp3 ?_
      obtain ⟨v12, hv12, h⟩ := bindE h
      refine X.cp (i_Project_duration_pc _ _ _ _ hv12) ?_
      refine X.addW (by rfl) (by rfl) (by rfl) ?_
      refine X.fl fld36_0 ?_
      refine X.ld shp3 ?_
      refine X.bi ?_
      refine X.an ?_
      cases h
      refine R.f1 Tryz.results69 ?_
      rfl
     ·replace h := condF hc10 h
      refine Run.sr ?_
      refine X.bi ?_
      refine X.an ?_
      refine R.cd (fun hc13 => ?_) (fun hc13 => ?_)
      ·replace h := condT hc13 h
       refine Run.seq ?_
       refine Run.draw (footOf [(0, ([192], [], [], [])), (1, ([256], [], [], [])), (3, ([320], [], [], [])), (5, ([320], [], [], [])), (8, ([192], [], [], [])), (10, ([320], [], [], [])), (15, ([320], [], [], []))]) mixed (by kernel_rfl) (by kernel_rfl) ?_
       refine X.ld shp36 ?_
       refine X.ld shp51 ?_
       refine X.fl fld38_1 ?_
       refine X.ld shp3 ?_
       refine X.fl fld38_2 ?_
       refine X.ld shp3 ?_
       obtain ⟨v14, hv14, h⟩ := bindE h
       refine X.cp (i_Project_compulsoryUsage_pc _ _ _ _ _ hv14) ?_
       refine X.fl fld36_3 ?_
       refine X.ld shp34 ?_
       refine X.fl fld38_1 ?_
       refine X.ld shp3 ?_
       obtain ⟨v15, hv15, h⟩ := bindE h
       refine X.ix elt34 (idxL_spec hv15).1 (idxL_map eTResource hv15) ?_
       refine X.fieldAddr_c fld86_0 (by rfl) (by rfl) ?_
       refine X.lc shp84 ?_
       refine X.fl fld38_2 ?_
       refine X.ld shp3 ?_
       obtain ⟨v16, hv16, h⟩ := bindE h
       refine X.cp (i_capacityAt_pc _ _ _ hv16) ?_
       refine X.bi ?_
       refine X.an ?_
       cases h
       refine R.f1 Tryz.results69 ?_
       rfl
      ·replace h := condF hc13 h
       refine Run.sr ?_
       refine X.bi ?_
       refine X.an ?_
       refine R.cd (fun hc17 => ?_) (fun hc17 => ?_)
       ·replace h := condT hc17 h
        refine Run.sr ?_
        refine X.ld shp36 ?_
        refine X.ld shp51 ?_
        refine X.fl fld38_1 ?_
        refine X.ld shp3 ?_
        refine X.fl fld38_2 ?_
        refine X.ld shp3 ?_
        refine X.fl fld38_3 ?_
        refine X.ld shp3 ?_
        obtain ⟨v18, hv18, h⟩ := bindE h
        refine X.cp (i_IsOverworked_pc _ _ _ _ _ _ hv18) ?_
        refine X.an ?_
        cases h
        refine R.f1 Tryz.results69 ?_
        rfl
       ·replace h := condF hc17 h
        refine Run.sr ?_
        refine X.bi ?_
        refine X.an ?_
        refine R.cd (fun hc19 => ?_) (fun hc19 => ?_)
        ·replace h := condT hc19 h
         refine Run.sr ?_
         refine X.ld shp36 ?_
         refine X.ld shp51 ?_
         refine X.fl fld38_1 ?_
         refine X.ld shp3 ?_
         refine X.fl fld38_2 ?_
         refine X.ld shp3 ?_
         refine X.fl fld38_3 ?_
         refine X.ld shp3 ?_
         obtain ⟨v20, hv20, h⟩ := bindE h
         refine X.cp (i_PairConflict_pc _ _ _ _ _ _ hv20) ?_
         refine X.an ?_
         cases h
         refine R.f1 Tryz.results69 ?_
         rfl
        ·replace h := condF hc19 h
         refine Run.skip ?_
         refine Run.blk ?_
         refine Run.sr ?_
         refine X.ld shp36 ?_
         refine X.ld shp51 ?_
         refine X.fl fld38_1 ?_
         refine X.ld shp3 ?_
         obtain ⟨v21, hv21, h⟩ := bindE h
         refine X.cp (i_Project_refutesStock_pc _ _ _ _ hv21) ?_
         refine X.an ?_
         cases h
         refine R.f1 Tryz.results69 ?_
         rfl
end Go.Px.YtiinfmdopfkefaaGreat
