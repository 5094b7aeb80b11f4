/-
  PROVED: contracts of functions of the program over pure values. No condition beyond those that each theorem names.
-/
import Derived.Test.YtiinfmdopfkefaaGreatProg
import Derived.Test.YtiinfmdopfkefaaGreatD1
import Derived.Test.YtiinfmdopfkefaaGreatS
import Derived.Test.YtiinfmdopfkefaaGreatC2
namespace Go.Px.YtiinfmdopfkefaaGreat
set_option linter.unusedSimpArgs false
set_option linter.unusedVariables false
open Go.Px Go.Proofs
theorem i_TotalCapacity_pc (b0 : List TStep) (b1 : Int) (b2 : Int) (r : Int) (h : i_TotalCapacity b0 b1 b2 = some r) : PC Tryz.prog 154 [.slice (b0.map eTStep), int b1, int b2] (int r) := by
 unfold i_TotalCapacity at h
 refine PC.start Tryz.func154 Tryz.ntmps154 rfl ok154 rfl ?_
 refine Run.sr ?_
 refine X.an ?_
 refine Run.seq ?_
 refine Run.seq ?_
 obtain ⟨v1, hv1, h⟩ := bindE h
 obtain ⟨e2, he2, h2⟩ := bindE h
 refine R.regG [(0, .slice (b0.map eTStep)), (1, int b1), (2, int b2), (21, bool e2)] [] ?_ ?_
 ·clear h; have h := he2; clear he2 h2
  refine X.mv ?_
  refine X.cp (i_StepsOk_pc _ _ hv1) ?_
  refine X.un (by rfl) (by rfl) (by rfl) ?_
  refine X.mv ?_
  refine X.iG (fun hb3 => ?_) (fun hb3 => ?_)
  ·replace h := condF hb3 h
   refine X.mv ?_
   refine X.gy ?_
   obtain ⟨v4, hv4, h⟩ := bindE h
   refine X.cp (i_isTime_pc _ _ hv4) ?_
   refine X.gy ?_
   refine X.un (by rfl) (by rfl) (by rfl) ?_
   refine X.pF ?_
   refine X.mv ?_
   refine X.iG (fun hb5 => ?_) (fun hb5 => ?_)
   ·replace h := condF hb5 h
    refine X.mv ?_
    refine X.gy ?_
    obtain ⟨v6, hv6, h⟩ := bindE h
    refine X.cp (i_isTime_pc _ _ hv6) ?_
    refine X.gy ?_
    refine X.un (by rfl) (by rfl) (by rfl) ?_
    refine X.pF ?_
    cases h
    exact X.eG
   ·replace h := condT hb5 h
    refine X.gn ?_
    refine X.gn ?_
    refine X.pT ?_
    cases h
    exact X.eG
  ·replace h := condT hb3 h
   refine X.gn ?_
   refine X.gn ?_
   refine X.pT ?_
   refine X.mv ?_
   refine X.gn ?_
   refine X.gn ?_
   refine X.gn ?_
   refine X.pT ?_
   cases h
   exact X.eG
 replace h := h2; clear h2
 refine R.cd (fun hc7 => ?_) (fun hc7 => ?_)
 ·replace h := condT hc7 h
  refine Run.sr ?_
  refine X.an ?_
  cases h
  refine R.f1 Tryz.results154 ?_
  rfl
 ·replace h := condF hc7 h
  refine Run.skip ?_
  refine Run.sr ?_
  refine X.an ?_
  refine Run.seq ?_
  refine Run.sr ?_
  refine X.mv ?_
  refine X.an ?_
  obtain ⟨o8, ho8, h⟩ := bindE h
  refine R.join2 (β := Int) [] [] (fun p19 S => (7, int p19) :: S) (fun p19 M => M) (fun p19 => p19 = o8) ?_ ?_
  ·intro JJ11 hmeet10
   have hup9 := h; clear h; have h := ho8; clear ho8
   refine Run.block ?_
   refine R.lp (β := Int × Int) [(0, .slice (b0.map eTStep)), (2, int b2)] [] (fun bb S => (7, int bb.1) :: (8, int bb.2) :: S) (fun bb M => M) (fun n bb => i_TotalCapacity_L1 b0 b2 n bb.1 bb.2 = some o8) F0 (0, b1) h ?_
   clear h
   rintro JJ11 n11 ⟨a13, a14⟩ hag11 h
   dsimp only at h
   obtain _ | n11 := n11
   ·exact absurd h (by simp [i_TotalCapacity_L1])
   rw [i_TotalCapacity_L1] at h
   refine Run.seq ?_
   refine Run.sr ?_
   refine X.mv ?_
   refine X.mv ?_
   refine X.bi ?_
   refine X.nil ?_
   refine R.cd (fun hc17 => ?_) (fun hc17 => ?_)
   ·replace h := condT hc17 h
    refine Run.skip ?_
    refine Run.seq ?_
    refine Run.block ?_
    refine Run.reg ?_
    refine X.mv ?_
    refine X.mv ?_
    refine X.mv ?_
    obtain ⟨v18, hv18, h⟩ := bindE h
    refine X.cp (i_capacityAt_pc _ _ _ hv18) ?_
    refine X.addW (by rfl) (by rfl) (by rfl) ?_
    refine X.an ?_
    refine Run.blk ?_
    refine Run.reg ?_
    refine X.mv ?_
    refine X.addW (by rfl) (by rfl) (by rfl) ?_
    refine X.an ?_
    exact hag11 n11 ((W (a13 + v18)), (W (a14 + 1))) _ _ (by omega) h (by trivial) (by trivial) (by rfl) (by rfl)
   ·replace h := condF hc17 h
    refine Run.exit (by rfl) ?_
    exact R.mt hmeet10 a13 (Option.some.inj h)
  rintro p19 rfl
  refine Run.sr ?_
  refine X.mv ?_
  refine X.an ?_
  cases h
  refine R.f1 Tryz.results154 ?_
  rfl
theorem i_IsOverworked_pc (b0 : TProject) (b1 : TDomain) (b2 : Int) (b3 : Int) (b4 : Int) (r : Bool) (h : i_IsOverworked b0 b1 b2 b3 b4 = some r) : PC Tryz.prog 118 [eTProject b0, eTDomain b1, int b2, int b3, int b4] (bool r) := by
 unfold i_IsOverworked at h
 refine PC.start Tryz.func118 Tryz.ntmps118 rfl ok118 rfl ?_
 refine Run.sr ?_
 refine X.bx ?_
 refine X.bx ?_
 refine X.an ?_
 refine Run.seq ?_
 refine Run.seq ?_
 obtain ⟨v1, hv1, h⟩ := bindE h
 obtain ⟨e2, he2, h2⟩ := bindE h
 refine R.regG [(2, int b2), (3, int b3), (4, int b4), (5, .lptr 320 0), (6, .lptr 384 0), (35, bool e2)] [(320, .blk true [int b0.Deadline, .slice (b0.Activities.map eTActivity), .slice (b0.Links.map eTLink), .slice (b0.Resources.map eTResource), .slice (b0.Stocks.map int)]), (384, .blk true [.slice (b1.MinStart.map int), .slice (b1.MaxStart.map int), .slice (b1.Modes.map l_int)])] ?_ ?_
 ·clear h; have h := he2; clear he2 h2
  refine X.ld shp36 ?_
  refine X.ld shp51 ?_
  refine X.cp (i_isUsable_pc _ _ _ hv1) ?_
  refine X.un (by rfl) (by rfl) (by rfl) ?_
  refine X.mv ?_
  refine X.iG (fun hb3 => ?_) (fun hb3 => ?_)
  ·replace h := condF hb3 h
   refine X.ld shp36 ?_
   refine X.gy ?_
   refine X.mv ?_
   refine X.gy ?_
   obtain ⟨v4, hv4, h⟩ := bindE h
   refine X.cp (i_Project_hasResource_pc _ _ _ hv4) ?_
   refine X.gy ?_
   refine X.un (by rfl) (by rfl) (by rfl) ?_
   refine X.pF ?_
   refine X.mv ?_
   refine X.iG (fun hb5 => ?_) (fun hb5 => ?_)
   ·replace h := condF hb5 h
    refine X.mv ?_
    refine X.gy ?_
    obtain ⟨v6, hv6, h⟩ := bindE h
    refine X.cp (i_isTime_pc _ _ hv6) ?_
    refine X.gy ?_
    refine X.un (by rfl) (by rfl) (by rfl) ?_
    refine X.pF ?_
    refine X.mv ?_
    refine X.iG (fun hb7 => ?_) (fun hb7 => ?_)
    ·replace h := condF hb7 h
     refine X.mv ?_
     refine X.gy ?_
     obtain ⟨v8, hv8, h⟩ := bindE h
     refine X.cp (i_isTime_pc _ _ hv8) ?_
     refine X.gy ?_
     refine X.un (by rfl) (by rfl) (by rfl) ?_
     refine X.pF ?_
     refine X.mv ?_
     refine X.iG (fun hb9 => ?_) (fun hb9 => ?_)
     ·replace h := condF hb9 h
      refine X.mv ?_
      refine X.gy ?_
      refine X.mv ?_
      refine X.gy ?_
      refine X.bi ?_
      refine X.pF ?_
      cases h
      exact X.eG
     ·replace h := condT hb9 h
      refine X.gn ?_
      refine X.gn ?_
      refine X.pT ?_
      cases h
      exact X.eG
    ·replace h := condT hb7 h
     refine X.gn ?_
     refine X.gn ?_
     refine X.pT ?_
     refine X.mv ?_
     refine X.gn ?_
     refine X.gn ?_
     refine X.gn ?_
     refine X.pT ?_
     cases h
     exact X.eG
   ·replace h := condT hb5 h
    refine X.gn ?_
    refine X.gn ?_
    refine X.pT ?_
    refine X.mv ?_
    refine X.gn ?_
    refine X.gn ?_
    refine X.gn ?_
    refine X.pT ?_
    refine X.mv ?_
    refine X.gn ?_
    refine X.gn ?_
    refine X.gn ?_
    refine X.pT ?_
    cases h
    exact X.eG
  ·replace h := condT hb3 h
   refine X.gn ?_
   refine X.gn ?_
   refine X.gn ?_
   refine X.pT ?_
   refine X.mv ?_
   refine X.gn ?_
   refine X.gn ?_
   refine X.gn ?_
   refine X.pT ?_
   refine X.mv ?_
   refine X.gn ?_
   refine X.gn ?_
   refine X.gn ?_
   refine X.pT ?_
   refine X.mv ?_
   refine X.gn ?_
   refine X.gn ?_
   refine X.gn ?_
   refine X.pT ?_
   cases h
   exact X.eG
 replace h := h2; clear h2
 refine R.cd (fun hc10 => ?_) (fun hc10 => ?_)
 ·replace h := condT hc10 h
  refine Run.sr ?_
  refine X.an ?_
  cases h
  refine R.f1 Tryz.results118 ?_
  rfl
 ·replace h := condF hc10 h
  refine Run.skip ?_
  refine Run.seq ?_
  refine Run.draw (footOf [(0, ([320], [], [], [])), (1, ([384], [], [], [])), (7, ([320], [], [], []))]) mixed (by kernel_rfl) (by kernel_rfl) ?_
  refine X.ld shp36 ?_
  refine X.ld shp51 ?_
  refine X.mv ?_
  refine X.mv ?_
  refine X.mv ?_
  obtain ⟨v11, hv11, h⟩ := bindE h
  refine X.cp (i_Project_totalWork_pc _ _ _ _ _ _ hv11) ?_
  refine X.fl fld36_3 ?_
  refine X.ld shp34 ?_
  refine X.mv ?_
  obtain ⟨v12, hv12, h⟩ := bindE h
  refine X.ix elt34 (idxL_spec hv12).1 (idxL_map eTResource hv12) ?_
  refine X.fieldAddr_c fld86_0 (by rfl) (by rfl) ?_
  refine X.lc shp84 ?_
  refine X.mv ?_
  refine X.mv ?_
  obtain ⟨v13, hv13, h⟩ := bindE h
  refine X.cp (i_TotalCapacity_pc _ _ _ _ hv13) ?_
  refine X.bi ?_
  refine X.an ?_
  cases h
  refine R.f1 Tryz.results118 ?_
  rfl
theorem i_onMachine_pc (b0 : TProject) (b1 : TDomain) (b2 : Int) (r : Bool) (h : i_onMachine b0 b1 b2 = some r) : PC Tryz.prog 209 [eTProject b0, eTDomain b1, int b2] (bool r) := by
 unfold i_onMachine at h
 refine PC.start Tryz.func209 Tryz.ntmps209 rfl ok209 rfl ?_
 refine Run.sr ?_
 refine X.bx ?_
 refine X.bx ?_
 refine X.an ?_
 refine Run.seq ?_
 obtain ⟨v1, hv1, h⟩ := bindE h
 obtain ⟨e2, he2, h2⟩ := bindE h
 refine R.regG [(6, bool e2)] [] ?_ ?_
 ·clear h; have h := he2; clear he2 h2
  refine X.ld shp36 ?_
  refine X.ld shp51 ?_
  refine X.cp (i_isUsable_pc _ _ _ hv1) ?_
  refine X.mv ?_
  refine X.iG (fun hb3 => ?_) (fun hb3 => ?_)
  ·replace h := condT hb3 h
   refine X.ld shp36 ?_
   refine X.gy ?_
   refine X.mv ?_
   refine X.gy ?_
   obtain ⟨v4, hv4, h⟩ := bindE h
   refine X.cp (i_IsMachine_pc _ _ _ hv4) ?_
   refine X.pT ?_
   refine X.as ?_
   cases h
   exact X.eG
  ·replace h := condF hb3 h
   refine X.gn ?_
   refine X.gn ?_
   refine X.pF ?_
   refine X.as ?_
   cases h
   exact X.eG
 replace h := h2; clear h2
 cases h
 refine R.f1 Tryz.results209 ?_
 rfl
theorem i_arePair_pc (b0 : TProject) (b1 : TDomain) (b2 : Int) (b3 : Int) (b4 : Int) (r : Bool) (h : i_arePair b0 b1 b2 b3 b4 = some r) : PC Tryz.prog 194 [eTProject b0, eTDomain b1, int b2, int b3, int b4] (bool r) := by
 unfold i_arePair at h
 refine PC.start Tryz.func194 Tryz.ntmps194 rfl ok194 rfl ?_
 refine Run.sr ?_
 refine X.bx ?_
 refine X.bx ?_
 refine X.an ?_
 refine Run.seq ?_
 obtain ⟨v1, hv1, h⟩ := bindE h
 obtain ⟨e2, he2, h2⟩ := bindE h
 refine R.regG [(10, bool e2)] [] ?_ ?_
 ·clear h; have h := he2; clear he2 h2
  refine X.ld shp36 ?_
  refine X.ld shp51 ?_
  refine X.mv ?_
  refine X.cp (i_onMachine_pc _ _ _ _ hv1) ?_
  refine X.mv ?_
  refine X.iG (fun hb3 => ?_) (fun hb3 => ?_)
  ·replace h := condT hb3 h
   refine X.ld shp36 ?_
   refine X.gy ?_
   refine X.mv ?_
   refine X.gy ?_
   obtain ⟨v4, hv4, h⟩ := bindE h
   refine X.cp (i_Project_hasActivity_pc _ _ _ hv4) ?_
   refine X.pT ?_
   refine X.mv ?_
   refine X.iG (fun hb5 => ?_) (fun hb5 => ?_)
   ·replace h := condT hb5 h
    refine X.ld shp36 ?_
    refine X.gy ?_
    refine X.mv ?_
    refine X.gy ?_
    obtain ⟨v6, hv6, h⟩ := bindE h
    refine X.cp (i_Project_hasActivity_pc _ _ _ hv6) ?_
    refine X.pT ?_
    refine X.mv ?_
    refine X.iG (fun hb7 => ?_) (fun hb7 => ?_)
    ·replace h := condT hb7 h
     refine X.mv ?_
     refine X.gy ?_
     refine X.mv ?_
     refine X.gy ?_
     refine X.bi ?_
     refine X.pT ?_
     refine X.as ?_
     cases h
     exact X.eG
    ·replace h := condF hb7 h
     refine X.gn ?_
     refine X.gn ?_
     refine X.pF ?_
     refine X.as ?_
     cases h
     exact X.eG
   ·replace h := condF hb5 h
    refine X.gn ?_
    refine X.gn ?_
    refine X.pF ?_
    refine X.mv ?_
    refine X.gn ?_
    refine X.gn ?_
    refine X.gn ?_
    refine X.pF ?_
    refine X.as ?_
    cases h
    exact X.eG
  ·replace h := condF hb3 h
   refine X.gn ?_
   refine X.gn ?_
   refine X.pF ?_
   refine X.mv ?_
   refine X.gn ?_
   refine X.gn ?_
   refine X.gn ?_
   refine X.pF ?_
   refine X.mv ?_
   refine X.gn ?_
   refine X.gn ?_
   refine X.gn ?_
   refine X.pF ?_
   refine X.as ?_
   cases h
   exact X.eG
 replace h := h2; clear h2
 cases h
 refine R.f1 Tryz.results194 ?_
 rfl
theorem i_RequiredUsage_pc (b0 : TProject) (b1 : TDomain) (b2 : Int) (b3 : Int) (r : Int) (h : i_RequiredUsage b0 b1 b2 b3 = some r) : PC Tryz.prog 195 [eTProject b0, eTDomain b1, int b2, int b3] (int r) := by
 unfold i_RequiredUsage at h
 refine PC.start Tryz.func195 Tryz.ntmps195 rfl ok195 rfl ?_
 refine Run.sr ?_
 refine X.bx ?_
 refine X.bx ?_
 refine X.an ?_
 refine Run.seq ?_
 refine Run.seq ?_
 obtain ⟨v1, hv1, h⟩ := bindE h
 obtain ⟨e2, he2, h2⟩ := bindE h
 refine R.regG [(2, int b2), (3, int b3), (4, .lptr 256 0), (5, .lptr 320 0), (24, bool e2)] [(256, .blk true [int b0.Deadline, .slice (b0.Activities.map eTActivity), .slice (b0.Links.map eTLink), .slice (b0.Resources.map eTResource), .slice (b0.Stocks.map int)]), (320, .blk true [.slice (b1.MinStart.map int), .slice (b1.MaxStart.map int), .slice (b1.Modes.map l_int)])] ?_ ?_
 ·clear h; have h := he2; clear he2 h2
  refine X.ld shp36 ?_
  refine X.ld shp51 ?_
  refine X.cp (i_isUsable_pc _ _ _ hv1) ?_
  refine X.un (by rfl) (by rfl) (by rfl) ?_
  refine X.mv ?_
  refine X.iG (fun hb3 => ?_) (fun hb3 => ?_)
  ·replace h := condF hb3 h
   refine X.ld shp36 ?_
   refine X.gy ?_
   refine X.mv ?_
   refine X.gy ?_
   obtain ⟨v4, hv4, h⟩ := bindE h
   refine X.cp (i_Project_hasActivity_pc _ _ _ hv4) ?_
   refine X.gy ?_
   refine X.un (by rfl) (by rfl) (by rfl) ?_
   refine X.pF ?_
   refine X.mv ?_
   refine X.iG (fun hb5 => ?_) (fun hb5 => ?_)
   ·replace h := condF hb5 h
    refine X.ld shp36 ?_
    refine X.gy ?_
    refine X.mv ?_
    refine X.gy ?_
    obtain ⟨v6, hv6, h⟩ := bindE h
    refine X.cp (i_Project_hasResource_pc _ _ _ hv6) ?_
    refine X.gy ?_
    refine X.un (by rfl) (by rfl) (by rfl) ?_
    refine X.pF ?_
    cases h
    exact X.eG
   ·replace h := condT hb5 h
    refine X.gn ?_
    refine X.gn ?_
    refine X.gn ?_
    refine X.pT ?_
    cases h
    exact X.eG
  ·replace h := condT hb3 h
   refine X.gn ?_
   refine X.gn ?_
   refine X.gn ?_
   refine X.pT ?_
   refine X.mv ?_
   refine X.gn ?_
   refine X.gn ?_
   refine X.gn ?_
   refine X.gn ?_
   refine X.pT ?_
   cases h
   exact X.eG
 replace h := h2; clear h2
 refine R.cd (fun hc7 => ?_) (fun hc7 => ?_)
 ·replace h := condT hc7 h
  refine Run.sr ?_
  refine X.an ?_
  cases h
  refine R.f1 Tryz.results195 ?_
  rfl
 ·replace h := condF hc7 h
  refine Run.skip ?_
  refine Run.seq ?_
  refine Run.draw (footOf [(1, ([256], [], [], [])), (6, ([320], [], [], []))]) mixed (by kernel_rfl) (by kernel_rfl) ?_
  refine X.fl fld36_1 ?_
  refine X.ld shp32 ?_
  refine X.mv ?_
  obtain ⟨v8, hv8, h⟩ := bindE h
  refine X.ix elt32 (idxL_spec hv8).1 (idxL_map eTActivity hv8) ?_
  refine X.lc shp108 ?_
  refine X.fl fld51_2 ?_
  refine X.ld shp45 ?_
  refine X.mv ?_
  obtain ⟨v9, hv9, h⟩ := bindE h
  refine X.ix elt45 (idxL_spec hv9).1 (idxL_map l_int hv9) ?_
  refine X.lc shp25 ?_
  refine X.mv ?_
  obtain ⟨v10, hv10, h⟩ := bindE h
  refine X.cp (i_MinUsage_pc _ _ _ _ hv10) ?_
  refine X.an ?_
  cases h
  refine R.f1 Tryz.results195 ?_
  rfl
theorem i_BothUse_pc (b0 : TProject) (b1 : TDomain) (b2 : Int) (b3 : Int) (b4 : Int) (r : Bool) (h : i_BothUse b0 b1 b2 b3 b4 = some r) : PC Tryz.prog 155 [eTProject b0, eTDomain b1, int b2, int b3, int b4] (bool r) := by
 unfold i_BothUse at h
 refine PC.start Tryz.func155 Tryz.ntmps155 rfl ok155 rfl ?_
 refine Run.sr ?_
 refine X.bx ?_
 refine X.bx ?_
 refine X.an ?_
 refine Run.seq ?_
 obtain ⟨v1, hv1, h⟩ := bindE h
 obtain ⟨e2, he2, h2⟩ := bindE h
 refine R.regG [(10, bool e2)] [] ?_ ?_
 ·clear h; have h := he2; clear he2 h2
  refine X.ld shp36 ?_
  refine X.ld shp51 ?_
  refine X.mv ?_
  refine X.mv ?_
  refine X.mv ?_
  refine X.cp (i_arePair_pc _ _ _ _ _ _ hv1) ?_
  refine X.mv ?_
  refine X.iG (fun hb3 => ?_) (fun hb3 => ?_)
  ·replace h := condT hb3 h
   refine X.ld shp36 ?_
   refine X.gy ?_
   refine X.ld shp51 ?_
   refine X.gy ?_
   refine X.mv ?_
   refine X.gy ?_
   refine X.mv ?_
   refine X.gy ?_
   obtain ⟨v4, hv4, h⟩ := bindE h
   refine X.cp (i_RequiredUsage_pc _ _ _ _ _ hv4) ?_
   refine X.gy ?_
   refine X.bi ?_
   refine X.pT ?_
   refine X.mv ?_
   refine X.iG (fun hb5 => ?_) (fun hb5 => ?_)
   ·replace h := condT hb5 h
    refine X.ld shp36 ?_
    refine X.gy ?_
    refine X.ld shp51 ?_
    refine X.gy ?_
    refine X.mv ?_
    refine X.gy ?_
    refine X.mv ?_
    refine X.gy ?_
    obtain ⟨v6, hv6, h⟩ := bindE h
    refine X.cp (i_RequiredUsage_pc _ _ _ _ _ hv6) ?_
    refine X.gy ?_
    refine X.bi ?_
    refine X.pT ?_
    refine X.as ?_
    cases h
    exact X.eG
   ·replace h := condF hb5 h
    refine X.gn ?_
    refine X.gn ?_
    refine X.gn ?_
    refine X.gn ?_
    refine X.gn ?_
    refine X.pF ?_
    refine X.as ?_
    cases h
    exact X.eG
  ·replace h := condF hb3 h
   refine X.gn ?_
   refine X.gn ?_
   refine X.gn ?_
   refine X.gn ?_
   refine X.gn ?_
   refine X.pF ?_
   refine X.mv ?_
   refine X.gn ?_
   refine X.gn ?_
   refine X.gn ?_
   refine X.gn ?_
   refine X.gn ?_
   refine X.gn ?_
   refine X.pF ?_
   refine X.as ?_
   cases h
   exact X.eG
 replace h := h2; clear h2
 cases h
 refine R.f1 Tryz.results155 ?_
 rfl
theorem i_SetupTime_pc (b0 : TProject) (b1 : Int) (b2 : Int) (b3 : Int) (r : Int) (h : i_SetupTime b0 b1 b2 b3 = some r) : PC Tryz.prog 210 [eTProject b0, int b1, int b2, int b3] (int r) := by
 unfold i_SetupTime at h
 refine PC.start Tryz.func210 Tryz.ntmps210 rfl ok210 rfl ?_
 refine Run.sr ?_
 refine X.bx ?_
 refine X.an ?_
 refine Run.seq ?_
 refine Run.seq ?_
 obtain ⟨v1, hv1, h⟩ := bindE h
 obtain ⟨e2, he2, h2⟩ := bindE h
 refine R.regG [(1, int b1), (2, int b2), (3, int b3), (4, .lptr 256 0), (29, bool e2)] [(256, .blk true [int b0.Deadline, .slice (b0.Activities.map eTActivity), .slice (b0.Links.map eTLink), .slice (b0.Resources.map eTResource), .slice (b0.Stocks.map int)])] ?_ ?_
 ·clear h; have h := he2; clear he2 h2
  refine X.ld shp36 ?_
  refine X.mv ?_
  refine X.cp (i_IsMachine_pc _ _ _ hv1) ?_
  refine X.un (by rfl) (by rfl) (by rfl) ?_
  refine X.mv ?_
  refine X.iG (fun hb3 => ?_) (fun hb3 => ?_)
  ·replace h := condF hb3 h
   refine X.ld shp36 ?_
   refine X.gy ?_
   obtain ⟨v4, hv4, h⟩ := bindE h
   refine X.cp (i_ProjectOk_pc _ _ hv4) ?_
   refine X.gy ?_
   refine X.un (by rfl) (by rfl) (by rfl) ?_
   refine X.pF ?_
   refine X.mv ?_
   refine X.iG (fun hb5 => ?_) (fun hb5 => ?_)
   ·replace h := condF hb5 h
    refine X.ld shp36 ?_
    refine X.gy ?_
    refine X.mv ?_
    refine X.gy ?_
    obtain ⟨v6, hv6, h⟩ := bindE h
    refine X.cp (i_Project_hasActivity_pc _ _ _ hv6) ?_
    refine X.gy ?_
    refine X.un (by rfl) (by rfl) (by rfl) ?_
    refine X.pF ?_
    refine X.mv ?_
    refine X.iG (fun hb7 => ?_) (fun hb7 => ?_)
    ·replace h := condF hb7 h
     refine X.ld shp36 ?_
     refine X.gy ?_
     refine X.mv ?_
     refine X.gy ?_
     obtain ⟨v8, hv8, h⟩ := bindE h
     refine X.cp (i_Project_hasActivity_pc _ _ _ hv8) ?_
     refine X.gy ?_
     refine X.un (by rfl) (by rfl) (by rfl) ?_
     refine X.pF ?_
     cases h
     exact X.eG
    ·replace h := condT hb7 h
     refine X.gn ?_
     refine X.gn ?_
     refine X.gn ?_
     refine X.pT ?_
     cases h
     exact X.eG
   ·replace h := condT hb5 h
    refine X.gn ?_
    refine X.gn ?_
    refine X.gn ?_
    refine X.pT ?_
    refine X.mv ?_
    refine X.gn ?_
    refine X.gn ?_
    refine X.gn ?_
    refine X.gn ?_
    refine X.pT ?_
    cases h
    exact X.eG
  ·replace h := condT hb3 h
   refine X.gn ?_
   refine X.gn ?_
   refine X.pT ?_
   refine X.mv ?_
   refine X.gn ?_
   refine X.gn ?_
   refine X.gn ?_
   refine X.gn ?_
   refine X.pT ?_
   refine X.mv ?_
   refine X.gn ?_
   refine X.gn ?_
   refine X.gn ?_
   refine X.gn ?_
   refine X.pT ?_
   cases h
   exact X.eG
 replace h := h2; clear h2
 refine R.cd (fun hc9 => ?_) (fun hc9 => ?_)
 ·replace h := condT hc9 h
  refine Run.sr ?_
  refine X.an ?_
  cases h
  refine R.f1 Tryz.results210 ?_
  rfl
 ·replace h := condF hc9 h
  refine Run.skip ?_
  refine Run.seq ?_
  refine Run.draw (footOf [(1, ([256], [], [], [])), (7, ([256], [], [], [])), (15, ([256], [], [], []))]) mixed (by kernel_rfl) (by kernel_rfl) ?_
  refine X.fl fld36_3 ?_
  refine X.ld shp34 ?_
  refine X.mv ?_
  obtain ⟨v10, hv10, h⟩ := bindE h
  refine X.ix elt34 (idxL_spec hv10).1 (idxL_map eTResource hv10) ?_
  refine X.fieldAddr_c fld86_1 (by rfl) (by rfl) ?_
  refine X.lc shp45 ?_
  refine X.fl fld36_1 ?_
  refine X.ld shp32 ?_
  refine X.mv ?_
  obtain ⟨v11, hv11, h⟩ := bindE h
  refine X.ix elt32 (idxL_spec hv11).1 (idxL_map eTActivity hv11) ?_
  refine X.fieldAddr_c fld108_1 (by rfl) (by rfl) ?_
  refine X.lc shp3 ?_
  obtain ⟨v12, hv12, h⟩ := bindE h
  refine X.ix elt45 (idxL_spec hv12).1 (idxL_map l_int hv12) ?_
  refine X.lc shp25 ?_
  refine X.fl fld36_1 ?_
  refine X.ld shp32 ?_
  refine X.mv ?_
  obtain ⟨v13, hv13, h⟩ := bindE h
  refine X.ix elt32 (idxL_spec hv13).1 (idxL_map eTActivity hv13) ?_
  refine X.fieldAddr_c fld108_1 (by rfl) (by rfl) ?_
  refine X.lc shp3 ?_
  obtain ⟨v14, hv14, h⟩ := bindE h
  refine X.ix elt25 (idxL_spec hv14).1 (idxL_map int hv14) ?_
  refine X.lc shp3 ?_
  refine X.an ?_
  cases h
  refine R.f1 Tryz.results210 ?_
  rfl
theorem i_Project_after_pc (b0 : TProject) (b1 : TDomain) (b2 : Int) (b3 : Int) (b4 : Int) (r : Int) (h : i_Project_after b0 b1 b2 b3 b4 = some r) : PC Tryz.prog 196 [eTProject b0, eTDomain b1, int b2, int b3, int b4] (int r) := by
 unfold i_Project_after at h
 refine PC.start Tryz.func196 Tryz.ntmps196 rfl ok196 rfl ?_
 refine Run.sr ?_
 refine X.bx ?_
 refine X.bx ?_
 refine X.an ?_
 refine Run.seq ?_
 refine Run.draw (footOf [(1, ([384], [], [], [])), (5, ([320], [], [], [])), (6, ([384], [], [], [])), (10, ([320], [], [], []))]) mixed (by kernel_rfl) (by kernel_rfl) ?_
 refine X.fl fld51_0 ?_
 refine X.ld shp25 ?_
 refine X.mv ?_
 obtain ⟨v1, hv1, h⟩ := bindE h
 refine X.ix elt25 (idxL_spec hv1).1 (idxL_map int hv1) ?_
 refine X.lc shp3 ?_
 refine X.ld shp36 ?_
 refine X.ld shp51 ?_
 refine X.mv ?_
 obtain ⟨v2, hv2, h⟩ := bindE h
 refine X.cp (i_Project_duration_pc _ _ _ _ hv2) ?_
 refine X.addW (by rfl) (by rfl) (by rfl) ?_
 refine X.ld shp36 ?_
 refine X.mv ?_
 refine X.mv ?_
 refine X.mv ?_
 obtain ⟨v3, hv3, h⟩ := bindE h
 refine X.cp (i_SetupTime_pc _ _ _ _ _ hv3) ?_
 refine X.addW (by rfl) (by rfl) (by rfl) ?_
 refine X.an ?_
 cases h
 refine R.f1 Tryz.results196 ?_
 rfl
theorem i_CanPrecede_pc (b0 : TProject) (b1 : TDomain) (b2 : Int) (b3 : Int) (b4 : Int) (r : Bool) (h : i_CanPrecede b0 b1 b2 b3 b4 = some r) : PC Tryz.prog 156 [eTProject b0, eTDomain b1, int b2, int b3, int b4] (bool r) := by
 unfold i_CanPrecede at h
 refine PC.start Tryz.func156 Tryz.ntmps156 rfl ok156 rfl ?_
 refine Run.sr ?_
 refine X.bx ?_
 refine X.bx ?_
 refine X.an ?_
 refine Run.seq ?_
 obtain ⟨v1, hv1, h⟩ := bindE h
 obtain ⟨e2, he2, h2⟩ := bindE h
 refine R.drawG [(10, bool e2)] [] (footOf [(0, ([320], [], [], [])), (1, ([384], [], [], [])), (7, ([320], [], [], [])), (8, ([384], [], [], [])), (14, ([384], [], [], []))]) mixed (by kernel_rfl) (by kernel_rfl) ?_ ?_
 ·clear h; have h := he2; clear he2 h2
  refine X.ld shp36 ?_
  refine X.ld shp51 ?_
  refine X.mv ?_
  refine X.mv ?_
  refine X.mv ?_
  refine X.cp (i_arePair_pc _ _ _ _ _ _ hv1) ?_
  refine X.mv ?_
  refine X.iG (fun hb3 => ?_) (fun hb3 => ?_)
  ·replace h := condT hb3 h
   refine X.ld shp36 ?_
   refine X.gy ?_
   refine X.ld shp51 ?_
   refine X.gy ?_
   refine X.mv ?_
   refine X.gy ?_
   refine X.mv ?_
   refine X.gy ?_
   refine X.mv ?_
   refine X.gy ?_
   obtain ⟨v4, hv4, h⟩ := bindE h
   refine X.cp (i_Project_after_pc _ _ _ _ _ _ hv4) ?_
   refine X.gy ?_
   refine X.fl fld51_1 ?_
   refine X.gy ?_
   refine X.ld shp25 ?_
   refine X.gy ?_
   refine X.mv ?_
   refine X.gy ?_
   obtain ⟨v5, hv5, h⟩ := bindE h
   refine X.ix elt25 (idxL_spec hv5).1 (idxL_map int hv5) ?_
   refine X.gy ?_
   refine X.lc shp3 ?_
   refine X.gy ?_
   refine X.bi ?_
   refine X.pT ?_
   refine X.as ?_
   cases h
   exact X.eG
  ·replace h := condF hb3 h
   refine X.gn ?_
   refine X.gn ?_
   refine X.gn ?_
   refine X.gn ?_
   refine X.gn ?_
   refine X.gn ?_
   refine X.gn ?_
   refine X.gn ?_
   refine X.gn ?_
   refine X.gn ?_
   refine X.gn ?_
   refine X.pF ?_
   refine X.as ?_
   cases h
   exact X.eG
 replace h := h2; clear h2
 cases h
 refine R.f1 Tryz.results156 ?_
 rfl
theorem i_PairConflict_pc (b0 : TProject) (b1 : TDomain) (b2 : Int) (b3 : Int) (b4 : Int) (r : Bool) (h : i_PairConflict b0 b1 b2 b3 b4 = some r) : PC Tryz.prog 119 [eTProject b0, eTDomain b1, int b2, int b3, int b4] (bool r) := by
 unfold i_PairConflict at h
 refine PC.start Tryz.func119 Tryz.ntmps119 rfl ok119 rfl ?_
 refine Run.sr ?_
 refine X.bx ?_
 refine X.bx ?_
 refine X.an ?_
 refine Run.seq ?_
 obtain ⟨v1, hv1, h⟩ := bindE h
 obtain ⟨e2, he2, h2⟩ := bindE h
 refine R.regG [(10, bool e2)] [] ?_ ?_
 ·clear h; have h := he2; clear he2 h2
  refine X.ld shp36 ?_
  refine X.ld shp51 ?_
  refine X.mv ?_
  refine X.mv ?_
  refine X.mv ?_
  refine X.cp (i_BothUse_pc _ _ _ _ _ _ hv1) ?_
  refine X.mv ?_
  refine X.iG (fun hb3 => ?_) (fun hb3 => ?_)
  ·replace h := condT hb3 h
   refine X.ld shp36 ?_
   refine X.gy ?_
   refine X.ld shp51 ?_
   refine X.gy ?_
   refine X.mv ?_
   refine X.gy ?_
   refine X.mv ?_
   refine X.gy ?_
   refine X.mv ?_
   refine X.gy ?_
   obtain ⟨v4, hv4, h⟩ := bindE h
   refine X.cp (i_CanPrecede_pc _ _ _ _ _ _ hv4) ?_
   refine X.gy ?_
   refine X.un (by rfl) (by rfl) (by rfl) ?_
   refine X.pT ?_
   refine X.mv ?_
   refine X.iG (fun hb5 => ?_) (fun hb5 => ?_)
   ·replace h := condT hb5 h
    refine X.ld shp36 ?_
    refine X.gy ?_
    refine X.ld shp51 ?_
    refine X.gy ?_
    refine X.mv ?_
    refine X.gy ?_
    refine X.mv ?_
    refine X.gy ?_
    refine X.mv ?_
    refine X.gy ?_
    obtain ⟨v6, hv6, h⟩ := bindE h
    refine X.cp (i_CanPrecede_pc _ _ _ _ _ _ hv6) ?_
    refine X.gy ?_
    refine X.un (by rfl) (by rfl) (by rfl) ?_
    refine X.pT ?_
    refine X.as ?_
    cases h
    exact X.eG
   ·replace h := condF hb5 h
    refine X.gn ?_
    refine X.gn ?_
    refine X.gn ?_
    refine X.gn ?_
    refine X.gn ?_
    refine X.gn ?_
    refine X.pF ?_
    refine X.as ?_
    cases h
    exact X.eG
  ·replace h := condF hb3 h
   refine X.gn ?_
   refine X.gn ?_
   refine X.gn ?_
   refine X.gn ?_
   refine X.gn ?_
   refine X.gn ?_
   refine X.pF ?_
   refine X.mv ?_
   refine X.gn ?_
   refine X.gn ?_
   refine X.gn ?_
   refine X.gn ?_
   refine X.gn ?_
   refine X.gn ?_
   refine X.gn ?_
   refine X.pF ?_
   refine X.as ?_
   cases h
   exact X.eG
 replace h := h2; clear h2
 cases h
 refine R.f1 Tryz.results119 ?_
 rfl
theorem i_MinConsumption_c1_pc (b0 : TMode) (c1 : Int) (r : Int × Bool) (h : i_MinConsumption_c1 b0 c1 = some r) : PC Tryz.prog 197 [eTMode b0, .cptr (int c1 : PV).cells 0] (.tuple [int r.1, bool r.2]) := by
 unfold i_MinConsumption_c1 at h
 refine PC.start Tryz.func197 Tryz.ntmps197 rfl ok197 rfl ?_
 refine Run.sr ?_
 refine X.bx ?_
 refine X.as ?_
 refine X.an ?_
 refine Run.sr ?_
 refine X.fl fld110_2 ?_
 refine X.ld shp25 ?_
 refine X.lc shp3 ?_
 obtain ⟨v1, hv1, h⟩ := bindE h
 refine X.callT (i_element_pc _ _ _ hv1) (by rfl) (by rfl) (by rfl) (by trivial) (by rfl) (by rfl) (by rfl) (by rfl) (by rfl) (by rfl) ?_
 refine X.extract (by rfl) (by rfl) (by rfl) ?_
 refine X.extract (by rfl) (by rfl) (by rfl) ?_
 refine X.as ?_
 refine X.an ?_
 cases h
 refine R.fin2 Tryz.results197 (by rfl) (by rfl) (by rfl) (by repeat (first | trivial | refine ⟨by first | rfl | simp [setL], ?_⟩)) ?_
 rfl
theorem i_MinConsumption_pc (b0 : TActivity) (b1 : List Int) (b2 : Int) (r : Int) (h : i_MinConsumption b0 b1 b2 = some r) : PC Tryz.prog 157 [eTActivity b0, .slice (b1.map int), int b2] (int r) := by
 unfold i_MinConsumption at h
 refine PC.start Tryz.func157 Tryz.ntmps157 rfl ok157 rfl ?_
 refine Run.sr ?_
 refine X.bx ?_
 refine X.bx ?_
 refine X.an ?_
 refine Run.seq ?_
 refine R.pubBlk (n := 320) (by rfl) (by rfl) (by repeat (first | trivial | refine ⟨by first | rfl | simp [setL], ?_⟩)) ?_
 refine Run.reg ?_
 refine X.ld shp108 ?_
 refine X.mv ?_
 obtain ⟨v1, hv1, h⟩ := bindE h
 refine X.callF (i_chosen_pc _ _ _ hv1) (by rfl) (by rfl) (by rfl) (by trivial) (by rfl) (by rfl) (by rfl) (by rfl) ?_
 refine X.makeFunc (by rfl) (by rfl) (by repeat (first | trivial | refine ⟨by first | rfl | simp [setL], ?_⟩)) (by rfl) (by rfl) ?_
 obtain ⟨v2, hv2, h⟩ := bindE h
 refine X.cp (i_leastOf_pc _ (fun x0 => i_MinConsumption_c1 x0 b2) _ _ (fun x0 v hv => i_MinConsumption_c1_pc _ _ _ hv) _ hv2) ?_
 refine X.an ?_
 cases h
 refine R.f1 Tryz.results157 ?_
 rfl
theorem i_Project_refutesStock_pc (b0 : TProject) (b1 : TDomain) (b2 : Int) (r : Bool) (h : i_Project_refutesStock b0 b1 b2 = some r) : PC Tryz.prog 120 [eTProject b0, eTDomain b1, int b2] (bool r) := by
 unfold i_Project_refutesStock at h
 refine PC.start Tryz.func120 Tryz.ntmps120 rfl ok120 rfl ?_
 refine Run.sr ?_
 refine X.bx ?_
 refine X.bx ?_
 refine X.an ?_
 refine Run.sr ?_
 refine X.an ?_
 refine Run.seq ?_
 refine Run.sr ?_
 refine X.fl fld36_1 ?_
 refine X.ld shp32 ?_
 refine X.ls elt32 ?_
 refine X.mn ?_
 obtain ⟨o1, ho1, h⟩ := bindE h
 refine R.join2 (β := Int) [(2, int b2), (3, .lptr 192 0)] [(192, .blk true [int b0.Deadline, .slice (b0.Activities.map eTActivity), .slice (b0.Links.map eTLink), .slice (b0.Resources.map eTResource), .slice (b0.Stocks.map int)])] (fun p15 S => (7, int p15) :: S) (fun p15 M => M) (fun p15 => p15 = o1) ?_ ?_
 ·intro JJ4 hmeet3
  have hup2 := h; clear h; have h := ho1; clear ho1
  refine Run.block ?_
  refine R.bndS (t := 11) (by rfl) (fun hbd7 => ?_)
  replace hbd7 : b0.Activities.length ≤ 9223372036854775807 := by first | (rw [List.length_map] at hbd7; exact hbd7) | simp
  refine R.lp (β := Int × Int) [(2, int b2), (3, .lptr 192 0), (4, .lptr 256 0), (11, .slice (b0.Activities.map eTActivity)), (12, int (b0.Activities.length : Int))] [(192, .blk true [int b0.Deadline, .slice (b0.Activities.map eTActivity), .slice (b0.Links.map eTLink), .slice (b0.Resources.map eTResource), .slice (b0.Stocks.map int)]), (256, .blk true [.slice (b1.MinStart.map int), .slice (b1.MaxStart.map int), .slice (b1.Modes.map l_int)])] (fun bb S => (7, int bb.2) :: (13, int bb.1) :: S) (fun bb M => M) (fun n bb => 0 ≤ bb.1 ∧ bb.1 + n = (b0.Activities.length : Int) ∧ i_Project_refutesStock_L1 b1 b2 (b0.Activities.drop bb.1.toNat) bb.1 bb.2 = some o1) b0.Activities.length (0, 0) ⟨Int.le_refl _, by simp, h⟩ ?_
  clear h
  rintro JJ7 n7 ⟨z8, a9⟩ hag7 ⟨hza7, hzb7, h⟩
  dsimp only at hza7 hzb7 h
  refine Run.sr ?_
  refine X.bi ?_
  refine X.nil ?_
  refine Run.seq ?_
  refine R.cd (fun hc12 => ?_) (fun hc12 => ?_)
  ·obtain ⟨x10, xs11, hd7, hx7, hds7, hlt7⟩ := drop_atI hza7 hc12
   rw [hd7] at h
   rw [i_Project_refutesStock_L1] at h
   refine Run.skip ?_
   refine Run.seq ?_
   refine Run.block ?_
   refine Run.sr ?_
   refine X.mv ?_
   refine X.ix elt32 (idxL_spec hx7).1 (idxL_map eTActivity hx7) ?_
   refine X.lc shp108 ?_
   refine X.alloc zer108 (by rfl) (by rfl) (by rfl) ?_
   refine X.as ?_
   refine X.sl shp108 ?_
   refine X.nil ?_
   refine Run.draw (footOf [(1, ([576], [], [], [])), (3, ([256], [], [], []))]) mixed (by kernel_rfl) (by kernel_rfl) ?_
   refine X.mv ?_
   refine X.ld shp108 ?_
   refine X.fl fld51_2 ?_
   refine X.ld shp45 ?_
   refine X.mv ?_
   obtain ⟨v13, hv13, h⟩ := bindE h
   refine X.ix elt45 (idxL_spec hv13).1 (idxL_map l_int hv13) ?_
   refine X.lc shp25 ?_
   refine X.mv ?_
   obtain ⟨v14, hv14, h⟩ := bindE h
   refine X.cp (i_MinConsumption_pc _ _ _ _ hv14) ?_
   refine X.addW (by rfl) (by rfl) (by rfl) ?_
   refine X.an ?_
   refine Run.blk ?_
   refine Run.reg ?_
   refine X.ad ?_
   refine X.mn ?_
   exact R.ag hag7 (n7 - 1) (z8 + 1, (W (a9 + v14))) (R.n3 (by first | (rw [hds7]; exact h) | (dsimp only; rw [hds7]; exact h)))
  ·rw [drop_endI hza7 hc12] at h
   rw [i_Project_refutesStock_L1] at h
   refine Run.exit (by rfl) ?_
   exact R.mt hmeet3 a9 (Option.some.inj h)
 rintro p15 rfl
 refine Run.sr ?_
 refine X.mv ?_
 refine X.fl fld36_4 ?_
 refine X.ld shp25 ?_
 refine X.mv ?_
 obtain ⟨v16, hv16, h⟩ := bindE h
 refine X.ix elt25 (idxL_spec hv16).1 (idxL_map int hv16) ?_
 refine X.lc shp3 ?_
 refine X.bi ?_
 refine X.an ?_
 cases h
 refine R.f1 Tryz.results120 ?_
 rfl
theorem i_Refutes_pc (b0 : TProject) (b1 : TDomain) (b2 : TRule) (r : Bool) (h : i_Refutes b0 b1 b2 = some r) : PC Tryz.prog 69 [eTProject b0, eTDomain b1, eTRule b2] (bool r) := by
 unfold i_Refutes at h
 refine PC.start Tryz.func69 Tryz.ntmps69 rfl ok69 rfl ?_
 refine Run.sr ?_
 refine X.bx ?_
 refine X.bx ?_
 refine X.bx ?_
 refine X.an ?_
 refine Run.seq ?_
 refine Run.sr ?_
 refine X.ld shp36 ?_
 refine X.ld shp51 ?_
 obtain ⟨v1, hv1, h⟩ := bindE h
 refine X.cp (i_DomainForm_pc _ _ _ hv1) ?_
 refine X.un (by rfl) (by rfl) (by rfl) ?_
 refine X.nil ?_
 refine R.cd (fun hc2 => ?_) (fun hc2 => ?_)
 ·replace h := condT hc2 h
  refine Run.sr ?_
  refine X.an ?_
  cases h
  refine R.f1 Tryz.results69 ?_
  rfl
 ·replace h := condF hc2 h
  refine Run.skip ?_
  refine Run.seq ?_
  refine Run.sr ?_
  refine X.ld shp51 ?_
  obtain ⟨v3, hv3, h⟩ := bindE h
  refine X.cp (i_DomainEmpty_pc _ _ hv3) ?_
  refine X.nil ?_
  refine R.cd (fun hc4 => ?_) (fun hc4 => ?_)
  ·replace h := condT hc4 h
   refine Run.sr ?_
   refine X.an ?_
   cases h
   refine R.f1 Tryz.results69 ?_
   rfl
  ·replace h := condF hc4 h
   refine Run.skip ?_
   refine Run.seq ?_
   refine Run.sr ?_
   refine X.ld shp36 ?_
   refine X.ld shp38 ?_
   obtain ⟨v5, hv5, h⟩ := bindE h
   refine X.cp (i_RuleOk_pc _ _ _ hv5) ?_
   refine X.un (by rfl) (by rfl) (by rfl) ?_
   refine X.nil ?_
   refine R.cd (fun hc6 => ?_) (fun hc6 => ?_)
   ·replace h := condT hc6 h
    refine Run.sr ?_
    refine X.an ?_
    cases h
    refine R.f1 Tryz.results69 ?_
    rfl
   ·replace h := condF hc6 h
    refine Run.skip ?_
    refine Run.seq ?_
    refine Run.sr ?_
    refine X.fl fld38_0 ?_
    refine X.ld shp3 ?_
    refine X.nil ?_
    refine Run.block ?_
    refine Run.sr ?_
    refine X.bi ?_
    refine X.an ?_
    refine R.cd (fun hc7 => ?_) (fun hc7 => ?_)
    ·replace h := condT hc7 h
     refine Run.seq ?_
     refine Run.draw (footOf [(0, ([192], [], [], [])), (1, ([256], [], [], [])), (3, ([192], [], [], [])), (5, ([320], [], [], []))]) mixed (by kernel_rfl) (by kernel_rfl) ?_
     refine X.ld shp36 ?_
     refine X.ld shp51 ?_
     refine X.fl fld36_2 ?_
     refine X.ld shp33 ?_
     refine X.fl fld38_1 ?_
     refine X.ld shp3 ?_
     obtain ⟨v8, hv8, h⟩ := bindE h
     refine X.ix elt33 (idxL_spec hv8).1 (idxL_map eTLink hv8) ?_
     refine X.lc shp68 ?_
     obtain ⟨v9, hv9, h⟩ := bindE h
     refine X.cp (i_Project_refutesLink_pc _ _ _ _ hv9) ?_
     refine X.an ?_
     cases h
     refine R.f1 Tryz.results69 ?_
     rfl
    ·replace h := condF hc7 h
     refine Run.sr ?_
     refine X.bi ?_
     refine X.an ?_
     refine R.cd (fun hc10 => ?_) (fun hc10 => ?_)
     ·replace h := condT hc10 h
      refine Run.seq ?_
      refine Run.draw (footOf [(1, ([256], [], [], [])), (3, ([320], [], [], [])), (6, ([192], [], [], [])), (7, ([256], [], [], [])), (9, ([320], [], [], [])), (13, ([192], [], [], []))]) mixed (by kernel_rfl) (by kernel_rfl) ?_
      refine X.fl fld51_0 ?_
      refine X.ld shp25 ?_
      refine X.fl fld38_1 ?_
      refine X.ld shp3 ?_
      obtain ⟨v11, hv11, h⟩ := bindE h
      refine X.ix elt25 (idxL_spec hv11).1 (idxL_map int hv11) ?_
      refine X.lc shp3 ?_
      refine X.ld shp36 ?_
      refine X.ld shp51 ?_
      refine X.fl fld38_1 ?_
      refine X.ld shp3 ?_
      obtain ⟨v12, hv12, h⟩ := bindE h
      refine X.cp (i_Project_duration_pc _ _ _ _ hv12) ?_
      refine X.addW (by rfl) (by rfl) (by rfl) ?_
      refine X.fl fld36_0 ?_
      refine X.ld shp3 ?_
      refine X.bi ?_
      refine X.an ?_
      cases h
      refine R.f1 Tryz.results69 ?_
      rfl
     ·replace h := condF hc10 h
      refine Run.sr ?_
      refine X.bi ?_
      refine X.an ?_
      refine R.cd (fun hc13 => ?_) (fun hc13 => ?_)
      ·replace h := condT hc13 h
       refine Run.seq ?_
       refine Run.draw (footOf [(0, ([192], [], [], [])), (1, ([256], [], [], [])), (3, ([320], [], [], [])), (5, ([320], [], [], [])), (8, ([192], [], [], [])), (10, ([320], [], [], [])), (15, ([320], [], [], []))]) mixed (by kernel_rfl) (by kernel_rfl) ?_
       refine X.ld shp36 ?_
       refine X.ld shp51 ?_
       refine X.fl fld38_1 ?_
       refine X.ld shp3 ?_
       refine X.fl fld38_2 ?_
       refine X.ld shp3 ?_
       obtain ⟨v14, hv14, h⟩ := bindE h
       refine X.cp (i_Project_compulsoryUsage_pc _ _ _ _ _ hv14) ?_
       refine X.fl fld36_3 ?_
       refine X.ld shp34 ?_
       refine X.fl fld38_1 ?_
       refine X.ld shp3 ?_
       obtain ⟨v15, hv15, h⟩ := bindE h
       refine X.ix elt34 (idxL_spec hv15).1 (idxL_map eTResource hv15) ?_
       refine X.fieldAddr_c fld86_0 (by rfl) (by rfl) ?_
       refine X.lc shp84 ?_
       refine X.fl fld38_2 ?_
       refine X.ld shp3 ?_
       obtain ⟨v16, hv16, h⟩ := bindE h
       refine X.cp (i_capacityAt_pc _ _ _ hv16) ?_
       refine X.bi ?_
       refine X.an ?_
       cases h
       refine R.f1 Tryz.results69 ?_
       rfl
      ·replace h := condF hc13 h
       refine Run.sr ?_
       refine X.bi ?_
       refine X.an ?_
       refine R.cd (fun hc17 => ?_) (fun hc17 => ?_)
       ·replace h := condT hc17 h
        refine Run.sr ?_
        refine X.ld shp36 ?_
        refine X.ld shp51 ?_
        refine X.fl fld38_1 ?_
        refine X.ld shp3 ?_
        refine X.fl fld38_2 ?_
        refine X.ld shp3 ?_
        refine X.fl fld38_3 ?_
        refine X.ld shp3 ?_
        obtain ⟨v18, hv18, h⟩ := bindE h
        refine X.cp (i_IsOverworked_pc _ _ _ _ _ _ hv18) ?_
        refine X.an ?_
        cases h
        refine R.f1 Tryz.results69 ?_
        rfl
       ·replace h := condF hc17 h
        refine Run.sr ?_
        refine X.bi ?_
        refine X.an ?_
        refine R.cd (fun hc19 => ?_) (fun hc19 => ?_)
        ·replace h := condT hc19 h
         refine Run.sr ?_
         refine X.ld shp36 ?_
         refine X.ld shp51 ?_
         refine X.fl fld38_1 ?_
         refine X.ld shp3 ?_
         refine X.fl fld38_2 ?_
         refine X.ld shp3 ?_
         refine X.fl fld38_3 ?_
         refine X.ld shp3 ?_
         obtain ⟨v20, hv20, h⟩ := bindE h
         refine X.cp (i_PairConflict_pc _ _ _ _ _ _ hv20) ?_
         refine X.an ?_
         cases h
         refine R.f1 Tryz.results69 ?_
         rfl
        ·replace h := condF hc19 h
         refine Run.skip ?_
         refine Run.blk ?_
         refine Run.sr ?_
         refine X.ld shp36 ?_
         refine X.ld shp51 ?_
         refine X.fl fld38_1 ?_
         refine X.ld shp3 ?_
         obtain ⟨v21, hv21, h⟩ := bindE h
         refine X.cp (i_Project_refutesStock_pc _ _ _ _ hv21) ?_
         refine X.an ?_
         cases h
         refine R.f1 Tryz.results69 ?_
         rfl
theorem s_CountRefutations_pc (b0 : TProject) (b1 : TDomain) (r : Int) (h : s_CountRefutations b0 b1 = some r) : PC Tryz.prog 29 [eTProject b0, eTDomain b1] (int r) := by
 unfold s_CountRefutations at h
 refine PC.start Tryz.func29 Tryz.ntmps29 rfl ok29 rfl ?_
 refine Run.sr ?_
 refine X.bx ?_
 refine X.bx ?_
 refine X.an ?_
 refine Run.sr ?_
 refine X.an ?_
 refine Run.seq ?_
 refine Run.sr ?_
 refine X.ld shp36 ?_
 refine X.ld shp51 ?_
 obtain ⟨v1, hv1, h⟩ := bindE h
 refine X.callF (s_CandidateRules_pc _ _ _ hv1) (by rfl) (by rfl) (by rfl) (by trivial) (by rfl) (by rfl) (by rfl) (by rfl) ?_
 refine X.len_o elt49 (by rfl) (by rfl) (by first | rfl | simp [setL] | omega) (by first | exact List.length_map .. | rfl) (by rfl) (by rfl) ?_
 refine X.mn ?_
 obtain ⟨o2, ho2, h⟩ := bindE h
 refine R.join2 (β := Int) [] [] (fun p16 S => (5, int p16) :: S) (fun p16 M => M) (fun p16 => p16 = o2) ?_ ?_
 ·intro JJ5 hmeet4
  have hup3 := h; clear h; have h := ho2; clear ho2
  refine Run.block ?_
  refine R.bndO (n := 640) (by rfl) (fun hbd8 => ?_)
  replace hbd8 : v1.length ≤ 9223372036854775807 := by first | (rw [List.length_map] at hbd8; exact hbd8) | simp
  refine R.lp (β := Int × Int) [(2, .lptr 128 0), (3, .lptr 192 0), (11, int (v1.length : Int))] [(128, .blk true [int b0.Deadline, .slice (b0.Activities.map eTActivity), .slice (b0.Links.map eTLink), .slice (b0.Resources.map eTResource), .slice (b0.Stocks.map int)]), (192, .blk true [.slice (b1.MinStart.map int), .slice (b1.MaxStart.map int), .slice (b1.Modes.map l_int)]), (640, .obj false 38 4 (v1.map eTRule))] (fun bb S => (5, int bb.2) :: (10, .own 640 (v1.map eTRule).length) :: (12, int bb.1) :: S) (fun bb M => M) (fun n bb => 0 ≤ bb.1 ∧ bb.1 + n = (v1.length : Int) ∧ s_CountRefutations_L1 b0 b1 (v1.drop bb.1.toNat) bb.1 bb.2 = some o2) v1.length (0, 0) ⟨Int.le_refl _, by simp, h⟩ ?_
  clear h
  rintro JJ8 n8 ⟨z9, a10⟩ hag8 ⟨hza8, hzb8, h⟩
  dsimp only at hza8 hzb8 h
  refine Run.sr ?_
  refine X.bi ?_
  refine X.nil ?_
  refine Run.seq ?_
  refine R.cd (fun hc13 => ?_) (fun hc13 => ?_)
  ·obtain ⟨x11, xs12, hd8, hx8, hds8, hlt8⟩ := drop_atI hza8 hc13
   rw [hd8] at h
   rw [s_CountRefutations_L1] at h
   refine Run.skip ?_
   refine Run.seq ?_
   refine Run.block ?_
   refine Run.sr ?_
   refine X.index_o elt49 (by rfl) (by rfl) (by first | rfl | simp [setL] | omega) (by rfl) (idxL_spec hx8).1 (idxL_map eTRule hx8) (by rfl) (by rfl) (by rfl) ?_
   refine X.lc shp38 ?_
   refine X.alloc zer38 (by rfl) (by rfl) (by rfl) ?_
   refine X.sl shp38 ?_
   refine X.nil ?_
   refine Run.sr ?_
   refine X.ld shp36 ?_
   refine X.ld shp51 ?_
   refine X.ld shp38 ?_
   obtain ⟨v14, hv14, h⟩ := bindE h
   refine X.cp (s_l17Refutes_pc _ _ _ _ hv14) ?_
   refine X.nil ?_
   refine R.cd (fun hc15 => ?_) (fun hc15 => ?_)
   ·replace h := condT hc15 h
    refine Run.reg ?_
    refine X.mv ?_
    refine X.addW (by rfl) (by rfl) (by rfl) ?_
    refine X.an ?_
    refine Run.blk ?_
    refine Run.reg ?_
    refine X.ad ?_
    refine X.mn ?_
    exact R.ag hag8 (n8 - 1) (z9 + 1, (W (a10 + 1))) (R.n3 (by first | (rw [hds8]; exact h) | (dsimp only; rw [hds8]; exact h)))
   ·replace h := condF hc15 h
    refine Run.skip ?_
    refine Run.blk ?_
    refine Run.reg ?_
    refine X.ad ?_
    refine X.mn ?_
    exact R.ag hag8 (n8 - 1) (z9 + 1, a10) (R.n3 (by first | (rw [hds8]; exact h) | (dsimp only; rw [hds8]; exact h)))
  ·rw [drop_endI hza8 hc13] at h
   rw [s_CountRefutations_L1] at h
   refine Run.exit (by rfl) ?_
   exact R.mt hmeet4 a10 (Option.some.inj h)
 rintro p16 rfl
 refine Run.sr ?_
 refine X.mv ?_
 refine X.an ?_
 cases h
 refine R.f1 Tryz.results29 ?_
 rfl
theorem i_CountRefutations_pc (b0 : TProject) (b1 : TDomain) (r : Int) (h : i_CountRefutations b0 b1 = some r) : PC Tryz.prog 30 [eTProject b0, eTDomain b1] (int r) := by
 unfold i_CountRefutations at h
 refine PC.start Tryz.func30 Tryz.ntmps30 rfl ok30 rfl ?_
 refine Run.sr ?_
 refine X.bx ?_
 refine X.bx ?_
 refine X.an ?_
 refine Run.sr ?_
 refine X.an ?_
 refine Run.seq ?_
 refine Run.sr ?_
 refine X.ld shp36 ?_
 refine X.ld shp51 ?_
 obtain ⟨v1, hv1, h⟩ := bindE h
 refine X.callF (PC.pubF (i_CandidateRules_pc _ _ _ hv1)) (by rfl) (by rfl) (by rfl) (by trivial) (by rfl) (by rfl) (by rfl) (by rfl) ?_
 refine X.len_o elt49 (by rfl) (by rfl) (by first | rfl | simp [setL] | omega) (by first | exact List.length_map .. | rfl) (by rfl) (by rfl) ?_
 refine X.mn ?_
 obtain ⟨o2, ho2, h⟩ := bindE h
 refine R.join2 (β := Int) [] [] (fun p16 S => (5, int p16) :: S) (fun p16 M => M) (fun p16 => p16 = o2) ?_ ?_
 ·intro JJ5 hmeet4
  have hup3 := h; clear h; have h := ho2; clear ho2
  refine Run.block ?_
  refine R.bndO (n := 640) (by rfl) (fun hbd8 => ?_)
  replace hbd8 : v1.length ≤ 9223372036854775807 := by first | (rw [List.length_map] at hbd8; exact hbd8) | simp
  refine R.lp (β := Int × Int) [(2, .lptr 128 0), (3, .lptr 192 0), (11, int (v1.length : Int))] [(128, .blk true [int b0.Deadline, .slice (b0.Activities.map eTActivity), .slice (b0.Links.map eTLink), .slice (b0.Resources.map eTResource), .slice (b0.Stocks.map int)]), (192, .blk true [.slice (b1.MinStart.map int), .slice (b1.MaxStart.map int), .slice (b1.Modes.map l_int)]), (640, .obj false 38 4 (v1.map eTRule))] (fun bb S => (5, int bb.2) :: (10, .own 640 (v1.map eTRule).length) :: (12, int bb.1) :: S) (fun bb M => M) (fun n bb => 0 ≤ bb.1 ∧ bb.1 + n = (v1.length : Int) ∧ i_CountRefutations_L1 b0 b1 (v1.drop bb.1.toNat) bb.1 bb.2 = some o2) v1.length (0, 0) ⟨Int.le_refl _, by simp, h⟩ ?_
  clear h
  rintro JJ8 n8 ⟨z9, a10⟩ hag8 ⟨hza8, hzb8, h⟩
  dsimp only at hza8 hzb8 h
  refine Run.sr ?_
  refine X.bi ?_
  refine X.nil ?_
  refine Run.seq ?_
  refine R.cd (fun hc13 => ?_) (fun hc13 => ?_)
  ·obtain ⟨x11, xs12, hd8, hx8, hds8, hlt8⟩ := drop_atI hza8 hc13
   rw [hd8] at h
   rw [i_CountRefutations_L1] at h
   refine Run.skip ?_
   refine Run.seq ?_
   refine Run.block ?_
   refine Run.sr ?_
   refine X.index_o elt49 (by rfl) (by rfl) (by first | rfl | simp [setL] | omega) (by rfl) (idxL_spec hx8).1 (idxL_map eTRule hx8) (by rfl) (by rfl) (by rfl) ?_
   refine X.lc shp38 ?_
   refine X.alloc zer38 (by rfl) (by rfl) (by rfl) ?_
   refine X.sl shp38 ?_
   refine X.nil ?_
   refine Run.sr ?_
   refine X.ld shp36 ?_
   refine X.ld shp51 ?_
   refine X.ld shp38 ?_
   obtain ⟨v14, hv14, h⟩ := bindE h
   refine X.cp (i_Refutes_pc _ _ _ _ hv14) ?_
   refine X.nil ?_
   refine R.cd (fun hc15 => ?_) (fun hc15 => ?_)
   ·replace h := condT hc15 h
    refine Run.reg ?_
    refine X.mv ?_
    refine X.addW (by rfl) (by rfl) (by rfl) ?_
    refine X.an ?_
    refine Run.blk ?_
    refine Run.reg ?_
    refine X.ad ?_
    refine X.mn ?_
    exact R.ag hag8 (n8 - 1) (z9 + 1, (W (a10 + 1))) (R.n3 (by first | (rw [hds8]; exact h) | (dsimp only; rw [hds8]; exact h)))
   ·replace h := condF hc15 h
    refine Run.skip ?_
    refine Run.blk ?_
    refine Run.reg ?_
    refine X.ad ?_
    refine X.mn ?_
    exact R.ag hag8 (n8 - 1) (z9 + 1, a10) (R.n3 (by first | (rw [hds8]; exact h) | (dsimp only; rw [hds8]; exact h)))
  ·rw [drop_endI hza8 hc13] at h
   rw [i_CountRefutations_L1] at h
   refine Run.exit (by rfl) ?_
   exact R.mt hmeet4 a10 (Option.some.inj h)
 rintro p16 rfl
 refine Run.sr ?_
 refine X.mv ?_
 refine X.an ?_
 cases h
 refine R.f1 Tryz.results30 ?_
 rfl
theorem w_FnExactCountRefutations_pc (b0 : TProject) (b1 : TDomain) (r : Bool) (h : w_FnExactCountRefutations b0 b1 = some r) : PC Tryz.prog 6 [eTProject b0, eTDomain b1] (bool r) := by
 unfold w_FnExactCountRefutations at h
 refine PC.start Tryz.func6 Tryz.ntmps6 rfl ok6 rfl ?_
 refine Run.sr ?_
 refine X.bx ?_
 refine X.bx ?_
 refine X.an ?_
 refine Run.sr ?_
 refine X.an ?_
 refine Run.sr ?_
 refine X.ld shp27 ?_
 refine X.mv ?_
 obtain ⟨v1, hv1, h⟩ := bindE h
 refine X.cp (w_szProject_pc _ _ _ hv1) ?_
 refine X.an ?_
 refine Run.seq ?_
 refine Run.sr ?_
 refine X.mv ?_
 refine X.bi ?_
 refine X.nil ?_
 refine R.cd (fun hc2 => ?_) (fun hc2 => ?_)
 ·replace h := condT hc2 h
  refine Run.sr ?_
  refine X.an ?_
  cases h
  refine R.f1 Tryz.results6 ?_
  rfl
 ·replace h := condF hc2 h
  refine Run.skip ?_
  refine Run.sr ?_
  refine X.ld shp47 ?_
  refine X.mv ?_
  obtain ⟨v3, hv3, h⟩ := bindE h
  refine X.cp (w_szDomain_pc _ _ _ hv3) ?_
  refine X.an ?_
  refine Run.seq ?_
  refine Run.sr ?_
  refine X.mv ?_
  refine X.bi ?_
  refine X.nil ?_
  refine R.cd (fun hc4 => ?_) (fun hc4 => ?_)
  ·replace h := condT hc4 h
   refine Run.sr ?_
   refine X.an ?_
   cases h
   refine R.f1 Tryz.results6 ?_
   rfl
  ·replace h := condF hc4 h
   refine Run.skip ?_
   refine Run.seq ?_
   refine Run.draw (footOf [(0, ([128], [], [], [])), (1, ([], [1344, 1345, 1346, 1347], [], [])), (2, ([192], [], [], [])), (3, ([], [1472, 1473, 1474], [], [])), (4, ([1344, 1345, 1346, 1347, 1472, 1473, 1474], [], [], []))]) mixed (by kernel_rfl) (by kernel_rfl) ?_
   refine X.ld shp27 ?_
   obtain ⟨v5, hv5, h⟩ := bindE h
   refine X.callA (PC.ofY (ps := [eTProject b0]) (w_toProject_pc _ _ hv5) (by rfl) (by rfl)) (by rfl) (by rfl) (by rfl) (by trivial) (by rfl) (by rfl) (by rfl) (by rfl) (by rfl) (by rfl) ?_
   refine X.ld shp47 ?_
   obtain ⟨v6, hv6, h⟩ := bindE h
   refine X.callA (PC.ofY (ps := [eTDomain b1]) (w_toDomain_pc _ _ hv6) (by rfl) (by rfl)) (by rfl) (by rfl) (by rfl) (by trivial) (by rfl) (by rfl) (by rfl) (by rfl) (by rfl) (by rfl) ?_
   obtain ⟨v7, hv7, h⟩ := bindE h
   refine X.cp (s_CountRefutations_pc _ _ _ hv7) ?_
   refine X.an ?_
   refine Run.sr ?_
   refine X.ld shp27 ?_
   obtain ⟨v8, hv8, h⟩ := bindE h
   refine X.callA (PC.ofY (ps := [eTProject b0]) (w_toProject_pc _ _ hv8) (by rfl) (by rfl)) (by rfl) (by rfl) (by rfl) (by trivial) (by rfl) (by rfl) (by rfl) (by rfl) (by rfl) (by rfl) ?_
   refine X.alloc zer36 (by rfl) (by rfl) (by rfl) ?_
   refine X.sl shp36 ?_
   refine X.nil ?_
   refine Run.sr ?_
   refine X.ld shp47 ?_
   obtain ⟨v9, hv9, h⟩ := bindE h
   refine X.callA (PC.ofY (ps := [eTDomain b1]) (w_toDomain_pc _ _ hv9) (by rfl) (by rfl)) (by rfl) (by rfl) (by rfl) (by trivial) (by rfl) (by rfl) (by rfl) (by rfl) (by rfl) (by rfl) ?_
   refine X.alloc zer51 (by rfl) (by rfl) (by rfl) ?_
   refine X.sl shp51 ?_
   refine X.nil ?_
   refine Run.sr ?_
   refine X.ld shp36 ?_
   refine X.ld shp51 ?_
   obtain ⟨v10, hv10, h⟩ := bindE h
   refine X.cp (i_CountRefutations_pc _ _ _ hv10) ?_
   refine X.an ?_
   refine Run.seq ?_
   refine Run.sr ?_
   refine X.mv ?_
   refine X.mv ?_
   refine X.bi ?_
   refine X.nil ?_
   refine R.cd (fun hc11 => ?_) (fun hc11 => ?_)
   ·replace h := condT hc11 h
    refine Run.sr ?_
    refine X.an ?_
    cases h
    refine R.f1 Tryz.results6 ?_
    rfl
   ·replace h := condF hc11 h
    refine Run.skip ?_
    refine Run.seq ?_
    refine Run.seq ?_
    refine Run.draw (footOf [(0, ([448], [], [], [])), (1, ([128], [], [], [])), (2, ([], [2368, 2369, 2370, 2371], [], [])), (3, ([1664, 1665, 1666, 1667, 2368, 2369, 2370, 2371], [], [], []))]) mixed (by kernel_rfl) (by kernel_rfl) ?_
    refine X.ld shp36 ?_
    refine X.ld shp27 ?_
    obtain ⟨v12, hv12, h⟩ := bindE h
    refine X.callA (PC.ofY (ps := [eTProject b0]) (w_toProject_pc _ _ hv12) (by rfl) (by rfl)) (by rfl) (by rfl) (by rfl) (by trivial) (by rfl) (by rfl) (by rfl) (by rfl) (by rfl) (by rfl) ?_
    obtain ⟨v13, hv13, h⟩ := bindE h
    refine X.cp (w_eqProject_pc _ _ _ hv13) ?_
    refine X.un (by rfl) (by rfl) (by rfl) ?_
    refine X.nil ?_
    refine R.cd (fun hc14 => ?_) (fun hc14 => ?_)
    ·replace h := condT hc14 h
     refine Run.sr ?_
     refine X.an ?_
     cases h
     refine R.f1 Tryz.results6 ?_
     rfl
    ·replace h := condF hc14 h
     refine Run.skip ?_
     refine Run.seq ?_
     refine Run.seq ?_
     refine Run.draw (footOf [(0, ([512], [], [], [])), (1, ([192], [], [], [])), (2, ([], [2688, 2689, 2690], [], [])), (3, ([1792, 1793, 1794, 2688, 2689, 2690], [], [], []))]) mixed (by kernel_rfl) (by kernel_rfl) ?_
     refine X.ld shp51 ?_
     refine X.ld shp47 ?_
     obtain ⟨v15, hv15, h⟩ := bindE h
     refine X.callA (PC.ofY (ps := [eTDomain b1]) (w_toDomain_pc _ _ hv15) (by rfl) (by rfl)) (by rfl) (by rfl) (by rfl) (by trivial) (by rfl) (by rfl) (by rfl) (by rfl) (by rfl) (by rfl) ?_
     obtain ⟨v16, hv16, h⟩ := bindE h
     refine X.cp (w_eqDomain_pc _ _ _ hv16) ?_
     refine X.un (by rfl) (by rfl) (by rfl) ?_
     refine X.nil ?_
     refine R.cd (fun hc17 => ?_) (fun hc17 => ?_)
     ·replace h := condT hc17 h
      refine Run.sr ?_
      refine X.an ?_
      cases h
      refine R.f1 Tryz.results6 ?_
      rfl
     ·replace h := condF hc17 h
      refine Run.skip ?_
      refine Run.sr ?_
      refine X.an ?_
      cases h
      refine R.f1 Tryz.results6 ?_
      rfl
end Go.Px.YtiinfmdopfkefaaGreat
