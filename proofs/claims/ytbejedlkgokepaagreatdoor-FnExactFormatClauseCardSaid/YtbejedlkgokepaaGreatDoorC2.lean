/-
  PROVED: contracts of functions of the program over pure values. No condition beyond those that each theorem names.
-/
import Derived.Test.YtbejedlkgokepaaGreatDoorProg
import Derived.Test.YtbejedlkgokepaaGreatDoorD1
import Derived.Test.YtbejedlkgokepaaGreatDoorS
import Derived.Test.YtbejedlkgokepaaGreatDoorC1
namespace Go.Px.YtbejedlkgokepaaGreatDoor
set_option linter.unusedSimpArgs false
set_option linter.unusedVariables false
open Go.Px Go.Proofs
theorem w_eqProject_pc (b0 : TProject) (b1 : TProject) (r : Bool) (h : w_eqProject b0 b1 = some r) : PC Tryz.prog 10 [eTProject b0, eTProject b1] (bool r) := by
 unfold w_eqProject at h
 refine PC.start Tryz.func10 Tryz.ntmps10 rfl ok10 rfl ?_
 refine Run.sr ?_
 refine X.bx ?_
 refine X.bx ?_
 refine X.an ?_
 refine Run.seq ?_
 refine Run.sr ?_
 refine X.fl fld36_0 ?_
 refine X.ld shp3 ?_
 refine X.fl fld36_0 ?_
 refine X.ld shp3 ?_
 refine X.bi ?_
 refine X.nil ?_
 refine R.cd (fun hc1 => ?_) (fun hc1 => ?_)
 ·replace h := condT hc1 h
  refine Run.sr ?_
  refine X.an ?_
  cases h
  refine R.f1 Tryz.results10 ?_
  rfl
 ·replace h := condF hc1 h
  refine Run.skip ?_
  refine Run.seq ?_
  refine Run.sr ?_
  refine X.fl fld36_1 ?_
  refine X.ld shp32 ?_
  refine X.fl fld36_1 ?_
  refine X.ld shp32 ?_
  obtain ⟨v2, hv2, h⟩ := bindE h
  refine X.cp (w_eqActivityS_pc _ _ _ hv2) ?_
  refine X.un (by rfl) (by rfl) (by rfl) ?_
  refine X.nil ?_
  refine R.cd (fun hc3 => ?_) (fun hc3 => ?_)
  ·replace h := condT hc3 h
   refine Run.sr ?_
   refine X.an ?_
   cases h
   refine R.f1 Tryz.results10 ?_
   rfl
  ·replace h := condF hc3 h
   refine Run.skip ?_
   refine Run.seq ?_
   refine Run.sr ?_
   refine X.fl fld36_2 ?_
   refine X.ld shp33 ?_
   refine X.fl fld36_2 ?_
   refine X.ld shp33 ?_
   obtain ⟨v4, hv4, h⟩ := bindE h
   refine X.cp (w_eqLinkS_pc _ _ _ hv4) ?_
   refine X.un (by rfl) (by rfl) (by rfl) ?_
   refine X.nil ?_
   refine R.cd (fun hc5 => ?_) (fun hc5 => ?_)
   ·replace h := condT hc5 h
    refine Run.sr ?_
    refine X.an ?_
    cases h
    refine R.f1 Tryz.results10 ?_
    rfl
   ·replace h := condF hc5 h
    refine Run.skip ?_
    refine Run.seq ?_
    refine Run.sr ?_
    refine X.fl fld36_3 ?_
    refine X.ld shp34 ?_
    refine X.fl fld36_3 ?_
    refine X.ld shp34 ?_
    obtain ⟨v6, hv6, h⟩ := bindE h
    refine X.cp (w_eqResourceS_pc _ _ _ hv6) ?_
    refine X.un (by rfl) (by rfl) (by rfl) ?_
    refine X.nil ?_
    refine R.cd (fun hc7 => ?_) (fun hc7 => ?_)
    ·replace h := condT hc7 h
     refine Run.sr ?_
     refine X.an ?_
     cases h
     refine R.f1 Tryz.results10 ?_
     rfl
    ·replace h := condF hc7 h
     refine Run.skip ?_
     refine Run.seq ?_
     refine Run.sr ?_
     refine X.fl fld36_4 ?_
     refine X.ld shp25 ?_
     refine X.fl fld36_4 ?_
     refine X.ld shp25 ?_
     obtain ⟨v8, hv8, h⟩ := bindE h
     refine X.cp (w_eqIntS_pc _ _ _ hv8) ?_
     refine X.un (by rfl) (by rfl) (by rfl) ?_
     refine X.nil ?_
     refine R.cd (fun hc9 => ?_) (fun hc9 => ?_)
     ·replace h := condT hc9 h
      refine Run.sr ?_
      refine X.an ?_
      cases h
      refine R.f1 Tryz.results10 ?_
      rfl
     ·replace h := condF hc9 h
      refine Run.skip ?_
      refine Run.sr ?_
      refine X.an ?_
      cases h
      refine R.f1 Tryz.results10 ?_
      rfl
theorem w_eqLiteral_pc (b0 : TLiteral) (b1 : TLiteral) (r : Bool) (h : w_eqLiteral b0 b1 = some r) : PC Tryz.prog 31 [eTLiteral b0, eTLiteral b1] (bool r) := by
 unfold w_eqLiteral at h
 refine PC.start Tryz.func31 Tryz.ntmps31 rfl ok31 rfl ?_
 refine Run.sr ?_
 refine X.bx ?_
 refine X.bx ?_
 refine X.an ?_
 refine Run.seq ?_
 refine Run.sr ?_
 refine X.fl fld50_0 ?_
 refine X.ld shp3 ?_
 refine X.fl fld50_0 ?_
 refine X.ld shp3 ?_
 refine X.bi ?_
 refine X.nil ?_
 refine R.cd (fun hc1 => ?_) (fun hc1 => ?_)
 ·replace h := condT hc1 h
  refine Run.sr ?_
  refine X.an ?_
  cases h
  refine R.f1 Tryz.results31 ?_
  rfl
 ·replace h := condF hc1 h
  refine Run.skip ?_
  refine Run.seq ?_
  refine Run.sr ?_
  refine X.fl fld50_1 ?_
  refine X.ld shp3 ?_
  refine X.fl fld50_1 ?_
  refine X.ld shp3 ?_
  refine X.bi ?_
  refine X.nil ?_
  refine R.cd (fun hc2 => ?_) (fun hc2 => ?_)
  ·replace h := condT hc2 h
   refine Run.sr ?_
   refine X.an ?_
   cases h
   refine R.f1 Tryz.results31 ?_
   rfl
  ·replace h := condF hc2 h
   refine Run.skip ?_
   refine Run.seq ?_
   refine Run.sr ?_
   refine X.fl fld50_2 ?_
   refine X.ld shp3 ?_
   refine X.fl fld50_2 ?_
   refine X.ld shp3 ?_
   refine X.bi ?_
   refine X.nil ?_
   refine R.cd (fun hc3 => ?_) (fun hc3 => ?_)
   ·replace h := condT hc3 h
    refine Run.sr ?_
    refine X.an ?_
    cases h
    refine R.f1 Tryz.results31 ?_
    rfl
   ·replace h := condF hc3 h
    refine Run.skip ?_
    refine Run.sr ?_
    refine X.an ?_
    cases h
    refine R.f1 Tryz.results31 ?_
    rfl
theorem w_eqLiteralS_pc (b0 : List TLiteral) (b1 : List TLiteral) (r : Bool) (h : w_eqLiteralS b0 b1 = some r) : PC Tryz.prog 11 [.slice (b0.map eTLiteral), .slice (b1.map eTLiteral)] (bool r) := by
 unfold w_eqLiteralS at h
 refine PC.start Tryz.func11 Tryz.ntmps11 rfl ok11 rfl ?_
 refine Run.sr ?_
 refine X.an ?_
 refine Run.seq ?_
 refine Run.sr ?_
 refine X.mv ?_
 refine X.ls elt38 ?_
 refine X.mv ?_
 refine X.ls elt38 ?_
 refine X.bi ?_
 refine X.nil ?_
 refine R.cd (fun hc1 => ?_) (fun hc1 => ?_)
 ·replace h := condT hc1 h
  refine Run.sr ?_
  refine X.an ?_
  cases h
  refine R.f1 Tryz.results11 ?_
  rfl
 ·replace h := condF hc1 h
  refine Run.skip ?_
  refine Run.seq ?_
  refine Run.sr ?_
  refine X.an ?_
  obtain ⟨o2, ho2, h⟩ := bindE h
  refine R.join2 (β := Unit) [] [] (fun p16 S => S) (fun p16 M => M) (fun p16 => (Sum.inl p16) = o2) ?_ ?_
  ·intro JJ5 hmeet4
   have hup3 := h; clear h; have h := ho2; clear ho2
   refine Run.block ?_
   refine R.bndS (t := 0) (by rfl) (fun hbd8 => ?_)
   replace hbd8 : b0.length ≤ 9223372036854775807 := by first | (rw [List.length_map] at hbd8; exact hbd8) | simp
   refine R.lp (β := Int) [(0, .slice (b0.map eTLiteral)), (1, .slice (b1.map eTLiteral))] [] (fun bb S => (5, int bb) :: S) (fun bb M => M) (fun n bb => 0 ≤ bb ∧ bb + n = (b0.length : Int) ∧ w_eqLiteralS_L1 b1 (b0.drop bb.toNat) bb = some o2) b0.length (0 : Int) ⟨Int.le_refl _, by simp, h⟩ ?_
   clear h
   rintro JJ8 n8 z9 hag8 ⟨hza8, hzb8, h⟩
   refine Run.seq ?_
   refine Run.sr ?_
   refine X.mv ?_
   refine X.mv ?_
   refine X.ls elt38 ?_
   refine X.bi ?_
   refine X.nil ?_
   refine R.cd (fun hc12 => ?_) (fun hc12 => ?_)
   ·obtain ⟨x10, xs11, hd8, hx8, hds8, hlt8⟩ := drop_atI hza8 hc12
    rw [hd8] at h
    rw [w_eqLiteralS_L1] at h
    refine Run.skip ?_
    refine Run.seq ?_
    refine Run.block ?_
    refine Run.seq ?_
    refine Run.draw (footOf []) mixed (by kernel_rfl) (by kernel_rfl) ?_
    refine X.mv ?_
    refine X.mv ?_
    refine X.ix elt38 (idxL_spec hx8).1 (idxL_map eTLiteral hx8) ?_
    refine X.lc shp50 ?_
    refine X.mv ?_
    refine X.mv ?_
    obtain ⟨v13, hv13, h⟩ := bindE h
    refine X.ix elt38 (idxL_spec hv13).1 (idxL_map eTLiteral hv13) ?_
    refine X.lc shp50 ?_
    obtain ⟨v14, hv14, h⟩ := bindE h
    refine X.cp (w_eqLiteral_pc _ _ _ hv14) ?_
    refine X.un (by rfl) (by rfl) (by rfl) ?_
    refine X.nil ?_
    refine R.cd (fun hc15 => ?_) (fun hc15 => ?_)
    ·replace h := condT hc15 h
     refine Run.sr ?_
     refine X.an ?_
     cases h
     have h := hup3
     replace h := elimR h
     cases h
     refine R.f1 Tryz.results11 ?_
     rfl
    ·replace h := condF hc15 h
     refine Run.skip ?_
     refine Run.blk ?_
     refine Run.reg ?_
     refine X.mv ?_
     refine X.ad ?_
     refine X.an ?_
     exact R.ag hag8 (n8 - 1) (z9 + 1) (R.n3 (by first | (rw [hds8]; exact h) | (dsimp only; rw [hds8]; exact h)))
   ·rw [drop_endI hza8 hc12] at h
    rw [w_eqLiteralS_L1] at h
    refine Run.exit (by rfl) ?_
    exact R.mt hmeet4 () (Option.some.inj h)
  rintro p16 rfl
  replace h := elimL h
  refine Run.sr ?_
  refine X.an ?_
  cases h
  refine R.f1 Tryz.results11 ?_
  rfl
theorem w_FnExactFormatClause_pc (b0 : TProject) (b1 : List TLiteral) (r : Bool) (h : w_FnExactFormatClause b0 b1 = some r) : PC Tryz.prog 3 [eTProject b0, .slice (b1.map eTLiteral)] (bool r) := by
 unfold w_FnExactFormatClause at h
 refine PC.start Tryz.func3 Tryz.ntmps3 rfl ok3 rfl ?_
 refine Run.sr ?_
 refine X.bx ?_
 refine X.an ?_
 refine Run.sr ?_
 refine X.an ?_
 refine Run.sr ?_
 refine X.ld shp27 ?_
 refine X.mv ?_
 obtain ⟨v1, hv1, h⟩ := bindE h
 refine X.cp (w_szProject_pc _ _ _ hv1) ?_
 refine X.an ?_
 refine Run.seq ?_
 refine Run.sr ?_
 refine X.mv ?_
 refine X.bi ?_
 refine X.nil ?_
 refine R.cd (fun hc2 => ?_) (fun hc2 => ?_)
 ·replace h := condT hc2 h
  refine Run.sr ?_
  refine X.an ?_
  cases h
  refine R.f1 Tryz.results3 ?_
  rfl
 ·replace h := condF hc2 h
  refine Run.skip ?_
  refine Run.sr ?_
  refine X.mv ?_
  refine X.mv ?_
  obtain ⟨v3, hv3, h⟩ := bindE h
  refine X.cp (w_szLiteralS_pc _ _ _ hv3) ?_
  refine X.an ?_
  refine Run.seq ?_
  refine Run.sr ?_
  refine X.mv ?_
  refine X.bi ?_
  refine X.nil ?_
  refine R.cd (fun hc4 => ?_) (fun hc4 => ?_)
  ·replace h := condT hc4 h
   refine Run.sr ?_
   refine X.an ?_
   cases h
   refine R.f1 Tryz.results3 ?_
   rfl
  ·replace h := condF hc4 h
   refine Run.skip ?_
   refine Run.sr ?_
   refine X.ld shp27 ?_
   obtain ⟨v5, hv5, h⟩ := bindE h
   refine X.callA (PC.ofY (ps := [eTProject b0]) (w_toProject_pc _ _ hv5) (by rfl) (by rfl)) (by rfl) (by rfl) (by rfl) (by trivial) (by rfl) (by rfl) (by rfl) (by rfl) (by rfl) (by rfl) ?_
   refine X.mv ?_
   obtain ⟨v6, hv6, h⟩ := bindE h
   refine X.callF (PC.ofY (ps := [.slice (b1.map eTLiteral)]) (w_toLiteralS_pc _ _ hv6) (by rfl) (by rfl)) (by rfl) (by rfl) (by rfl) (by trivial) (by rfl) (by rfl) (by rfl) (by rfl) ?_
   obtain ⟨v7, hv7, h⟩ := bindE h
   refine X.cp (s_FormatClause_pc _ _ _ hv7) ?_
   refine X.an ?_
   refine Run.sr ?_
   refine X.ld shp27 ?_
   obtain ⟨v8, hv8, h⟩ := bindE h
   refine X.callA (PC.ofY (ps := [eTProject b0]) (w_toProject_pc _ _ hv8) (by rfl) (by rfl)) (by rfl) (by rfl) (by rfl) (by trivial) (by rfl) (by rfl) (by rfl) (by rfl) (by rfl) (by rfl) ?_
   refine X.alloc zer36 (by rfl) (by rfl) (by rfl) ?_
   refine X.sl shp36 ?_
   refine X.nil ?_
   refine Run.sr ?_
   refine X.mv ?_
   obtain ⟨v9, hv9, h⟩ := bindE h
   refine X.callF (PC.ofY (ps := [.slice (b1.map eTLiteral)]) (w_toLiteralS_pc _ _ hv9) (by rfl) (by rfl)) (by rfl) (by rfl) (by rfl) (by trivial) (by rfl) (by rfl) (by rfl) (by rfl) ?_
   refine X.an ?_
   refine Run.sr ?_
   refine X.ld shp36 ?_
   refine X.mv ?_
   obtain ⟨v10, hv10, h⟩ := bindE h
   refine X.cp (i_FormatClause_pc _ _ _ hv10) ?_
   refine X.an ?_
   refine Run.seq ?_
   refine Run.sr ?_
   refine X.mv ?_
   refine X.mv ?_
   refine X.bi ?_
   refine X.nil ?_
   refine R.cd (fun hc11 => ?_) (fun hc11 => ?_)
   ·replace h := condT hc11 h
    refine Run.sr ?_
    refine X.an ?_
    cases h
    refine R.f1 Tryz.results3 ?_
    rfl
   ·replace h := condF hc11 h
    refine Run.skip ?_
    refine Run.seq ?_
    refine Run.seq ?_
    refine Run.draw (footOf [(0, ([448], [], [], [])), (1, ([128], [], [], [])), (2, ([], [2368, 2369, 2370, 2371], [], [])), (3, ([1664, 1665, 1666, 1667, 2368, 2369, 2370, 2371], [], [], []))]) mixed (by kernel_rfl) (by kernel_rfl) ?_
    refine X.ld shp36 ?_
    refine X.ld shp27 ?_
    obtain ⟨v12, hv12, h⟩ := bindE h
    refine X.callA (PC.ofY (ps := [eTProject b0]) (w_toProject_pc _ _ hv12) (by rfl) (by rfl)) (by rfl) (by rfl) (by rfl) (by trivial) (by rfl) (by rfl) (by rfl) (by rfl) (by rfl) (by rfl) ?_
    obtain ⟨v13, hv13, h⟩ := bindE h
    refine X.cp (w_eqProject_pc _ _ _ hv13) ?_
    refine X.un (by rfl) (by rfl) (by rfl) ?_
    refine X.nil ?_
    refine R.cd (fun hc14 => ?_) (fun hc14 => ?_)
    ·replace h := condT hc14 h
     refine Run.sr ?_
     refine X.an ?_
     cases h
     refine R.f1 Tryz.results3 ?_
     rfl
    ·replace h := condF hc14 h
     refine Run.skip ?_
     refine Run.seq ?_
     refine Run.sr ?_
     refine X.mv ?_
     refine X.mv ?_
     obtain ⟨v15, hv15, h⟩ := bindE h
     refine X.callF (PC.ofY (ps := [.slice (b1.map eTLiteral)]) (w_toLiteralS_pc _ _ hv15) (by rfl) (by rfl)) (by rfl) (by rfl) (by rfl) (by trivial) (by rfl) (by rfl) (by rfl) (by rfl) ?_
     obtain ⟨v16, hv16, h⟩ := bindE h
     refine X.cp (w_eqLiteralS_pc _ _ _ hv16) ?_
     refine X.un (by rfl) (by rfl) (by rfl) ?_
     refine X.nil ?_
     refine R.cd (fun hc17 => ?_) (fun hc17 => ?_)
     ·replace h := condT hc17 h
      refine Run.sr ?_
      refine X.an ?_
      cases h
      refine R.f1 Tryz.results3 ?_
      rfl
     ·replace h := condF hc17 h
      refine Run.skip ?_
      refine Run.sr ?_
      refine X.an ?_
      cases h
      refine R.f1 Tryz.results3 ?_
      rfl
end Go.Px.YtbejedlkgokepaaGreatDoor
