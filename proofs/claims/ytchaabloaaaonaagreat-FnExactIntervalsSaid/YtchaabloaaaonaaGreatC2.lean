/-
  PROVED: contracts of functions of the program over pure values. No condition beyond those that each theorem names.
-/
import Derived.Test.YtchaabloaaaonaaGreatProg
import Derived.Test.YtchaabloaaaonaaGreatD1
import Derived.Test.YtchaabloaaaonaaGreatS
import Derived.Test.YtchaabloaaaonaaGreatC1
namespace Go.Px.YtchaabloaaaonaaGreat
set_option linter.unusedSimpArgs false
set_option linter.unusedVariables false
open Go.Px Go.Proofs
theorem i_isUsable_pc (b0 : TProject) (b1 : TDomain) (r : Bool) (h : i_isUsable b0 b1 = some r) : PC Tryz.prog 32 [eTProject b0, eTDomain b1] (bool r) := by
 unfold i_isUsable at h
 refine PC.start Tryz.func32 Tryz.ntmps32 rfl ok32 rfl ?_
 refine Run.sr ?_
 refine X.bx ?_
 refine X.bx ?_
 refine X.an ?_
 refine Run.seq ?_
 obtain ⟨v1, hv1, h⟩ := bindE h
 obtain ⟨e2, he2, h2⟩ := bindE h
 refine R.regG [(4, bool e2)] [] ?_ ?_
 ·clear h; have h := he2; clear he2 h2
  refine X.ld shp38 ?_
  refine X.ld shp40 ?_
  refine X.cp (i_DomainForm_pc _ _ _ hv1) ?_
  refine X.mv ?_
  refine X.iG (fun hb3 => ?_) (fun hb3 => ?_)
  ·replace h := condT hb3 h
   refine X.ld shp40 ?_
   refine X.gy ?_
   obtain ⟨v4, hv4, h⟩ := bindE h
   refine X.cp (i_DomainEmpty_pc _ _ hv4) ?_
   refine X.gy ?_
   refine X.un (by rfl) (by rfl) (by rfl) ?_
   refine X.pT ?_
   refine X.as ?_
   cases h
   exact X.eG
  ·replace h := condF hb3 h
   refine X.gn ?_
   refine X.gn ?_
   refine X.pF ?_
   refine X.as ?_
   cases h
   exact X.eG
 replace h := h2; clear h2
 cases h
 refine R.f1 Tryz.results32 ?_
 rfl
theorem i_chosen_pc (b0 : TActivity) (b1 : List Int) (r : List TMode) (h : i_chosen b0 b1 = some r) : PC Tryz.prog 56 [eTActivity b0, .slice (b1.map int)] (.fresh false 83 3 (r.map eTMode)) := by
 unfold i_chosen at h
 refine PC.start Tryz.func56 Tryz.ntmps56 rfl ok56 rfl ?_
 refine Run.sr ?_
 refine X.bx ?_
 refine X.an ?_
 refine Run.sr ?_
 refine X.buildSlice false elt56 zer83 (by rfl) (by rfl) (by rfl) (by rfl) (by rfl) (by rfl) (by repeat (first | trivial | refine ⟨by first | rfl | simp [setL], ?_⟩)) (allSz_spec (by rfl)) (by rfl) (by rfl) (by rfl) ?_
 refine X.an ?_
 refine Run.seq ?_
 refine Run.sr ?_
 refine X.fl fld58_2 ?_
 refine X.ld shp56 ?_
 refine X.ls elt56 ?_
 refine X.mn ?_
 obtain ⟨o1, ho1, h⟩ := bindE h
 refine R.join2 (β := (List TMode)) [] [] (fun p16 S => (5, .own 512 (p16.map eTMode).length) :: S) (fun p16 M => (512, .obj false 83 3 (p16.map eTMode)) :: M) (fun p16 => p16 = o1) ?_ ?_
 ·intro JJ4 hmeet3
  have hup2 := h; clear h; have h := ho1; clear ho1
  refine Run.block ?_
  refine R.bndS (t := 10) (by rfl) (fun hbd7 => ?_)
  replace hbd7 : b0.Modes.length ≤ 9223372036854775807 := by first | (rw [List.length_map] at hbd7; exact hbd7) | simp
  refine R.lp (β := Int × (List TMode)) [(1, .slice (b1.map int)), (10, .slice (b0.Modes.map eTMode)), (11, int (b0.Modes.length : Int))] [] (fun bb S => (5, .own 512 (bb.2.map eTMode).length) :: (12, int bb.1) :: S) (fun bb M => (512, .obj false 83 3 (bb.2.map eTMode)) :: M) (fun n bb => 0 ≤ bb.1 ∧ bb.1 + n = (b0.Modes.length : Int) ∧ i_chosen_L1 b1 (b0.Modes.drop bb.1.toNat) bb.1 bb.2 = some o1) b0.Modes.length (0, ([] : List TMode)) ⟨Int.le_refl _, by simp, h⟩ ?_
  clear h
  rintro JJ7 n7 ⟨z8, a9⟩ hag7 ⟨hza7, hzb7, h⟩
  dsimp only at hza7 hzb7 h
  refine Run.sr ?_
  refine X.bi ?_
  refine X.nil ?_
  refine Run.seq ?_
  refine R.cd (fun hc12 => ?_) (fun hc12 => ?_)
  ·obtain ⟨x10, xs11, hd7, hx7, hds7, hlt7⟩ := drop_atI hza7 hc12
   rw [hd7] at h
   rw [i_chosen_L1] at h
   refine Run.skip ?_
   refine Run.seq ?_
   refine Run.block ?_
   refine Run.sr ?_
   refine X.mv ?_
   refine X.ix elt56 (idxL_spec hx7).1 (idxL_map eTMode hx7) ?_
   refine X.lc shp83 ?_
   refine X.alloc zer83 (by rfl) (by rfl) (by rfl) ?_
   refine X.as ?_
   refine X.sl shp83 ?_
   refine X.nil ?_
   refine Run.sr ?_
   refine X.mv ?_
   refine X.mv ?_
   obtain ⟨v13, hv13, h⟩ := bindE h
   refine X.cp (i_SetHas_pc _ _ _ hv13) ?_
   refine X.nil ?_
   refine R.cd (fun hc14 => ?_) (fun hc14 => ?_)
   ·replace h := condT hc14 h
    refine Run.reg ?_
    refine X.mv ?_
    refine X.ld shp83 ?_
    refine X.buildSlice false elt56 zer83 (by rfl) (by rfl) (by rfl) (by rfl) (by rfl) (by rfl) (by repeat (first | trivial | refine ⟨by first | rfl | simp [setL], ?_⟩)) (allSz_spec (by rfl)) (by rfl) (by rfl) (by rfl) ?_
    obtain ⟨v15, hv15, h⟩ := bindE h
    refine X.append elt56 zer83 (by rfl) (by rfl) (by first | rfl | simp [setL] | omega) (by rfl) (.own _ _ _ _ _ _ (look_mem (by rfl)) (by first | rfl | simp [setL] | omega)) (allSz_spec (by rfl)) (appL_len eTMode hv15) (appL_map eTMode hv15) (by rfl) (by rfl) (by rfl) (by rfl) ?_
    refine X.an ?_
    refine Run.blk ?_
    refine Run.reg ?_
    refine X.ad ?_
    refine X.mn ?_
    exact R.ag hag7 (n7 - 1) (z8 + 1, v15) (R.n3 (by first | (rw [hds7]; exact h) | (dsimp only; rw [hds7]; exact h)))
   ·replace h := condF hc14 h
    refine Run.skip ?_
    refine Run.blk ?_
    refine Run.reg ?_
    refine X.ad ?_
    refine X.mn ?_
    exact R.ag hag7 (n7 - 1) (z8 + 1, a9) (R.n3 (by first | (rw [hds7]; exact h) | (dsimp only; rw [hds7]; exact h)))
  ·rw [drop_endI hza7 hc12] at h
   rw [i_chosen_L1] at h
   refine Run.exit (by rfl) ?_
   exact R.mt hmeet3 a9 (Option.some.inj h)
 rintro p16 rfl
 refine Run.sr ?_
 refine X.mv ?_
 refine X.an ?_
 cases h
 refine R.fin1o Tryz.results56 (by rfl) (by rfl) (by first | rfl | simp [setL] | omega) ?_
 rfl
theorem i_MaxDuration_pc (b0 : TActivity) (b1 : List Int) (r : Int) (h : i_MaxDuration b0 b1 = some r) : PC Tryz.prog 33 [eTActivity b0, .slice (b1.map int)] (int r) := by
 unfold i_MaxDuration at h
 refine PC.start Tryz.func33 Tryz.ntmps33 rfl ok33 rfl ?_
 refine Run.sr ?_
 refine X.bx ?_
 refine X.an ?_
 refine Run.sr ?_
 refine X.an ?_
 refine Run.seq ?_
 refine Run.sr ?_
 refine X.ld shp58 ?_
 refine X.mv ?_
 obtain ⟨v1, hv1, h⟩ := bindE h
 refine X.callF (i_chosen_pc _ _ _ hv1) (by rfl) (by rfl) (by rfl) (by trivial) (by rfl) (by rfl) (by rfl) (by rfl) ?_
 refine X.len_o elt56 (by rfl) (by rfl) (by first | rfl | simp [setL] | omega) (by first | exact List.length_map .. | rfl) (by rfl) (by rfl) ?_
 refine X.mn ?_
 obtain ⟨o2, ho2, h⟩ := bindE h
 refine R.join2 (β := Int) [] [] (fun p17 S => (5, int p17) :: S) (fun p17 M => M) (fun p17 => p17 = o2) ?_ ?_
 ·intro JJ5 hmeet4
  have hup3 := h; clear h; have h := ho2; clear ho2
  refine Run.block ?_
  refine R.bndO (n := 640) (by rfl) (fun hbd8 => ?_)
  replace hbd8 : v1.length ≤ 9223372036854775807 := by first | (rw [List.length_map] at hbd8; exact hbd8) | simp
  refine R.lp (β := Int × Int) [(11, int (v1.length : Int))] [(640, .obj false 83 3 (v1.map eTMode))] (fun bb S => (5, int bb.2) :: (10, .own 640 (v1.map eTMode).length) :: (12, int bb.1) :: S) (fun bb M => M) (fun n bb => 0 ≤ bb.1 ∧ bb.1 + n = (v1.length : Int) ∧ i_MaxDuration_L1 (v1.drop bb.1.toNat) bb.1 bb.2 = some o2) v1.length (0, 0) ⟨Int.le_refl _, by simp, h⟩ ?_
  clear h
  rintro JJ8 n8 ⟨z9, a10⟩ hag8 ⟨hza8, hzb8, h⟩
  dsimp only at hza8 hzb8 h
  refine Run.sr ?_
  refine X.bi ?_
  refine X.nil ?_
  refine Run.seq ?_
  refine R.cd (fun hc13 => ?_) (fun hc13 => ?_)
  ·obtain ⟨x11, xs12, hd8, hx8, hds8, hlt8⟩ := drop_atI hza8 hc13
   rw [hd8] at h
   rw [i_MaxDuration_L1] at h
   refine Run.skip ?_
   refine Run.seq ?_
   refine Run.block ?_
   refine Run.sr ?_
   refine X.mv ?_
   refine X.index_o elt56 (by rfl) (by rfl) (by first | rfl | simp [setL] | omega) (by rfl) (idxL_spec hx8).1 (idxL_map eTMode hx8) (by rfl) (by rfl) (by rfl) ?_
   refine X.lc shp83 ?_
   refine X.alloc zer83 (by rfl) (by rfl) (by rfl) ?_
   refine X.as ?_
   refine X.sl shp83 ?_
   refine X.nil ?_
   refine Run.seq ?_
   obtain ⟨e14, he14, h2⟩ := bindE h
   refine R.regG [(5, int a10), (7, .lptr 448 0), (10, .own 640 (v1.map eTMode).length), (11, int (v1.length : Int)), (12, int z9), (24, bool e14)] [(448, .blk true [int x11.Duration, .slice (x11.Usage.map int), .slice (x11.Consumption.map int)]), (640, .obj false 83 3 (v1.map eTMode))] ?_ ?_
   ·clear h; have h := he14; clear he14 h2
    refine X.mv ?_
    refine X.bi ?_
    refine X.mv ?_
    refine X.iG (fun hb15 => ?_) (fun hb15 => ?_)
    ·replace h := condF hb15 h
     refine X.fl fld83_0 ?_
     refine X.gy ?_
     refine X.ld shp3 ?_
     refine X.gy ?_
     refine X.mv ?_
     refine X.gy ?_
     refine X.bi ?_
     refine X.pF ?_
     cases h
     exact X.eG
    ·replace h := condT hb15 h
     refine X.gn ?_
     refine X.gn ?_
     refine X.gn ?_
     refine X.pT ?_
     cases h
     exact X.eG
   replace h := h2; clear h2
   refine R.cd (fun hc16 => ?_) (fun hc16 => ?_)
   ·replace h := condT hc16 h
    refine Run.reg ?_
    refine X.fl fld83_0 ?_
    refine X.ld shp3 ?_
    refine X.an ?_
    refine Run.blk ?_
    refine Run.reg ?_
    refine X.ad ?_
    refine X.mn ?_
    exact R.ag hag8 (n8 - 1) (z9 + 1, x11.Duration) (R.n3 (by first | (rw [hds8]; exact h) | (dsimp only; rw [hds8]; exact h)))
   ·replace h := condF hc16 h
    refine Run.skip ?_
    refine Run.blk ?_
    refine Run.reg ?_
    refine X.ad ?_
    refine X.mn ?_
    exact R.ag hag8 (n8 - 1) (z9 + 1, a10) (R.n3 (by first | (rw [hds8]; exact h) | (dsimp only; rw [hds8]; exact h)))
  ·rw [drop_endI hza8 hc13] at h
   rw [i_MaxDuration_L1] at h
   refine Run.exit (by rfl) ?_
   exact R.mt hmeet4 a10 (Option.some.inj h)
 rintro p17 rfl
 refine Run.sr ?_
 refine X.mv ?_
 refine X.an ?_
 cases h
 refine R.f1 Tryz.results33 ?_
 rfl
theorem slices_Clone_int_pc (b0 : List Int) (r : List Int) (h : slices_Clone_int b0 = some r) : PC Tryz.prog 57 [.slice (b0.map int)] (.fresh true 3 1 (r.map int)) := by
 unfold slices_Clone_int at h
 refine PC.split (fun hl ad cap => ?_) (fun hl => ?_)
 ·refine PC.start Tryz.func57 Tryz.ntmps57 rfl ok57 rfl ?_
  refine Run.sr ?_
  refine X.an ?_
  refine Run.seq ?_
  refine Run.sr ?_
  refine X.mv ?_
  refine X.eqlNilL elt25 (by rfl) (by rfl) (by rfl) ?_
  refine X.nil ?_
  refine R.cd (fun hc => ?_) (fun hc => ?_)
  ·refine Run.sr ?_
   refine X.an ?_
   refine R.fin1n (x := true) (e := 3) (sz := 1) Tryz.results57 (by rfl) (by decide) ?_
   obtain ⟨q, hq, h⟩ := bindE h
   have hqr := Option.some.inj h
   have hz : r = [] := by rw [← hqr, (appL_spec hq).2, List.map_eq_nil_iff.1 hl]; rfl
   rw [hz]; rfl
  ·refine Run.skip ?_
   refine R.slice0 (t := 0) (l := b0.map int) hl (by rfl) ?_
   refine Run.sr ?_
   refine X.buildSlice true elt25 zer3 (by rfl) (by rfl) (by rfl) (by rfl) (by rfl) (by rfl) (by repeat (first | trivial | refine ⟨by first | rfl | simp [setL], ?_⟩)) (allSz_spec (by rfl)) (by rfl) (by rfl) (by rfl) ?_
   refine X.mv ?_
   obtain ⟨v1, hv1, h⟩ := bindE h
   refine X.append elt25 zer3 (by rfl) (by rfl) (by first | rfl | simp [setL] | omega) (by rfl) (.pure _) (by exact cells_map (f := int) (fun _ => rfl)) (appL_len int hv1) (appL_map int hv1) (by rfl) (by rfl) (by rfl) (by rfl) ?_
   refine X.an ?_
   cases h
   refine R.fin1o Tryz.results57 (by rfl) (by rfl) (by first | rfl | simp [setL] | omega) ?_
   rfl
 ·refine PC.start Tryz.func57 Tryz.ntmps57 rfl ok57 rfl ?_
  refine Run.sr ?_
  refine X.an ?_
  refine Run.seq ?_
  refine Run.sr ?_
  refine X.mv ?_
  refine X.eqlNilS elt25 (by rfl) (.pure _) (.inl hl) (by rfl) (by rfl) ?_
  refine X.nil ?_
  refine R.condF (b := (b0.map int).isEmpty) (by simpa using hl) (by rfl) ?_
  refine Run.skip ?_
  refine Run.sr ?_
  refine X.buildSlice true elt25 zer3 (by rfl) (by rfl) (by rfl) (by rfl) (by rfl) (by rfl) (by repeat (first | trivial | refine ⟨by first | rfl | simp [setL], ?_⟩)) (allSz_spec (by rfl)) (by rfl) (by rfl) (by rfl) ?_
  refine X.mv ?_
  obtain ⟨v1, hv1, h⟩ := bindE h
  refine X.append elt25 zer3 (by rfl) (by rfl) (by first | rfl | simp [setL] | omega) (by rfl) (.pure _) (by exact cells_map (f := int) (fun _ => rfl)) (appL_len int hv1) (appL_map int hv1) (by rfl) (by rfl) (by rfl) (by rfl) ?_
  refine X.an ?_
  cases h
  refine R.fin1o Tryz.results57 (by rfl) (by rfl) (by first | rfl | simp [setL] | omega) ?_
  rfl
theorem slices_Sort_int_pc (b0 : List Int) (r : List Int) (h : slices_Sort_int b0 = some r) : PCM Tryz.prog 58 [.own 63 (b0.map int).length] [(63, .obj true 3 1 (b0.map int))] (.tuple []) [(63, .obj true 3 1 (r.map int))] := PCM.sortInt (by decide) ok58 (fun blk off cap zs w h1 h2 h3 => Tryz.slices_Sort_int blk off cap zs w h1 h2 h3) (fun a cap w => Tryz.slices_Sort_int_none a cap w) b0 r h
theorem i_SetOf_pc (b0 : List Int) (r : List Int) (h : i_SetOf b0 = some r) : PC Tryz.prog 34 [.slice (b0.map int)] (.fresh false 3 1 (r.map int)) := by
 unfold i_SetOf at h
 refine PC.start Tryz.func34 Tryz.ntmps34 rfl ok34 rfl ?_
 refine Run.sr ?_
 refine X.an ?_
 refine Run.sr ?_
 refine X.mv ?_
 obtain ⟨v1, hv1, h⟩ := bindE h
 refine X.callF (slices_Clone_int_pc _ _ hv1) (by rfl) (by rfl) (by rfl) (by trivial) (by rfl) (by rfl) (by rfl) (by rfl) ?_
 refine X.an ?_
 refine Run.sr ?_
 refine X.mv ?_
 obtain ⟨v2, hv2, h⟩ := bindE h
 refine X.callR [(63, 320)] [(320, (v1.map int).length)] [(320, (v2.map int).length)] (slices_Sort_int_pc _ _ hv2) (by rfl) (by rfl) (.ownB 63 (by rfl) (by first | rfl | simp [setL] | omega) (by rfl) .nil) (by rfl) ⟨rfl, rfl, ⟨_, by rfl, by constructor⟩, by constructor, trivial⟩ (by rfl) (by rfl) (by rfl) (by rfl) ⟨rfl, ⟨_, _, _, _, by rfl, by rfl⟩, ⟨_, _, _, _, by rfl, by rfl⟩, trivial⟩ (by rfl) (by repeat (first | trivial | refine ⟨by first | rfl | simp [setL], ?_⟩)) (by rfl) (by rfl) (by rfl) (by rfl) (by rfl) ?_
 refine X.nil ?_
 refine Run.seq ?_
 refine Run.region ?_
 refine Run.mvo ?_
 obtain ⟨v3, hv3, h⟩ := bindE h
 refine Run.callCut (S' := []) (M' := []) (cut59 _ _ hv3) (by rfl) (by rfl) (by rfl) (by first | rfl | simp [setL] | omega) trivial trivial (by rfl) (by rfl) (by rfl) (by rfl) (by rfl) ?_
 refine Run.aso ?_
 refine Run.nil ?_
 cases h
 refine R.pubObj (n := 576) (by rfl) ?_
 refine R.fin1o Tryz.results34 (by rfl) (by rfl) (by first | rfl | simp [setL] | omega) ?_
 rfl
theorem i_Intervals_pc (b0 : TProject) (b1 : TDomain) (r : List (List Int)) (h : i_Intervals b0 b1 = some r) : PC Tryz.prog 9 [eTProject b0, eTDomain b1] (.tre 25 1 (r.map t_int)) := by
 unfold i_Intervals at h
 refine PC.start Tryz.func9 Tryz.ntmps9 rfl ok9 rfl ?_
 refine Run.sr ?_
 refine X.bx ?_
 refine X.bx ?_
 refine X.an ?_
 refine Run.seq ?_
 refine Run.sr ?_
 refine X.ld shp38 ?_
 refine X.ld shp40 ?_
 obtain ⟨v1, hv1, h⟩ := bindE h
 refine X.cp (i_isUsable_pc _ _ _ hv1) ?_
 refine X.un (by rfl) (by rfl) (by rfl) ?_
 refine X.nil ?_
 refine R.cd (fun hc2 => ?_) (fun hc2 => ?_)
 ·replace h := condT hc2 h
  refine Run.sr ?_
  refine X.an ?_
  cases h
  refine R.fin1tn (e := 25) (sz := 1) Tryz.results9 (by rfl) (by decide) ?_
  rfl
 ·replace h := condF hc2 h
  refine Run.skip ?_
  refine Run.seq ?_
  refine Run.region ?_
  refine Run.one ?_
  refine X.buildSlice true elt25 zer3 (by rfl) (by rfl) (by rfl) (by rfl) (by rfl) (by rfl) (by repeat (first | trivial | refine ⟨by first | rfl | simp [setL], ?_⟩)) (allSz_spec (by rfl)) (by rfl) (by rfl) (by rfl) ?_
  refine X.nil ?_
  refine Run.buildT0 elt28 (by rfl) zer25 (by rfl) (by rfl) (by rfl) ?_
  refine Run.aso ?_
  refine Run.aso ?_
  refine Run.nil ?_
  refine Run.seq ?_
  refine Run.sr ?_
  refine X.fl fld38_1 ?_
  refine X.ld shp34 ?_
  refine X.ls elt34 ?_
  refine X.mn ?_
  obtain ⟨o3, ho3, h⟩ := bindE h
  refine R.join2 (β := (List Int)) [(3, .lptr 192 0)] [(192, .blk true [.slice (b1.MinStart.map int), .slice (b1.MaxStart.map int), .slice (b1.Modes.map l_int)]), (1152, .tre 25 1 (([] : List (List Int)).map t_int))] (fun p19 S => (5, .own 1088 (p19.map int).length) :: (6, .tref 1152 (([] : List (List Int)).map t_int).length .out) :: S) (fun p19 M => (1088, .obj true 3 1 (p19.map int)) :: M) (fun p19 => p19 = o3) ?_ ?_
  ·intro JJ6 hmeet5
   have hup4 := h; clear h; have h := ho3; clear ho3
   refine Run.block ?_
   refine R.bndS (t := 20) (by rfl) (fun hbd9 => ?_)
   replace hbd9 : b0.Activities.length ≤ 9223372036854775807 := by first | (rw [List.length_map] at hbd9; exact hbd9) | simp
   refine R.lp (β := Int × (List Int)) [(3, .lptr 192 0), (20, .slice (b0.Activities.map eTActivity)), (21, int (b0.Activities.length : Int))] [(192, .blk true [.slice (b1.MinStart.map int), .slice (b1.MaxStart.map int), .slice (b1.Modes.map l_int)]), (1152, .tre 25 1 (([] : List (List Int)).map t_int))] (fun bb S => (5, .own 1088 (bb.2.map int).length) :: (6, .tref 1152 (([] : List (List Int)).map t_int).length .out) :: (22, int bb.1) :: S) (fun bb M => (1088, .obj true 3 1 (bb.2.map int)) :: M) (fun n bb => 0 ≤ bb.1 ∧ bb.1 + n = (b0.Activities.length : Int) ∧ i_Intervals_L1 b1 (b0.Activities.drop bb.1.toNat) bb.1 bb.2 = some o3) b0.Activities.length (0, ([] : List Int)) ⟨Int.le_refl _, by simp, h⟩ ?_
   clear h
   rintro JJ9 n9 ⟨z10, a11⟩ hag9 ⟨hza9, hzb9, h⟩
   dsimp only at hza9 hzb9 h
   refine Run.sr ?_
   refine X.bi ?_
   refine X.nil ?_
   refine Run.seq ?_
   refine R.cd (fun hc14 => ?_) (fun hc14 => ?_)
   ·obtain ⟨x12, xs13, hd9, hx9, hds9, hlt9⟩ := drop_atI hza9 hc14
    rw [hd9] at h
    rw [i_Intervals_L1] at h
    refine Run.skip ?_
    refine Run.seq ?_
    refine Run.block ?_
    refine Run.sr ?_
    refine X.mv ?_
    refine X.ix elt34 (idxL_spec hx9).1 (idxL_map eTActivity hx9) ?_
    refine X.lc shp58 ?_
    refine X.alloc zer58 (by rfl) (by rfl) (by rfl) ?_
    refine X.as ?_
    refine X.sl shp58 ?_
    refine X.nil ?_
    refine Run.draw (footOf [(2, ([192], [], [], [])), (6, ([512], [], [], [])), (8, ([192], [], [], [])), (14, ([2624], [2624], [], [])), (15, ([1088, 2624], [1088], [], []))]) mixed (by kernel_rfl) (by kernel_rfl) ?_
    refine X.mv ?_
    refine X.fl fld40_1 ?_
    refine X.ld shp25 ?_
    refine X.mv ?_
    obtain ⟨v15, hv15, h⟩ := bindE h
    refine X.ix elt25 (idxL_spec hv15).1 (idxL_map int hv15) ?_
    refine X.lc shp3 ?_
    refine X.ld shp58 ?_
    refine X.fl fld40_2 ?_
    refine X.ld shp28 ?_
    refine X.mv ?_
    obtain ⟨v16, hv16, h⟩ := bindE h
    refine X.ix elt28 (idxL_spec hv16).1 (idxL_map l_int hv16) ?_
    refine X.lc shp25 ?_
    obtain ⟨v17, hv17, h⟩ := bindE h
    refine X.cp (i_MaxDuration_pc _ _ _ hv17) ?_
    refine X.addW (by rfl) (by rfl) (by rfl) ?_
    refine X.buildSlice true elt25 zer3 (by rfl) (by rfl) (by rfl) (by rfl) (by rfl) (by rfl) (by repeat (first | trivial | refine ⟨by first | rfl | simp [setL], ?_⟩)) (allSz_spec (by rfl)) (by rfl) (by rfl) (by rfl) ?_
    obtain ⟨v18, hv18, h⟩ := bindE h
    refine X.append elt25 zer3 (by rfl) (by rfl) (by first | rfl | simp [setL] | omega) (by rfl) (.own _ _ _ _ _ _ (look_mem (by rfl)) (by first | rfl | simp [setL] | omega)) (allSz_spec (by rfl)) (appL_len int hv18) (appL_map int hv18) (by rfl) (by rfl) (by rfl) (by rfl) ?_
    refine X.an ?_
    refine Run.blk ?_
    refine Run.reg ?_
    refine X.ad ?_
    refine X.mn ?_
    exact R.ag hag9 (n9 - 1) (z10 + 1, v18) (R.n3 (by first | (rw [hds9]; exact h) | (dsimp only; rw [hds9]; exact h)))
   ·rw [drop_endI hza9 hc14] at h
    rw [i_Intervals_L1] at h
    refine Run.exit (by rfl) ?_
    exact R.mt hmeet5 a11 (Option.some.inj h)
  rintro p19 rfl
  refine Run.seq ?_
  refine Run.sr ?_
  refine X.fl fld40_0 ?_
  refine X.ld shp25 ?_
  obtain ⟨v20, hv20, h⟩ := bindE h
  refine X.callF (i_SetOf_pc _ _ hv20) (by rfl) (by rfl) (by rfl) (by trivial) (by rfl) (by rfl) (by rfl) (by rfl) ?_
  refine X.len_o elt25 (by rfl) (by rfl) (by first | rfl | simp [setL] | omega) (by first | exact List.length_map .. | rfl) (by rfl) (by rfl) ?_
  refine X.mn ?_
  obtain ⟨o21, ho21, h⟩ := bindE h
  refine R.join2 (β := (List (List Int))) [] [] (fun p54 S => (6, .tref 1152 (p54.map t_int).length .out) :: S) (fun p54 M => (1152, .tre 25 1 (p54.map t_int)) :: M) (fun p54 => p54 = o21) ?_ ?_
  ·intro JJ24 hmeet23
   have hup22 := h; clear h; have h := ho21; clear ho21
   refine Run.block ?_
   refine R.bndO (n := 2944) (by rfl) (fun hbd27 => ?_)
   replace hbd27 : v20.length ≤ 9223372036854775807 := by first | (rw [List.length_map] at hbd27; exact hbd27) | simp
   refine R.lp (β := Int × (List (List Int))) [(47, int (v20.length : Int))] [(1088, .obj true 3 1 (p19.map int)), (2944, .obj false 3 1 (v20.map int))] (fun bb S => (5, .own 1088 (p19.map int).length) :: (6, .tref 1152 (bb.2.map t_int).length .out) :: (46, .own 2944 (v20.map int).length) :: (48, int bb.1) :: S) (fun bb M => (1152, .tre 25 1 (bb.2.map t_int)) :: M) (fun n bb => 0 ≤ bb.1 ∧ bb.1 + n = (v20.length : Int) ∧ i_Intervals_L2 p19 (v20.drop bb.1.toNat) bb.1 bb.2 = some o21) v20.length (0, ([] : List (List Int))) ⟨Int.le_refl _, by simp, h⟩ ?_
   clear h
   rintro JJ27 n27 ⟨z28, a29⟩ hag27 ⟨hza27, hzb27, h⟩
   dsimp only at hza27 hzb27 h
   refine Run.sr ?_
   refine X.bi ?_
   refine X.nil ?_
   refine Run.seq ?_
   refine R.cd (fun hc32 => ?_) (fun hc32 => ?_)
   ·obtain ⟨x30, xs31, hd27, hx27, hds27, hlt27⟩ := drop_atI hza27 hc32
    rw [hd27] at h
    rw [i_Intervals_L2] at h
    refine Run.skip ?_
    refine Run.seq ?_
    refine Run.block ?_
    refine Run.sr ?_
    refine X.index_o elt25 (by rfl) (by rfl) (by first | rfl | simp [setL] | omega) (by rfl) (idxL_spec hx27).1 (idxL_map int hx27) (by rfl) (by rfl) (by rfl) ?_
    refine X.lc shp3 ?_
    refine X.an ?_
    refine Run.sr ?_
    refine X.mv ?_
    obtain ⟨v33, hv33, h⟩ := bindE h
    refine X.callM [(63, 1088)] (PC.lend (M0 := [(63, .obj true 3 1 (p19.map int))]) (i_SetOf_pc _ _ hv33) (FlatR.freshM (fun _ => (by repeat (first | exact trivial | refine ⟨trivial, ?_⟩)))) (by rfl) (.own 63 _ _ _ _ _ _ _ (by rfl) (by first | rfl | simp [setL] | omega) .nil)) (by rfl) (by rfl) (.ownB 63 (by rfl) (by first | rfl | simp [setL] | omega) (by rfl) .nil) (by rfl) ⟨rfl, rfl, ⟨_, by rfl, by constructor⟩, by constructor, trivial⟩ (by rfl) (by rfl) (by rfl) (by rfl) (by rfl) (by rfl) (by rfl) (by rfl) (by rfl) ?_
    refine X.len_o elt25 (by rfl) (by rfl) (by first | rfl | simp [setL] | omega) (by first | exact List.length_map .. | rfl) (by rfl) (by rfl) ?_
    refine X.mn ?_
    obtain ⟨o34, ho34, h⟩ := bindE h
    refine R.join2 (β := (List (List Int))) [(47, int (v20.length : Int)), (48, int z28)] [(1088, .obj true 3 1 (p19.map int)), (2944, .obj false 3 1 (v20.map int))] (fun p53 S => (5, .own 1088 (p19.map int).length) :: (6, .tref 1152 (p53.map t_int).length .out) :: (46, .own 2944 (v20.map int).length) :: S) (fun p53 M => (1152, .tre 25 1 (p53.map t_int)) :: M) (fun p53 => p53 = o34) ?_ ?_
    ·intro JJ37 hmeet36
     have hup35 := h; clear h; have h := ho34; clear ho34
     refine Run.block ?_
     refine R.bndO (n := 3392) (by rfl) (fun hbd40 => ?_)
     replace hbd40 : v33.length ≤ 9223372036854775807 := by first | (rw [List.length_map] at hbd40; exact hbd40) | simp
     refine R.lp (β := Int × (List (List Int))) [(10, int x30), (47, int (v20.length : Int)), (48, int z28), (54, int (v33.length : Int))] [(1088, .obj true 3 1 (p19.map int)), (2944, .obj false 3 1 (v20.map int)), (3392, .obj false 3 1 (v33.map int))] (fun bb S => (5, .own 1088 (p19.map int).length) :: (6, .tref 1152 (bb.2.map t_int).length .out) :: (46, .own 2944 (v20.map int).length) :: (53, .own 3392 (v33.map int).length) :: (55, int bb.1) :: S) (fun bb M => (1152, .tre 25 1 (bb.2.map t_int)) :: M) (fun n bb => 0 ≤ bb.1 ∧ bb.1 + n = (v33.length : Int) ∧ i_Intervals_L3 x30 (v33.drop bb.1.toNat) bb.1 bb.2 = some o34) v33.length (0, a29) ⟨Int.le_refl _, by simp, h⟩ ?_
     clear h
     rintro JJ40 n40 ⟨z41, a42⟩ hag40 ⟨hza40, hzb40, h⟩
     dsimp only at hza40 hzb40 h
     refine Run.sr ?_
     refine X.bi ?_
     refine X.nil ?_
     refine Run.seq ?_
     refine R.cd (fun hc45 => ?_) (fun hc45 => ?_)
     ·obtain ⟨x43, xs44, hd40, hx40, hds40, hlt40⟩ := drop_atI hza40 hc45
      rw [hd40] at h
      rw [i_Intervals_L3] at h
      refine Run.skip ?_
      refine Run.seq ?_
      refine Run.block ?_
      refine Run.sr ?_
      refine X.index_o elt25 (by rfl) (by rfl) (by first | rfl | simp [setL] | omega) (by rfl) (idxL_spec hx40).1 (idxL_map int hx40) (by rfl) (by rfl) (by rfl) ?_
      refine X.lc shp3 ?_
      refine X.an ?_
      refine Run.seq ?_
      obtain ⟨v46, hv46, h⟩ := bindE h
      obtain ⟨e47, he47, h2⟩ := bindE h
      refine R.regG [(5, .own 1088 (p19.map int).length), (6, .tref 1152 (a42.map t_int).length .out), (10, int x30), (12, int x43), (46, .own 2944 (v20.map int).length), (47, int (v20.length : Int)), (48, int z28), (53, .own 3392 (v33.map int).length), (54, int (v33.length : Int)), (55, int z41), (69, bool e47)] [(1088, .obj true 3 1 (p19.map int)), (1152, .tre 25 1 (a42.map t_int)), (2944, .obj false 3 1 (v20.map int)), (3392, .obj false 3 1 (v33.map int))] ?_ ?_
      ·clear h; have h := he47; clear he47 h2
       refine X.mv ?_
       refine X.cp (i_isTime_pc _ _ hv46) ?_
       refine X.mv ?_
       refine X.iG (fun hb48 => ?_) (fun hb48 => ?_)
       ·replace h := condT hb48 h
        refine X.mv ?_
        refine X.gy ?_
        obtain ⟨v49, hv49, h⟩ := bindE h
        refine X.cp (i_isTime_pc _ _ hv49) ?_
        refine X.pT ?_
        refine X.mv ?_
        refine X.iG (fun hb50 => ?_) (fun hb50 => ?_)
        ·replace h := condT hb50 h
         refine X.mv ?_
         refine X.gy ?_
         refine X.mv ?_
         refine X.gy ?_
         refine X.bi ?_
         refine X.pT ?_
         cases h
         exact X.eG
        ·replace h := condF hb50 h
         refine X.gn ?_
         refine X.gn ?_
         refine X.pF ?_
         cases h
         exact X.eG
       ·replace h := condF hb48 h
        refine X.gn ?_
        refine X.pF ?_
        refine X.mv ?_
        refine X.gn ?_
        refine X.gn ?_
        refine X.gn ?_
        refine X.pF ?_
        cases h
        exact X.eG
      replace h := h2; clear h2
      refine R.cd (fun hc51 => ?_) (fun hc51 => ?_)
      ·replace h := condT hc51 h
       refine Run.region ?_
       refine Run.mvo ?_
       refine Run.mvo ?_
       refine Run.mvo ?_
       refine Run.one ?_
       refine X.buildSlice true elt25 zer3 (by rfl) (by rfl) (by rfl) (by rfl) (by rfl) (by rfl) (by repeat (first | trivial | refine ⟨by first | rfl | simp [setL], ?_⟩)) (allSz_spec (by rfl)) (by rfl) (by rfl) (by rfl) ?_
       refine X.nil ?_
       refine Run.buildT1 (S' := [(5, .own 1088 (p19.map int).length), (10, int x30), (46, .own 2944 (v20.map int).length), (47, int (v20.length : Int)), (48, int z28), (53, .own 3392 (v33.map int).length), (54, int (v33.length : Int)), (55, int z41), (70, .tref 1152 (a42.map t_int).length .out)]) (M' := [(1088, .obj true 3 1 (p19.map int)), (2944, .obj false 3 1 (v20.map int)), (3392, .obj false 3 1 (v33.map int)), (1152, .tre 25 1 (a42.map t_int))]) (q := t_int ([x30, x43] : List Int)) elt28 (by rfl) (by rfl) zer25 (by rfl) (by rfl) (by exact (.own _ _ _ _ _ _ _ _ (by rfl) (by first | rfl | simp [setL] | omega) (flat_lit _ (fun _ => (by repeat (first | exact trivial | refine ⟨trivial, ?_⟩)))) (by simp) .nil)) (by rfl) (by repeat (first | trivial | refine ⟨by first | rfl | simp [setL], ?_⟩)) (by repeat (first | trivial | refine ⟨by first | rfl | simp [setL], ?_⟩)) (by rfl) (by rfl) (by rfl) (by rfl) (by rfl) ?_
       obtain ⟨v52, hv52, h⟩ := bindE h
       refine Run.appT (S' := [(5, .own 1088 (p19.map int).length), (10, int x30), (46, .own 2944 (v20.map int).length), (47, int (v20.length : Int)), (48, int z28), (53, .own 3392 (v33.map int).length), (54, int (v33.length : Int)), (55, int z41)]) (M' := [(1088, .obj true 3 1 (p19.map int)), (2944, .obj false 3 1 (v20.map int)), (3392, .obj false 3 1 (v33.map int))]) (appL_map t_int hv52) elt28 (by rfl) zer25 (by rfl) (by rfl) (by rfl) (by first | rfl | simp [setL] | omega) (by rfl) (by rfl) (by first | rfl | simp [setL] | omega) (by rfl) (by rfl) (appL_len t_int hv52) (by rfl) (by repeat (first | trivial | refine ⟨by first | rfl | simp [setL], ?_⟩)) (by repeat (first | trivial | refine ⟨by first | rfl | simp [setL], ?_⟩)) (by rfl) (by rfl) (by rfl) (by rfl) (by rfl) ?_
       refine Run.aso ?_
       refine Run.nil ?_
       refine Run.blk ?_
       refine Run.reg ?_
       refine X.ad ?_
       refine X.mn ?_
       exact R.ag hag40 (n40 - 1) (z41 + 1, v52) (R.n3 (by first | (rw [hds40]; exact h) | (dsimp only; rw [hds40]; exact h)))
      ·replace h := condF hc51 h
       refine Run.skip ?_
       refine Run.blk ?_
       refine Run.reg ?_
       refine X.ad ?_
       refine X.mn ?_
       exact R.ag hag40 (n40 - 1) (z41 + 1, a42) (R.n3 (by first | (rw [hds40]; exact h) | (dsimp only; rw [hds40]; exact h)))
     ·rw [drop_endI hza40 hc45] at h
      rw [i_Intervals_L3] at h
      refine Run.exit (by rfl) ?_
      exact R.mt hmeet36 a42 (Option.some.inj h)
    rintro p53 rfl
    refine Run.blk ?_
    refine Run.reg ?_
    refine X.ad ?_
    refine X.mn ?_
    exact R.ag hag27 (n27 - 1) (z28 + 1, p53) (R.n3 (by first | (rw [hds27]; exact h) | (dsimp only; rw [hds27]; exact h)))
   ·rw [drop_endI hza27 hc32] at h
    rw [i_Intervals_L2] at h
    refine Run.exit (by rfl) ?_
    exact R.mt hmeet23 a29 (Option.some.inj h)
  rintro p54 rfl
  refine Run.sr ?_
  refine X.mv ?_
  refine X.an ?_
  cases h
  refine R.fin1t Tryz.results9 (by rfl) (by rfl) (by first | rfl | simp [setL] | omega) ?_
  rfl
theorem w_eqIntS_pc (b0 : List Int) (b1 : List Int) (r : Bool) (h : w_eqIntS b0 b1 = some r) : PC Tryz.prog 36 [.slice (b0.map int), .slice (b1.map int)] (bool r) := by
 unfold w_eqIntS at h
 refine PC.start Tryz.func36 Tryz.ntmps36 rfl ok36 rfl ?_
 refine Run.sr ?_
 refine X.an ?_
 refine Run.seq ?_
 refine Run.sr ?_
 refine X.mv ?_
 refine X.ls elt25 ?_
 refine X.mv ?_
 refine X.ls elt25 ?_
 refine X.bi ?_
 refine X.nil ?_
 refine R.cd (fun hc1 => ?_) (fun hc1 => ?_)
 ·replace h := condT hc1 h
  refine Run.sr ?_
  refine X.an ?_
  cases h
  refine R.f1 Tryz.results36 ?_
  rfl
 ·replace h := condF hc1 h
  refine Run.skip ?_
  refine Run.seq ?_
  refine Run.sr ?_
  refine X.an ?_
  obtain ⟨o2, ho2, h⟩ := bindE h
  refine R.join2 (β := Unit) [] [] (fun p15 S => S) (fun p15 M => M) (fun p15 => (Sum.inl p15) = o2) ?_ ?_
  ·intro JJ5 hmeet4
   have hup3 := h; clear h; have h := ho2; clear ho2
   refine Run.block ?_
   refine R.bndS (t := 0) (by rfl) (fun hbd8 => ?_)
   replace hbd8 : b0.length ≤ 9223372036854775807 := by first | (rw [List.length_map] at hbd8; exact hbd8) | simp
   refine R.lp (β := Int) [(0, .slice (b0.map int)), (1, .slice (b1.map int))] [] (fun bb S => (5, int bb) :: S) (fun bb M => M) (fun n bb => 0 ≤ bb ∧ bb + n = (b0.length : Int) ∧ w_eqIntS_L1 b1 (b0.drop bb.toNat) bb = some o2) b0.length (0 : Int) ⟨Int.le_refl _, by simp, h⟩ ?_
   clear h
   rintro JJ8 n8 z9 hag8 ⟨hza8, hzb8, h⟩
   refine Run.seq ?_
   refine Run.sr ?_
   refine X.mv ?_
   refine X.mv ?_
   refine X.ls elt25 ?_
   refine X.bi ?_
   refine X.nil ?_
   refine R.cd (fun hc12 => ?_) (fun hc12 => ?_)
   ·obtain ⟨x10, xs11, hd8, hx8, hds8, hlt8⟩ := drop_atI hza8 hc12
    rw [hd8] at h
    rw [w_eqIntS_L1] at h
    refine Run.skip ?_
    refine Run.seq ?_
    refine Run.block ?_
    refine Run.seq ?_
    refine Run.draw (footOf []) mixed (by kernel_rfl) (by kernel_rfl) ?_
    refine X.mv ?_
    refine X.mv ?_
    refine X.ix elt25 (idxL_spec hx8).1 (idxL_map int hx8) ?_
    refine X.lc shp3 ?_
    refine X.mv ?_
    refine X.mv ?_
    obtain ⟨v13, hv13, h⟩ := bindE h
    refine X.ix elt25 (idxL_spec hv13).1 (idxL_map int hv13) ?_
    refine X.lc shp3 ?_
    refine X.bi ?_
    refine X.nil ?_
    refine R.cd (fun hc14 => ?_) (fun hc14 => ?_)
    ·replace h := condT hc14 h
     refine Run.sr ?_
     refine X.an ?_
     cases h
     have h := hup3
     replace h := elimR h
     cases h
     refine R.f1 Tryz.results36 ?_
     rfl
    ·replace h := condF hc14 h
     refine Run.skip ?_
     refine Run.blk ?_
     refine Run.reg ?_
     refine X.mv ?_
     refine X.ad ?_
     refine X.an ?_
     exact R.ag hag8 (n8 - 1) (z9 + 1) (R.n3 (by first | (rw [hds8]; exact h) | (dsimp only; rw [hds8]; exact h)))
   ·rw [drop_endI hza8 hc12] at h
    rw [w_eqIntS_L1] at h
    refine Run.exit (by rfl) ?_
    exact R.mt hmeet4 () (Option.some.inj h)
  rintro p15 rfl
  replace h := elimL h
  refine Run.sr ?_
  refine X.an ?_
  cases h
  refine R.f1 Tryz.results36 ?_
  rfl
theorem w_eqIntSS_pc (b0 : List (List Int)) (b1 : List (List Int)) (r : Bool) (h : w_eqIntSS b0 b1 = some r) : PC Tryz.prog 10 [.slice (b0.map l_int), .slice (b1.map l_int)] (bool r) := by
 unfold w_eqIntSS at h
 refine PC.start Tryz.func10 Tryz.ntmps10 rfl ok10 rfl ?_
 refine Run.sr ?_
 refine X.an ?_
 refine Run.seq ?_
 refine Run.sr ?_
 refine X.mv ?_
 refine X.ls elt28 ?_
 refine X.mv ?_
 refine X.ls elt28 ?_
 refine X.bi ?_
 refine X.nil ?_
 refine R.cd (fun hc1 => ?_) (fun hc1 => ?_)
 ·replace h := condT hc1 h
  refine Run.sr ?_
  refine X.an ?_
  cases h
  refine R.f1 Tryz.results10 ?_
  rfl
 ·replace h := condF hc1 h
  refine Run.skip ?_
  refine Run.seq ?_
  refine Run.sr ?_
  refine X.an ?_
  obtain ⟨o2, ho2, h⟩ := bindE h
  refine R.join2 (β := Unit) [] [] (fun p16 S => S) (fun p16 M => M) (fun p16 => (Sum.inl p16) = o2) ?_ ?_
  ·intro JJ5 hmeet4
   have hup3 := h; clear h; have h := ho2; clear ho2
   refine Run.block ?_
   refine R.bndS (t := 0) (by rfl) (fun hbd8 => ?_)
   replace hbd8 : b0.length ≤ 9223372036854775807 := by first | (rw [List.length_map] at hbd8; exact hbd8) | simp
   refine R.lp (β := Int) [(0, .slice (b0.map l_int)), (1, .slice (b1.map l_int))] [] (fun bb S => (5, int bb) :: S) (fun bb M => M) (fun n bb => 0 ≤ bb ∧ bb + n = (b0.length : Int) ∧ w_eqIntSS_L1 b1 (b0.drop bb.toNat) bb = some o2) b0.length (0 : Int) ⟨Int.le_refl _, by simp, h⟩ ?_
   clear h
   rintro JJ8 n8 z9 hag8 ⟨hza8, hzb8, h⟩
   refine Run.seq ?_
   refine Run.sr ?_
   refine X.mv ?_
   refine X.mv ?_
   refine X.ls elt28 ?_
   refine X.bi ?_
   refine X.nil ?_
   refine R.cd (fun hc12 => ?_) (fun hc12 => ?_)
   ·obtain ⟨x10, xs11, hd8, hx8, hds8, hlt8⟩ := drop_atI hza8 hc12
    rw [hd8] at h
    rw [w_eqIntSS_L1] at h
    refine Run.skip ?_
    refine Run.seq ?_
    refine Run.block ?_
    refine Run.seq ?_
    refine Run.draw (footOf []) mixed (by kernel_rfl) (by kernel_rfl) ?_
    refine X.mv ?_
    refine X.mv ?_
    refine X.ix elt28 (idxL_spec hx8).1 (idxL_map l_int hx8) ?_
    refine X.lc shp25 ?_
    refine X.mv ?_
    refine X.mv ?_
    obtain ⟨v13, hv13, h⟩ := bindE h
    refine X.ix elt28 (idxL_spec hv13).1 (idxL_map l_int hv13) ?_
    refine X.lc shp25 ?_
    obtain ⟨v14, hv14, h⟩ := bindE h
    refine X.cp (w_eqIntS_pc _ _ _ hv14) ?_
    refine X.un (by rfl) (by rfl) (by rfl) ?_
    refine X.nil ?_
    refine R.cd (fun hc15 => ?_) (fun hc15 => ?_)
    ·replace h := condT hc15 h
     refine Run.sr ?_
     refine X.an ?_
     cases h
     have h := hup3
     replace h := elimR h
     cases h
     refine R.f1 Tryz.results10 ?_
     rfl
    ·replace h := condF hc15 h
     refine Run.skip ?_
     refine Run.blk ?_
     refine Run.reg ?_
     refine X.mv ?_
     refine X.ad ?_
     refine X.an ?_
     exact R.ag hag8 (n8 - 1) (z9 + 1) (R.n3 (by first | (rw [hds8]; exact h) | (dsimp only; rw [hds8]; exact h)))
   ·rw [drop_endI hza8 hc12] at h
    rw [w_eqIntSS_L1] at h
    refine Run.exit (by rfl) ?_
    exact R.mt hmeet4 () (Option.some.inj h)
  rintro p16 rfl
  replace h := elimL h
  refine Run.sr ?_
  refine X.an ?_
  cases h
  refine R.f1 Tryz.results10 ?_
  rfl
theorem w_eqMode_pc (b0 : TMode) (b1 : TMode) (r : Bool) (h : w_eqMode b0 b1 = some r) : PC Tryz.prog 114 [eTMode b0, eTMode b1] (bool r) := by
 unfold w_eqMode at h
 refine PC.start Tryz.func114 Tryz.ntmps114 rfl ok114 rfl ?_
 refine Run.sr ?_
 refine X.bx ?_
 refine X.bx ?_
 refine X.an ?_
 refine Run.seq ?_
 refine Run.sr ?_
 refine X.fl fld83_0 ?_
 refine X.ld shp3 ?_
 refine X.fl fld83_0 ?_
 refine X.ld shp3 ?_
 refine X.bi ?_
 refine X.nil ?_
 refine R.cd (fun hc1 => ?_) (fun hc1 => ?_)
 ·replace h := condT hc1 h
  refine Run.sr ?_
  refine X.an ?_
  cases h
  refine R.f1 Tryz.results114 ?_
  rfl
 ·replace h := condF hc1 h
  refine Run.skip ?_
  refine Run.seq ?_
  refine Run.sr ?_
  refine X.fl fld83_1 ?_
  refine X.ld shp25 ?_
  refine X.fl fld83_1 ?_
  refine X.ld shp25 ?_
  obtain ⟨v2, hv2, h⟩ := bindE h
  refine X.cp (w_eqIntS_pc _ _ _ hv2) ?_
  refine X.un (by rfl) (by rfl) (by rfl) ?_
  refine X.nil ?_
  refine R.cd (fun hc3 => ?_) (fun hc3 => ?_)
  ·replace h := condT hc3 h
   refine Run.sr ?_
   refine X.an ?_
   cases h
   refine R.f1 Tryz.results114 ?_
   rfl
  ·replace h := condF hc3 h
   refine Run.skip ?_
   refine Run.seq ?_
   refine Run.sr ?_
   refine X.fl fld83_2 ?_
   refine X.ld shp25 ?_
   refine X.fl fld83_2 ?_
   refine X.ld shp25 ?_
   obtain ⟨v4, hv4, h⟩ := bindE h
   refine X.cp (w_eqIntS_pc _ _ _ hv4) ?_
   refine X.un (by rfl) (by rfl) (by rfl) ?_
   refine X.nil ?_
   refine R.cd (fun hc5 => ?_) (fun hc5 => ?_)
   ·replace h := condT hc5 h
    refine Run.sr ?_
    refine X.an ?_
    cases h
    refine R.f1 Tryz.results114 ?_
    rfl
   ·replace h := condF hc5 h
    refine Run.skip ?_
    refine Run.sr ?_
    refine X.an ?_
    cases h
    refine R.f1 Tryz.results114 ?_
    rfl
theorem w_eqModeS_pc (b0 : List TMode) (b1 : List TMode) (r : Bool) (h : w_eqModeS b0 b1 = some r) : PC Tryz.prog 85 [.slice (b0.map eTMode), .slice (b1.map eTMode)] (bool r) := by
 unfold w_eqModeS at h
 refine PC.start Tryz.func85 Tryz.ntmps85 rfl ok85 rfl ?_
 refine Run.sr ?_
 refine X.an ?_
 refine Run.seq ?_
 refine Run.sr ?_
 refine X.mv ?_
 refine X.ls elt56 ?_
 refine X.mv ?_
 refine X.ls elt56 ?_
 refine X.bi ?_
 refine X.nil ?_
 refine R.cd (fun hc1 => ?_) (fun hc1 => ?_)
 ·replace h := condT hc1 h
  refine Run.sr ?_
  refine X.an ?_
  cases h
  refine R.f1 Tryz.results85 ?_
  rfl
 ·replace h := condF hc1 h
  refine Run.skip ?_
  refine Run.seq ?_
  refine Run.sr ?_
  refine X.an ?_
  obtain ⟨o2, ho2, h⟩ := bindE h
  refine R.join2 (β := Unit) [] [] (fun p16 S => S) (fun p16 M => M) (fun p16 => (Sum.inl p16) = o2) ?_ ?_
  ·intro JJ5 hmeet4
   have hup3 := h; clear h; have h := ho2; clear ho2
   refine Run.block ?_
   refine R.bndS (t := 0) (by rfl) (fun hbd8 => ?_)
   replace hbd8 : b0.length ≤ 9223372036854775807 := by first | (rw [List.length_map] at hbd8; exact hbd8) | simp
   refine R.lp (β := Int) [(0, .slice (b0.map eTMode)), (1, .slice (b1.map eTMode))] [] (fun bb S => (5, int bb) :: S) (fun bb M => M) (fun n bb => 0 ≤ bb ∧ bb + n = (b0.length : Int) ∧ w_eqModeS_L1 b1 (b0.drop bb.toNat) bb = some o2) b0.length (0 : Int) ⟨Int.le_refl _, by simp, h⟩ ?_
   clear h
   rintro JJ8 n8 z9 hag8 ⟨hza8, hzb8, h⟩
   refine Run.seq ?_
   refine Run.sr ?_
   refine X.mv ?_
   refine X.mv ?_
   refine X.ls elt56 ?_
   refine X.bi ?_
   refine X.nil ?_
   refine R.cd (fun hc12 => ?_) (fun hc12 => ?_)
   ·obtain ⟨x10, xs11, hd8, hx8, hds8, hlt8⟩ := drop_atI hza8 hc12
    rw [hd8] at h
    rw [w_eqModeS_L1] at h
    refine Run.skip ?_
    refine Run.seq ?_
    refine Run.block ?_
    refine Run.seq ?_
    refine Run.draw (footOf []) mixed (by kernel_rfl) (by kernel_rfl) ?_
    refine X.mv ?_
    refine X.mv ?_
    refine X.ix elt56 (idxL_spec hx8).1 (idxL_map eTMode hx8) ?_
    refine X.lc shp83 ?_
    refine X.mv ?_
    refine X.mv ?_
    obtain ⟨v13, hv13, h⟩ := bindE h
    refine X.ix elt56 (idxL_spec hv13).1 (idxL_map eTMode hv13) ?_
    refine X.lc shp83 ?_
    obtain ⟨v14, hv14, h⟩ := bindE h
    refine X.cp (w_eqMode_pc _ _ _ hv14) ?_
    refine X.un (by rfl) (by rfl) (by rfl) ?_
    refine X.nil ?_
    refine R.cd (fun hc15 => ?_) (fun hc15 => ?_)
    ·replace h := condT hc15 h
     refine Run.sr ?_
     refine X.an ?_
     cases h
     have h := hup3
     replace h := elimR h
     cases h
     refine R.f1 Tryz.results85 ?_
     rfl
    ·replace h := condF hc15 h
     refine Run.skip ?_
     refine Run.blk ?_
     refine Run.reg ?_
     refine X.mv ?_
     refine X.ad ?_
     refine X.an ?_
     exact R.ag hag8 (n8 - 1) (z9 + 1) (R.n3 (by first | (rw [hds8]; exact h) | (dsimp only; rw [hds8]; exact h)))
   ·rw [drop_endI hza8 hc12] at h
    rw [w_eqModeS_L1] at h
    refine Run.exit (by rfl) ?_
    exact R.mt hmeet4 () (Option.some.inj h)
  rintro p16 rfl
  replace h := elimL h
  refine Run.sr ?_
  refine X.an ?_
  cases h
  refine R.f1 Tryz.results85 ?_
  rfl
theorem w_eqActivity_pc (b0 : TActivity) (b1 : TActivity) (r : Bool) (h : w_eqActivity b0 b1 = some r) : PC Tryz.prog 61 [eTActivity b0, eTActivity b1] (bool r) := by
 unfold w_eqActivity at h
 refine PC.start Tryz.func61 Tryz.ntmps61 rfl ok61 rfl ?_
 refine Run.sr ?_
 refine X.bx ?_
 refine X.bx ?_
 refine X.an ?_
 refine Run.seq ?_
 refine Run.sr ?_
 refine X.fl fld58_0 ?_
 refine X.ld shp9 ?_
 refine X.fl fld58_0 ?_
 refine X.ld shp9 ?_
 refine X.bi ?_
 refine X.nil ?_
 refine R.cd (fun hc1 => ?_) (fun hc1 => ?_)
 ·replace h := condT hc1 h
  refine Run.sr ?_
  refine X.an ?_
  cases h
  refine R.f1 Tryz.results61 ?_
  rfl
 ·replace h := condF hc1 h
  refine Run.skip ?_
  refine Run.seq ?_
  refine Run.sr ?_
  refine X.fl fld58_1 ?_
  refine X.ld shp3 ?_
  refine X.fl fld58_1 ?_
  refine X.ld shp3 ?_
  refine X.bi ?_
  refine X.nil ?_
  refine R.cd (fun hc2 => ?_) (fun hc2 => ?_)
  ·replace h := condT hc2 h
   refine Run.sr ?_
   refine X.an ?_
   cases h
   refine R.f1 Tryz.results61 ?_
   rfl
  ·replace h := condF hc2 h
   refine Run.skip ?_
   refine Run.seq ?_
   refine Run.sr ?_
   refine X.fl fld58_2 ?_
   refine X.ld shp56 ?_
   refine X.fl fld58_2 ?_
   refine X.ld shp56 ?_
   obtain ⟨v3, hv3, h⟩ := bindE h
   refine X.cp (w_eqModeS_pc _ _ _ hv3) ?_
   refine X.un (by rfl) (by rfl) (by rfl) ?_
   refine X.nil ?_
   refine R.cd (fun hc4 => ?_) (fun hc4 => ?_)
   ·replace h := condT hc4 h
    refine Run.sr ?_
    refine X.an ?_
    cases h
    refine R.f1 Tryz.results61 ?_
    rfl
   ·replace h := condF hc4 h
    refine Run.skip ?_
    refine Run.sr ?_
    refine X.an ?_
    cases h
    refine R.f1 Tryz.results61 ?_
    rfl
theorem w_eqActivityS_pc (b0 : List TActivity) (b1 : List TActivity) (r : Bool) (h : w_eqActivityS b0 b1 = some r) : PC Tryz.prog 37 [.slice (b0.map eTActivity), .slice (b1.map eTActivity)] (bool r) := by
 unfold w_eqActivityS at h
 refine PC.start Tryz.func37 Tryz.ntmps37 rfl ok37 rfl ?_
 refine Run.sr ?_
 refine X.an ?_
 refine Run.seq ?_
 refine Run.sr ?_
 refine X.mv ?_
 refine X.ls elt34 ?_
 refine X.mv ?_
 refine X.ls elt34 ?_
 refine X.bi ?_
 refine X.nil ?_
 refine R.cd (fun hc1 => ?_) (fun hc1 => ?_)
 ·replace h := condT hc1 h
  refine Run.sr ?_
  refine X.an ?_
  cases h
  refine R.f1 Tryz.results37 ?_
  rfl
 ·replace h := condF hc1 h
  refine Run.skip ?_
  refine Run.seq ?_
  refine Run.sr ?_
  refine X.an ?_
  obtain ⟨o2, ho2, h⟩ := bindE h
  refine R.join2 (β := Unit) [] [] (fun p16 S => S) (fun p16 M => M) (fun p16 => (Sum.inl p16) = o2) ?_ ?_
  ·intro JJ5 hmeet4
   have hup3 := h; clear h; have h := ho2; clear ho2
   refine Run.block ?_
   refine R.bndS (t := 0) (by rfl) (fun hbd8 => ?_)
   replace hbd8 : b0.length ≤ 9223372036854775807 := by first | (rw [List.length_map] at hbd8; exact hbd8) | simp
   refine R.lp (β := Int) [(0, .slice (b0.map eTActivity)), (1, .slice (b1.map eTActivity))] [] (fun bb S => (5, int bb) :: S) (fun bb M => M) (fun n bb => 0 ≤ bb ∧ bb + n = (b0.length : Int) ∧ w_eqActivityS_L1 b1 (b0.drop bb.toNat) bb = some o2) b0.length (0 : Int) ⟨Int.le_refl _, by simp, h⟩ ?_
   clear h
   rintro JJ8 n8 z9 hag8 ⟨hza8, hzb8, h⟩
   refine Run.seq ?_
   refine Run.sr ?_
   refine X.mv ?_
   refine X.mv ?_
   refine X.ls elt34 ?_
   refine X.bi ?_
   refine X.nil ?_
   refine R.cd (fun hc12 => ?_) (fun hc12 => ?_)
   ·obtain ⟨x10, xs11, hd8, hx8, hds8, hlt8⟩ := drop_atI hza8 hc12
    rw [hd8] at h
    rw [w_eqActivityS_L1] at h
    refine Run.skip ?_
    refine Run.seq ?_
    refine Run.block ?_
    refine Run.seq ?_
    refine Run.draw (footOf []) mixed (by kernel_rfl) (by kernel_rfl) ?_
    refine X.mv ?_
    refine X.mv ?_
    refine X.ix elt34 (idxL_spec hx8).1 (idxL_map eTActivity hx8) ?_
    refine X.lc shp58 ?_
    refine X.mv ?_
    refine X.mv ?_
    obtain ⟨v13, hv13, h⟩ := bindE h
    refine X.ix elt34 (idxL_spec hv13).1 (idxL_map eTActivity hv13) ?_
    refine X.lc shp58 ?_
    obtain ⟨v14, hv14, h⟩ := bindE h
    refine X.cp (w_eqActivity_pc _ _ _ hv14) ?_
    refine X.un (by rfl) (by rfl) (by rfl) ?_
    refine X.nil ?_
    refine R.cd (fun hc15 => ?_) (fun hc15 => ?_)
    ·replace h := condT hc15 h
     refine Run.sr ?_
     refine X.an ?_
     cases h
     have h := hup3
     replace h := elimR h
     cases h
     refine R.f1 Tryz.results37 ?_
     rfl
    ·replace h := condF hc15 h
     refine Run.skip ?_
     refine Run.blk ?_
     refine Run.reg ?_
     refine X.mv ?_
     refine X.ad ?_
     refine X.an ?_
     exact R.ag hag8 (n8 - 1) (z9 + 1) (R.n3 (by first | (rw [hds8]; exact h) | (dsimp only; rw [hds8]; exact h)))
   ·rw [drop_endI hza8 hc12] at h
    rw [w_eqActivityS_L1] at h
    refine Run.exit (by rfl) ?_
    exact R.mt hmeet4 () (Option.some.inj h)
  rintro p16 rfl
  replace h := elimL h
  refine Run.sr ?_
  refine X.an ?_
  cases h
  refine R.f1 Tryz.results37 ?_
  rfl
theorem w_eqLink_pc (b0 : TLink) (b1 : TLink) (r : Bool) (h : w_eqLink b0 b1 = some r) : PC Tryz.prog 62 [eTLink b0, eTLink b1] (bool r) := by
 unfold w_eqLink at h
 refine PC.start Tryz.func62 Tryz.ntmps62 rfl ok62 rfl ?_
 refine Run.sr ?_
 refine X.bx ?_
 refine X.bx ?_
 refine X.an ?_
 refine Run.seq ?_
 refine Run.sr ?_
 refine X.fl fld87_0 ?_
 refine X.ld shp3 ?_
 refine X.fl fld87_0 ?_
 refine X.ld shp3 ?_
 refine X.bi ?_
 refine X.nil ?_
 refine R.cd (fun hc1 => ?_) (fun hc1 => ?_)
 ·replace h := condT hc1 h
  refine Run.sr ?_
  refine X.an ?_
  cases h
  refine R.f1 Tryz.results62 ?_
  rfl
 ·replace h := condF hc1 h
  refine Run.skip ?_
  refine Run.seq ?_
  refine Run.sr ?_
  refine X.fl fld87_1 ?_
  refine X.ld shp3 ?_
  refine X.fl fld87_1 ?_
  refine X.ld shp3 ?_
  refine X.bi ?_
  refine X.nil ?_
  refine R.cd (fun hc2 => ?_) (fun hc2 => ?_)
  ·replace h := condT hc2 h
   refine Run.sr ?_
   refine X.an ?_
   cases h
   refine R.f1 Tryz.results62 ?_
   rfl
  ·replace h := condF hc2 h
   refine Run.skip ?_
   refine Run.seq ?_
   refine Run.sr ?_
   refine X.fl fld87_2 ?_
   refine X.ld shp4 ?_
   refine X.fl fld87_2 ?_
   refine X.ld shp4 ?_
   refine X.neqBool Tryz.underlying4 (by rfl) (by rfl) (by rfl) ?_
   refine X.nil ?_
   refine R.cd (fun hc3 => ?_) (fun hc3 => ?_)
   ·replace h := condT hc3 h
    refine Run.sr ?_
    refine X.an ?_
    cases h
    refine R.f1 Tryz.results62 ?_
    rfl
   ·replace h := condF hc3 h
    refine Run.skip ?_
    refine Run.seq ?_
    refine Run.sr ?_
    refine X.fl fld87_3 ?_
    refine X.ld shp3 ?_
    refine X.fl fld87_3 ?_
    refine X.ld shp3 ?_
    refine X.bi ?_
    refine X.nil ?_
    refine R.cd (fun hc4 => ?_) (fun hc4 => ?_)
    ·replace h := condT hc4 h
     refine Run.sr ?_
     refine X.an ?_
     cases h
     refine R.f1 Tryz.results62 ?_
     rfl
    ·replace h := condF hc4 h
     refine Run.skip ?_
     refine Run.sr ?_
     refine X.an ?_
     cases h
     refine R.f1 Tryz.results62 ?_
     rfl
theorem w_eqLinkS_pc (b0 : List TLink) (b1 : List TLink) (r : Bool) (h : w_eqLinkS b0 b1 = some r) : PC Tryz.prog 38 [.slice (b0.map eTLink), .slice (b1.map eTLink)] (bool r) := by
 unfold w_eqLinkS at h
 refine PC.start Tryz.func38 Tryz.ntmps38 rfl ok38 rfl ?_
 refine Run.sr ?_
 refine X.an ?_
 refine Run.seq ?_
 refine Run.sr ?_
 refine X.mv ?_
 refine X.ls elt35 ?_
 refine X.mv ?_
 refine X.ls elt35 ?_
 refine X.bi ?_
 refine X.nil ?_
 refine R.cd (fun hc1 => ?_) (fun hc1 => ?_)
 ·replace h := condT hc1 h
  refine Run.sr ?_
  refine X.an ?_
  cases h
  refine R.f1 Tryz.results38 ?_
  rfl
 ·replace h := condF hc1 h
  refine Run.skip ?_
  refine Run.seq ?_
  refine Run.sr ?_
  refine X.an ?_
  obtain ⟨o2, ho2, h⟩ := bindE h
  refine R.join2 (β := Unit) [] [] (fun p16 S => S) (fun p16 M => M) (fun p16 => (Sum.inl p16) = o2) ?_ ?_
  ·intro JJ5 hmeet4
   have hup3 := h; clear h; have h := ho2; clear ho2
   refine Run.block ?_
   refine R.bndS (t := 0) (by rfl) (fun hbd8 => ?_)
   replace hbd8 : b0.length ≤ 9223372036854775807 := by first | (rw [List.length_map] at hbd8; exact hbd8) | simp
   refine R.lp (β := Int) [(0, .slice (b0.map eTLink)), (1, .slice (b1.map eTLink))] [] (fun bb S => (5, int bb) :: S) (fun bb M => M) (fun n bb => 0 ≤ bb ∧ bb + n = (b0.length : Int) ∧ w_eqLinkS_L1 b1 (b0.drop bb.toNat) bb = some o2) b0.length (0 : Int) ⟨Int.le_refl _, by simp, h⟩ ?_
   clear h
   rintro JJ8 n8 z9 hag8 ⟨hza8, hzb8, h⟩
   refine Run.seq ?_
   refine Run.sr ?_
   refine X.mv ?_
   refine X.mv ?_
   refine X.ls elt35 ?_
   refine X.bi ?_
   refine X.nil ?_
   refine R.cd (fun hc12 => ?_) (fun hc12 => ?_)
   ·obtain ⟨x10, xs11, hd8, hx8, hds8, hlt8⟩ := drop_atI hza8 hc12
    rw [hd8] at h
    rw [w_eqLinkS_L1] at h
    refine Run.skip ?_
    refine Run.seq ?_
    refine Run.block ?_
    refine Run.seq ?_
    refine Run.draw (footOf []) mixed (by kernel_rfl) (by kernel_rfl) ?_
    refine X.mv ?_
    refine X.mv ?_
    refine X.ix elt35 (idxL_spec hx8).1 (idxL_map eTLink hx8) ?_
    refine X.lc shp87 ?_
    refine X.mv ?_
    refine X.mv ?_
    obtain ⟨v13, hv13, h⟩ := bindE h
    refine X.ix elt35 (idxL_spec hv13).1 (idxL_map eTLink hv13) ?_
    refine X.lc shp87 ?_
    obtain ⟨v14, hv14, h⟩ := bindE h
    refine X.cp (w_eqLink_pc _ _ _ hv14) ?_
    refine X.un (by rfl) (by rfl) (by rfl) ?_
    refine X.nil ?_
    refine R.cd (fun hc15 => ?_) (fun hc15 => ?_)
    ·replace h := condT hc15 h
     refine Run.sr ?_
     refine X.an ?_
     cases h
     have h := hup3
     replace h := elimR h
     cases h
     refine R.f1 Tryz.results38 ?_
     rfl
    ·replace h := condF hc15 h
     refine Run.skip ?_
     refine Run.blk ?_
     refine Run.reg ?_
     refine X.mv ?_
     refine X.ad ?_
     refine X.an ?_
     exact R.ag hag8 (n8 - 1) (z9 + 1) (R.n3 (by first | (rw [hds8]; exact h) | (dsimp only; rw [hds8]; exact h)))
   ·rw [drop_endI hza8 hc12] at h
    rw [w_eqLinkS_L1] at h
    refine Run.exit (by rfl) ?_
    exact R.mt hmeet4 () (Option.some.inj h)
  rintro p16 rfl
  replace h := elimL h
  refine Run.sr ?_
  refine X.an ?_
  cases h
  refine R.f1 Tryz.results38 ?_
  rfl
theorem w_eqStep_pc (b0 : TStep) (b1 : TStep) (r : Bool) (h : w_eqStep b0 b1 = some r) : PC Tryz.prog 115 [eTStep b0, eTStep b1] (bool r) := by
 unfold w_eqStep at h
 refine PC.start Tryz.func115 Tryz.ntmps115 rfl ok115 rfl ?_
 refine Run.sr ?_
 refine X.bx ?_
 refine X.bx ?_
 refine X.an ?_
 refine Run.seq ?_
 refine Run.sr ?_
 refine X.fl fld117_0 ?_
 refine X.ld shp3 ?_
 refine X.fl fld117_0 ?_
 refine X.ld shp3 ?_
 refine X.bi ?_
 refine X.nil ?_
 refine R.cd (fun hc1 => ?_) (fun hc1 => ?_)
 ·replace h := condT hc1 h
  refine Run.sr ?_
  refine X.an ?_
  cases h
  refine R.f1 Tryz.results115 ?_
  rfl
 ·replace h := condF hc1 h
  refine Run.skip ?_
  refine Run.seq ?_
  refine Run.sr ?_
  refine X.fl fld117_1 ?_
  refine X.ld shp3 ?_
  refine X.fl fld117_1 ?_
  refine X.ld shp3 ?_
  refine X.bi ?_
  refine X.nil ?_
  refine R.cd (fun hc2 => ?_) (fun hc2 => ?_)
  ·replace h := condT hc2 h
   refine Run.sr ?_
   refine X.an ?_
   cases h
   refine R.f1 Tryz.results115 ?_
   rfl
  ·replace h := condF hc2 h
   refine Run.skip ?_
   refine Run.sr ?_
   refine X.an ?_
   cases h
   refine R.f1 Tryz.results115 ?_
   rfl
theorem w_eqStepS_pc (b0 : List TStep) (b1 : List TStep) (r : Bool) (h : w_eqStepS b0 b1 = some r) : PC Tryz.prog 86 [.slice (b0.map eTStep), .slice (b1.map eTStep)] (bool r) := by
 unfold w_eqStepS at h
 refine PC.start Tryz.func86 Tryz.ntmps86 rfl ok86 rfl ?_
 refine Run.sr ?_
 refine X.an ?_
 refine Run.seq ?_
 refine Run.sr ?_
 refine X.mv ?_
 refine X.ls elt90 ?_
 refine X.mv ?_
 refine X.ls elt90 ?_
 refine X.bi ?_
 refine X.nil ?_
 refine R.cd (fun hc1 => ?_) (fun hc1 => ?_)
 ·replace h := condT hc1 h
  refine Run.sr ?_
  refine X.an ?_
  cases h
  refine R.f1 Tryz.results86 ?_
  rfl
 ·replace h := condF hc1 h
  refine Run.skip ?_
  refine Run.seq ?_
  refine Run.sr ?_
  refine X.an ?_
  obtain ⟨o2, ho2, h⟩ := bindE h
  refine R.join2 (β := Unit) [] [] (fun p16 S => S) (fun p16 M => M) (fun p16 => (Sum.inl p16) = o2) ?_ ?_
  ·intro JJ5 hmeet4
   have hup3 := h; clear h; have h := ho2; clear ho2
   refine Run.block ?_
   refine R.bndS (t := 0) (by rfl) (fun hbd8 => ?_)
   replace hbd8 : b0.length ≤ 9223372036854775807 := by first | (rw [List.length_map] at hbd8; exact hbd8) | simp
   refine R.lp (β := Int) [(0, .slice (b0.map eTStep)), (1, .slice (b1.map eTStep))] [] (fun bb S => (5, int bb) :: S) (fun bb M => M) (fun n bb => 0 ≤ bb ∧ bb + n = (b0.length : Int) ∧ w_eqStepS_L1 b1 (b0.drop bb.toNat) bb = some o2) b0.length (0 : Int) ⟨Int.le_refl _, by simp, h⟩ ?_
   clear h
   rintro JJ8 n8 z9 hag8 ⟨hza8, hzb8, h⟩
   refine Run.seq ?_
   refine Run.sr ?_
   refine X.mv ?_
   refine X.mv ?_
   refine X.ls elt90 ?_
   refine X.bi ?_
   refine X.nil ?_
   refine R.cd (fun hc12 => ?_) (fun hc12 => ?_)
   ·obtain ⟨x10, xs11, hd8, hx8, hds8, hlt8⟩ := drop_atI hza8 hc12
    rw [hd8] at h
    rw [w_eqStepS_L1] at h
    refine Run.skip ?_
    refine Run.seq ?_
    refine Run.block ?_
    refine Run.seq ?_
    refine Run.draw (footOf []) mixed (by kernel_rfl) (by kernel_rfl) ?_
    refine X.mv ?_
    refine X.mv ?_
    refine X.ix elt90 (idxL_spec hx8).1 (idxL_map eTStep hx8) ?_
    refine X.lc shp117 ?_
    refine X.mv ?_
    refine X.mv ?_
    obtain ⟨v13, hv13, h⟩ := bindE h
    refine X.ix elt90 (idxL_spec hv13).1 (idxL_map eTStep hv13) ?_
    refine X.lc shp117 ?_
    obtain ⟨v14, hv14, h⟩ := bindE h
    refine X.cp (w_eqStep_pc _ _ _ hv14) ?_
    refine X.un (by rfl) (by rfl) (by rfl) ?_
    refine X.nil ?_
    refine R.cd (fun hc15 => ?_) (fun hc15 => ?_)
    ·replace h := condT hc15 h
     refine Run.sr ?_
     refine X.an ?_
     cases h
     have h := hup3
     replace h := elimR h
     cases h
     refine R.f1 Tryz.results86 ?_
     rfl
    ·replace h := condF hc15 h
     refine Run.skip ?_
     refine Run.blk ?_
     refine Run.reg ?_
     refine X.mv ?_
     refine X.ad ?_
     refine X.an ?_
     exact R.ag hag8 (n8 - 1) (z9 + 1) (R.n3 (by first | (rw [hds8]; exact h) | (dsimp only; rw [hds8]; exact h)))
   ·rw [drop_endI hza8 hc12] at h
    rw [w_eqStepS_L1] at h
    refine Run.exit (by rfl) ?_
    exact R.mt hmeet4 () (Option.some.inj h)
  rintro p16 rfl
  replace h := elimL h
  refine Run.sr ?_
  refine X.an ?_
  cases h
  refine R.f1 Tryz.results86 ?_
  rfl
theorem w_eqResource_pc (b0 : TResource) (b1 : TResource) (r : Bool) (h : w_eqResource b0 b1 = some r) : PC Tryz.prog 63 [eTResource b0, eTResource b1] (bool r) := by
 unfold w_eqResource at h
 refine PC.start Tryz.func63 Tryz.ntmps63 rfl ok63 rfl ?_
 refine Run.sr ?_
 refine X.bx ?_
 refine X.bx ?_
 refine X.an ?_
 refine Run.seq ?_
 refine Run.sr ?_
 refine X.fl fld92_0 ?_
 refine X.ld shp90 ?_
 refine X.fl fld92_0 ?_
 refine X.ld shp90 ?_
 obtain ⟨v1, hv1, h⟩ := bindE h
 refine X.cp (w_eqStepS_pc _ _ _ hv1) ?_
 refine X.un (by rfl) (by rfl) (by rfl) ?_
 refine X.nil ?_
 refine R.cd (fun hc2 => ?_) (fun hc2 => ?_)
 ·replace h := condT hc2 h
  refine Run.sr ?_
  refine X.an ?_
  cases h
  refine R.f1 Tryz.results63 ?_
  rfl
 ·replace h := condF hc2 h
  refine Run.skip ?_
  refine Run.seq ?_
  refine Run.sr ?_
  refine X.fl fld92_1 ?_
  refine X.ld shp28 ?_
  refine X.fl fld92_1 ?_
  refine X.ld shp28 ?_
  obtain ⟨v3, hv3, h⟩ := bindE h
  refine X.cp (w_eqIntSS_pc _ _ _ hv3) ?_
  refine X.un (by rfl) (by rfl) (by rfl) ?_
  refine X.nil ?_
  refine R.cd (fun hc4 => ?_) (fun hc4 => ?_)
  ·replace h := condT hc4 h
   refine Run.sr ?_
   refine X.an ?_
   cases h
   refine R.f1 Tryz.results63 ?_
   rfl
  ·replace h := condF hc4 h
   refine Run.skip ?_
   refine Run.sr ?_
   refine X.an ?_
   cases h
   refine R.f1 Tryz.results63 ?_
   rfl
theorem w_eqResourceS_pc (b0 : List TResource) (b1 : List TResource) (r : Bool) (h : w_eqResourceS b0 b1 = some r) : PC Tryz.prog 39 [.slice (b0.map eTResource), .slice (b1.map eTResource)] (bool r) := by
 unfold w_eqResourceS at h
 refine PC.start Tryz.func39 Tryz.ntmps39 rfl ok39 rfl ?_
 refine Run.sr ?_
 refine X.an ?_
 refine Run.seq ?_
 refine Run.sr ?_
 refine X.mv ?_
 refine X.ls elt36 ?_
 refine X.mv ?_
 refine X.ls elt36 ?_
 refine X.bi ?_
 refine X.nil ?_
 refine R.cd (fun hc1 => ?_) (fun hc1 => ?_)
 ·replace h := condT hc1 h
  refine Run.sr ?_
  refine X.an ?_
  cases h
  refine R.f1 Tryz.results39 ?_
  rfl
 ·replace h := condF hc1 h
  refine Run.skip ?_
  refine Run.seq ?_
  refine Run.sr ?_
  refine X.an ?_
  obtain ⟨o2, ho2, h⟩ := bindE h
  refine R.join2 (β := Unit) [] [] (fun p16 S => S) (fun p16 M => M) (fun p16 => (Sum.inl p16) = o2) ?_ ?_
  ·intro JJ5 hmeet4
   have hup3 := h; clear h; have h := ho2; clear ho2
   refine Run.block ?_
   refine R.bndS (t := 0) (by rfl) (fun hbd8 => ?_)
   replace hbd8 : b0.length ≤ 9223372036854775807 := by first | (rw [List.length_map] at hbd8; exact hbd8) | simp
   refine R.lp (β := Int) [(0, .slice (b0.map eTResource)), (1, .slice (b1.map eTResource))] [] (fun bb S => (5, int bb) :: S) (fun bb M => M) (fun n bb => 0 ≤ bb ∧ bb + n = (b0.length : Int) ∧ w_eqResourceS_L1 b1 (b0.drop bb.toNat) bb = some o2) b0.length (0 : Int) ⟨Int.le_refl _, by simp, h⟩ ?_
   clear h
   rintro JJ8 n8 z9 hag8 ⟨hza8, hzb8, h⟩
   refine Run.seq ?_
   refine Run.sr ?_
   refine X.mv ?_
   refine X.mv ?_
   refine X.ls elt36 ?_
   refine X.bi ?_
   refine X.nil ?_
   refine R.cd (fun hc12 => ?_) (fun hc12 => ?_)
   ·obtain ⟨x10, xs11, hd8, hx8, hds8, hlt8⟩ := drop_atI hza8 hc12
    rw [hd8] at h
    rw [w_eqResourceS_L1] at h
    refine Run.skip ?_
    refine Run.seq ?_
    refine Run.block ?_
    refine Run.seq ?_
    refine Run.draw (footOf []) mixed (by kernel_rfl) (by kernel_rfl) ?_
    refine X.mv ?_
    refine X.mv ?_
    refine X.ix elt36 (idxL_spec hx8).1 (idxL_map eTResource hx8) ?_
    refine X.lc shp92 ?_
    refine X.mv ?_
    refine X.mv ?_
    obtain ⟨v13, hv13, h⟩ := bindE h
    refine X.ix elt36 (idxL_spec hv13).1 (idxL_map eTResource hv13) ?_
    refine X.lc shp92 ?_
    obtain ⟨v14, hv14, h⟩ := bindE h
    refine X.cp (w_eqResource_pc _ _ _ hv14) ?_
    refine X.un (by rfl) (by rfl) (by rfl) ?_
    refine X.nil ?_
    refine R.cd (fun hc15 => ?_) (fun hc15 => ?_)
    ·replace h := condT hc15 h
     refine Run.sr ?_
     refine X.an ?_
     cases h
     have h := hup3
     replace h := elimR h
     cases h
     refine R.f1 Tryz.results39 ?_
     rfl
    ·replace h := condF hc15 h
     refine Run.skip ?_
     refine Run.blk ?_
     refine Run.reg ?_
     refine X.mv ?_
     refine X.ad ?_
     refine X.an ?_
     exact R.ag hag8 (n8 - 1) (z9 + 1) (R.n3 (by first | (rw [hds8]; exact h) | (dsimp only; rw [hds8]; exact h)))
   ·rw [drop_endI hza8 hc12] at h
    rw [w_eqResourceS_L1] at h
    refine Run.exit (by rfl) ?_
    exact R.mt hmeet4 () (Option.some.inj h)
  rintro p16 rfl
  replace h := elimL h
  refine Run.sr ?_
  refine X.an ?_
  cases h
  refine R.f1 Tryz.results39 ?_
  rfl
theorem w_eqProject_pc (b0 : TProject) (b1 : TProject) (r : Bool) (h : w_eqProject b0 b1 = some r) : PC Tryz.prog 11 [eTProject b0, eTProject b1] (bool r) := by
 unfold w_eqProject at h
 refine PC.start Tryz.func11 Tryz.ntmps11 rfl ok11 rfl ?_
 refine Run.sr ?_
 refine X.bx ?_
 refine X.bx ?_
 refine X.an ?_
 refine Run.seq ?_
 refine Run.sr ?_
 refine X.fl fld38_0 ?_
 refine X.ld shp3 ?_
 refine X.fl fld38_0 ?_
 refine X.ld shp3 ?_
 refine X.bi ?_
 refine X.nil ?_
 refine R.cd (fun hc1 => ?_) (fun hc1 => ?_)
 ·replace h := condT hc1 h
  refine Run.sr ?_
  refine X.an ?_
  cases h
  refine R.f1 Tryz.results11 ?_
  rfl
 ·replace h := condF hc1 h
  refine Run.skip ?_
  refine Run.seq ?_
  refine Run.sr ?_
  refine X.fl fld38_1 ?_
  refine X.ld shp34 ?_
  refine X.fl fld38_1 ?_
  refine X.ld shp34 ?_
  obtain ⟨v2, hv2, h⟩ := bindE h
  refine X.cp (w_eqActivityS_pc _ _ _ hv2) ?_
  refine X.un (by rfl) (by rfl) (by rfl) ?_
  refine X.nil ?_
  refine R.cd (fun hc3 => ?_) (fun hc3 => ?_)
  ·replace h := condT hc3 h
   refine Run.sr ?_
   refine X.an ?_
   cases h
   refine R.f1 Tryz.results11 ?_
   rfl
  ·replace h := condF hc3 h
   refine Run.skip ?_
   refine Run.seq ?_
   refine Run.sr ?_
   refine X.fl fld38_2 ?_
   refine X.ld shp35 ?_
   refine X.fl fld38_2 ?_
   refine X.ld shp35 ?_
   obtain ⟨v4, hv4, h⟩ := bindE h
   refine X.cp (w_eqLinkS_pc _ _ _ hv4) ?_
   refine X.un (by rfl) (by rfl) (by rfl) ?_
   refine X.nil ?_
   refine R.cd (fun hc5 => ?_) (fun hc5 => ?_)
   ·replace h := condT hc5 h
    refine Run.sr ?_
    refine X.an ?_
    cases h
    refine R.f1 Tryz.results11 ?_
    rfl
   ·replace h := condF hc5 h
    refine Run.skip ?_
    refine Run.seq ?_
    refine Run.sr ?_
    refine X.fl fld38_3 ?_
    refine X.ld shp36 ?_
    refine X.fl fld38_3 ?_
    refine X.ld shp36 ?_
    obtain ⟨v6, hv6, h⟩ := bindE h
    refine X.cp (w_eqResourceS_pc _ _ _ hv6) ?_
    refine X.un (by rfl) (by rfl) (by rfl) ?_
    refine X.nil ?_
    refine R.cd (fun hc7 => ?_) (fun hc7 => ?_)
    ·replace h := condT hc7 h
     refine Run.sr ?_
     refine X.an ?_
     cases h
     refine R.f1 Tryz.results11 ?_
     rfl
    ·replace h := condF hc7 h
     refine Run.skip ?_
     refine Run.seq ?_
     refine Run.sr ?_
     refine X.fl fld38_4 ?_
     refine X.ld shp25 ?_
     refine X.fl fld38_4 ?_
     refine X.ld shp25 ?_
     obtain ⟨v8, hv8, h⟩ := bindE h
     refine X.cp (w_eqIntS_pc _ _ _ hv8) ?_
     refine X.un (by rfl) (by rfl) (by rfl) ?_
     refine X.nil ?_
     refine R.cd (fun hc9 => ?_) (fun hc9 => ?_)
     ·replace h := condT hc9 h
      refine Run.sr ?_
      refine X.an ?_
      cases h
      refine R.f1 Tryz.results11 ?_
      rfl
     ·replace h := condF hc9 h
      refine Run.skip ?_
      refine Run.sr ?_
      refine X.an ?_
      cases h
      refine R.f1 Tryz.results11 ?_
      rfl
theorem w_eqDomain_pc (b0 : TDomain) (b1 : TDomain) (r : Bool) (h : w_eqDomain b0 b1 = some r) : PC Tryz.prog 12 [eTDomain b0, eTDomain b1] (bool r) := by
 unfold w_eqDomain at h
 refine PC.start Tryz.func12 Tryz.ntmps12 rfl ok12 rfl ?_
 refine Run.sr ?_
 refine X.bx ?_
 refine X.bx ?_
 refine X.an ?_
 refine Run.seq ?_
 refine Run.sr ?_
 refine X.fl fld40_0 ?_
 refine X.ld shp25 ?_
 refine X.fl fld40_0 ?_
 refine X.ld shp25 ?_
 obtain ⟨v1, hv1, h⟩ := bindE h
 refine X.cp (w_eqIntS_pc _ _ _ hv1) ?_
 refine X.un (by rfl) (by rfl) (by rfl) ?_
 refine X.nil ?_
 refine R.cd (fun hc2 => ?_) (fun hc2 => ?_)
 ·replace h := condT hc2 h
  refine Run.sr ?_
  refine X.an ?_
  cases h
  refine R.f1 Tryz.results12 ?_
  rfl
 ·replace h := condF hc2 h
  refine Run.skip ?_
  refine Run.seq ?_
  refine Run.sr ?_
  refine X.fl fld40_1 ?_
  refine X.ld shp25 ?_
  refine X.fl fld40_1 ?_
  refine X.ld shp25 ?_
  obtain ⟨v3, hv3, h⟩ := bindE h
  refine X.cp (w_eqIntS_pc _ _ _ hv3) ?_
  refine X.un (by rfl) (by rfl) (by rfl) ?_
  refine X.nil ?_
  refine R.cd (fun hc4 => ?_) (fun hc4 => ?_)
  ·replace h := condT hc4 h
   refine Run.sr ?_
   refine X.an ?_
   cases h
   refine R.f1 Tryz.results12 ?_
   rfl
  ·replace h := condF hc4 h
   refine Run.skip ?_
   refine Run.seq ?_
   refine Run.sr ?_
   refine X.fl fld40_2 ?_
   refine X.ld shp28 ?_
   refine X.fl fld40_2 ?_
   refine X.ld shp28 ?_
   obtain ⟨v5, hv5, h⟩ := bindE h
   refine X.cp (w_eqIntSS_pc _ _ _ hv5) ?_
   refine X.un (by rfl) (by rfl) (by rfl) ?_
   refine X.nil ?_
   refine R.cd (fun hc6 => ?_) (fun hc6 => ?_)
   ·replace h := condT hc6 h
    refine Run.sr ?_
    refine X.an ?_
    cases h
    refine R.f1 Tryz.results12 ?_
    rfl
   ·replace h := condF hc6 h
    refine Run.skip ?_
    refine Run.sr ?_
    refine X.an ?_
    cases h
    refine R.f1 Tryz.results12 ?_
    rfl
theorem w_markText_pc (b0 : Int) (r : ByteArray) (h : w_markText b0 = some r) : PC Tryz.prog 64 [int b0] (str r) := by
 unfold w_markText at h
 refine PC.start Tryz.func64 Tryz.ntmps64 rfl ok64 rfl ?_
 refine Run.sr ?_
 refine X.an ?_
 refine Run.seq ?_
 refine Run.sr ?_
 refine X.mv ?_
 refine X.bi ?_
 refine X.nil ?_
 refine R.cd (fun hc1 => ?_) (fun hc1 => ?_)
 ·replace h := condT hc1 h
  refine Run.sr ?_
  refine X.an ?_
  cases h
  refine R.f1 Tryz.results64 ?_
  rfl
 ·replace h := condF hc1 h
  refine Run.skip ?_
  refine Run.sr ?_
  refine X.an ?_
  refine Run.seq ?_
  obtain ⟨o2, ho2, h⟩ := bindE h
  refine R.join2 (β := ByteArray) [] [] (fun p13 S => (3, str p13) :: S) (fun p13 M => M) (fun p13 => p13 = o2) ?_ ?_
  ·intro JJ5 hmeet4
   have hup3 := h; clear h; have h := ho2; clear ho2
   refine Run.block ?_
   refine R.lp (β := Int × ByteArray) [] [] (fun bb S => (0, int bb.1) :: (3, str bb.2) :: S) (fun bb M => M) (fun n bb => w_markText_L1 n bb.1 bb.2 = some o2) F0 (b0, ByteArray.empty) h ?_
   clear h
   rintro JJ5 n5 ⟨a7, a8⟩ hag5 h
   dsimp only at h
   obtain _ | n5 := n5
   ·exact absurd h (by simp [w_markText_L1])
   rw [w_markText_L1] at h
   refine Run.seq ?_
   refine Run.sr ?_
   refine X.mv ?_
   refine X.bi ?_
   refine X.nil ?_
   refine R.cd (fun hc11 => ?_) (fun hc11 => ?_)
   ·replace h := condT hc11 h
    refine Run.skip ?_
    refine Run.block ?_
    refine Run.sr ?_
    refine X.mv ?_
    refine X.bi ?_
    refine X.addW (by rfl) (by rfl) (by rfl) ?_
    refine X.conv Tryz.underlying5 (by rw [Tryz.underlying3]; rfl) (by rfl) (by rfl) ?_
    refine X.buildSlice false elt115 zer5 (by rfl) (by rfl) (by rfl) (by rfl) (by rfl) (by rfl) (by repeat (first | trivial | refine ⟨by first | rfl | simp [setL], ?_⟩)) (allSz_spec (by rfl)) (by rfl) (by rfl) (by rfl) ?_
    refine X.convBS ([(IntKind.u8.wrap (W (48 + (a7.tmod 10))))] : List Int) Tryz.underlying115 Tryz.underlying5 Tryz.underlying9 (by rfl) (.own _ _ _ _ _ _ (look_mem (by rfl)) (by first | rfl | simp [setL] | omega)) (by rfl) (by rfl) (by rfl) ?_
    refine X.mv ?_
    obtain ⟨v12, hv12, h⟩ := bindE h
    refine X.cat2 hv12 (by rfl) (by rfl) (by rfl) ?_
    refine X.an ?_
    refine Run.reg ?_
    refine X.mv ?_
    refine X.bi ?_
    refine X.an ?_
    refine Run.blk ?_
    exact hag5 n5 ((W (a7.tdiv 10)), v12) _ _ (by omega) h (by repeat (first | trivial | refine ⟨by first | rfl | simp [setL], ?_⟩)) (by repeat (first | trivial | refine ⟨by first | rfl | simp [setL], ?_⟩)) (by rfl) (by rfl)
   ·replace h := condF hc11 h
    refine Run.exit (by rfl) ?_
    exact R.mt hmeet4 a8 (Option.some.inj h)
  rintro p13 rfl
  refine Run.sr ?_
  refine X.mv ?_
  obtain ⟨v14, hv14, h⟩ := bindE h
  refine X.cat2 hv14 (by rfl) (by rfl) (by rfl) ?_
  refine X.an ?_
  cases h
  refine R.f1 Tryz.results64 ?_
  rfl
theorem w_markIntS_k_pc (b0 : List Int) (b1 : Int) (r : Int) (h : w_markIntS_k b0 b1 = some r) : PCM Tryz.prog 43 [.ysk 63 (.slice (b0.map int)), int b1] [(63, .yreg true true)] (int r) [(63, .yreg true true)] := by
 unfold w_markIntS_k at h
 refine PCM.start Tryz.func43 Tryz.ntmps43 rfl ok43 rfl (by rfl) (by rfl) (by rfl) (by rfl) (by rfl) ?_
 refine Run.sr ?_
 refine X.an ?_
 refine Run.seq ?_
 refine Run.sr ?_
 refine X.an ?_
 obtain ⟨o1, ho1, h⟩ := bindE h
 refine R.join2 (β := Int) [] [(63, .yreg true true)] (fun p13 S => (1, int p13) :: S) (fun p13 M => M) (fun p13 => p13 = o1) ?_ ?_
 ·intro JJ4 hmeet3
  have hup2 := h; clear h; have h := ho1; clear ho1
  refine Run.block ?_
  refine R.bndY true 63 (t := 0) (by rfl) (fun hbd7 => ?_)
  replace hbd7 : b0.length ≤ 9223372036854775807 := by first | (rw [List.length_map] at hbd7; exact hbd7) | simp
  refine R.lp (β := Int × Int) [(0, .ysk 63 (.slice (b0.map int)))] [(63, .yreg true true)] (fun bb S => (1, int bb.2) :: (5, int bb.1) :: S) (fun bb M => M) (fun n bb => 0 ≤ bb.1 ∧ bb.1 + n = (b0.length : Int) ∧ w_markIntS_k_L1 (b0.drop bb.1.toNat) bb.1 bb.2 = some o1) b0.length (0, b1) ⟨Int.le_refl _, by simp, h⟩ ?_
  clear h
  rintro JJ7 n7 ⟨z8, a9⟩ hag7 ⟨hza7, hzb7, h⟩
  dsimp only at hza7 hzb7 h
  refine Run.seq ?_
  refine Run.sr ?_
  refine X.mv ?_
  refine X.mv ?_
  refine X.lenY true 63 elt25 (by rfl) (by exact List.length_map ..) (by rfl) ?_
  refine X.bi ?_
  refine X.nil ?_
  refine R.cd (fun hc12 => ?_) (fun hc12 => ?_)
  ·obtain ⟨x10, xs11, hd7, hx7, hds7, hlt7⟩ := drop_atI hza7 hc12
   rw [hd7] at h
   rw [w_markIntS_k_L1] at h
   refine Run.skip ?_
   refine Run.seq ?_
   refine Run.block ?_
   refine Run.sr ?_
   refine X.mv ?_
   refine X.mv ?_
   refine X.mv ?_
   refine X.indexY true 63 elt25 (by rfl) (by rfl) (idxL_spec hx7).1 (idxL_map int hx7) (by rfl) (by rfl) ?_
   refine X.storeY 63 shp3 (by rfl) (by rfl) (by rfl) (by rfl) (by rfl) (by rfl) (by rfl) ?_
   refine X.nil ?_
   refine Run.reg ?_
   refine X.mv ?_
   refine X.addW (by rfl) (by rfl) (by rfl) ?_
   refine X.an ?_
   refine Run.blk ?_
   refine Run.reg ?_
   refine X.mv ?_
   refine X.ad ?_
   refine X.an ?_
   exact R.ag hag7 (n7 - 1) (z8 + 1, (W (a9 + 1))) (R.n3 (by first | (rw [hds7]; exact h) | (dsimp only; rw [hds7]; exact h)))
  ·rw [drop_endI hza7 hc12] at h
   rw [w_markIntS_k_L1] at h
   refine Run.exit (by rfl) ?_
   exact R.mt hmeet3 a9 (Option.some.inj h)
 rintro p13 rfl
 refine Run.sr ?_
 refine X.mv ?_
 refine X.an ?_
 cases h
 exact R.finM1 Tryz.results43 (by rfl) (by rfl) (by repeat (first | exact trivial | refine ⟨by rfl, ?_⟩)) rfl
theorem w_markModeS_k_pc (b0 : List TMode) (b1 : Int) (r : Int) (h : w_markModeS_k b0 b1 = some r) : PCM Tryz.prog 65 [.ysk 63 (.slice (b0.map eTMode)), int b1] [(63, .yreg true true)] (int r) [(63, .yreg true true)] := by
 unfold w_markModeS_k at h
 refine PCM.start Tryz.func65 Tryz.ntmps65 rfl ok65 rfl (by rfl) (by rfl) (by rfl) (by rfl) (by rfl) ?_
 refine Run.sr ?_
 refine X.an ?_
 refine Run.seq ?_
 refine Run.sr ?_
 refine X.an ?_
 obtain ⟨o1, ho1, h⟩ := bindE h
 refine R.join2 (β := Int) [] [(63, .yreg true true)] (fun p15 S => (1, int p15) :: S) (fun p15 M => M) (fun p15 => p15 = o1) ?_ ?_
 ·intro JJ4 hmeet3
  have hup2 := h; clear h; have h := ho1; clear ho1
  refine Run.block ?_
  refine R.bndY true 63 (t := 0) (by rfl) (fun hbd7 => ?_)
  replace hbd7 : b0.length ≤ 9223372036854775807 := by first | (rw [List.length_map] at hbd7; exact hbd7) | simp
  refine R.lp (β := Int × Int) [(0, .ysk 63 (.slice (b0.map eTMode)))] [(63, .yreg true true)] (fun bb S => (1, int bb.2) :: (5, int bb.1) :: S) (fun bb M => M) (fun n bb => 0 ≤ bb.1 ∧ bb.1 + n = (b0.length : Int) ∧ w_markModeS_k_L1 (b0.drop bb.1.toNat) bb.1 bb.2 = some o1) b0.length (0, b1) ⟨Int.le_refl _, by simp, h⟩ ?_
  clear h
  rintro JJ7 n7 ⟨z8, a9⟩ hag7 ⟨hza7, hzb7, h⟩
  dsimp only at hza7 hzb7 h
  refine Run.seq ?_
  refine Run.sr ?_
  refine X.mv ?_
  refine X.mv ?_
  refine X.lenY true 63 elt56 (by rfl) (by exact List.length_map ..) (by rfl) ?_
  refine X.bi ?_
  refine X.nil ?_
  refine R.cd (fun hc12 => ?_) (fun hc12 => ?_)
  ·obtain ⟨x10, xs11, hd7, hx7, hds7, hlt7⟩ := drop_atI hza7 hc12
   rw [hd7] at h
   rw [w_markModeS_k_L1] at h
   refine Run.skip ?_
   refine Run.seq ?_
   refine Run.block ?_
   refine Run.sr ?_
   refine X.mv ?_
   refine X.mv ?_
   refine X.mv ?_
   refine X.indexY true 63 elt56 (by rfl) (by rfl) (idxL_spec hx7).1 (idxL_map eTMode hx7) (by rfl) (by rfl) ?_
   refine X.fieldY true 63 fld83_0 (by rfl) (by rfl) ?_
   refine X.storeY 63 shp3 (by rfl) (by rfl) (by rfl) (by rfl) (by rfl) (by rfl) (by rfl) ?_
   refine X.nil ?_
   refine Run.sr ?_
   refine X.mv ?_
   refine X.addW (by rfl) (by rfl) (by rfl) ?_
   refine X.an ?_
   refine Run.sr ?_
   refine X.mv ?_
   refine X.mv ?_
   refine X.indexY true 63 elt56 (by rfl) (by rfl) (idxL_spec hx7).1 (idxL_map eTMode hx7) (by rfl) (by rfl) ?_
   refine X.fieldY true 63 fld83_1 (by rfl) (by rfl) ?_
   refine X.loadY true 63 shp25 (by rfl) (by rfl) (by rfl) (by rfl) ?_
   refine X.mv ?_
   obtain ⟨v13, hv13, h⟩ := bindE h
   refine X.callM [(63, 63)] (w_markIntS_k_pc _ _ _ hv13) (by rfl) (by rfl) (.yskB 63 (by rfl) (by rfl) (.pureB (by rfl) (by repeat (first | trivial | refine ⟨by first | rfl | simp [setL], ?_⟩)) .nil)) (by rfl) ⟨rfl, rfl, ⟨_, by rfl, by constructor⟩, by constructor, trivial⟩ (by rfl) (by rfl) (by rfl) (by rfl) (by rfl) (by rfl) (by rfl) (by rfl) (by rfl) ?_
   refine X.an ?_
   refine Run.reg ?_
   refine X.mv ?_
   refine X.mv ?_
   refine X.indexY true 63 elt56 (by rfl) (by rfl) (idxL_spec hx7).1 (idxL_map eTMode hx7) (by rfl) (by rfl) ?_
   refine X.fieldY true 63 fld83_2 (by rfl) (by rfl) ?_
   refine X.loadY true 63 shp25 (by rfl) (by rfl) (by rfl) (by rfl) ?_
   refine X.mv ?_
   obtain ⟨v14, hv14, h⟩ := bindE h
   refine X.callM [(63, 63)] (w_markIntS_k_pc _ _ _ hv14) (by rfl) (by rfl) (.yskB 63 (by rfl) (by rfl) (.pureB (by rfl) (by repeat (first | trivial | refine ⟨by first | rfl | simp [setL], ?_⟩)) .nil)) (by rfl) ⟨rfl, rfl, ⟨_, by rfl, by constructor⟩, by constructor, trivial⟩ (by rfl) (by rfl) (by rfl) (by rfl) (by rfl) (by rfl) (by rfl) (by rfl) (by rfl) ?_
   refine X.an ?_
   refine Run.blk ?_
   refine Run.reg ?_
   refine X.mv ?_
   refine X.ad ?_
   refine X.an ?_
   exact R.ag hag7 (n7 - 1) (z8 + 1, v14) (R.n3 (by first | (rw [hds7]; exact h) | (dsimp only; rw [hds7]; exact h)))
  ·rw [drop_endI hza7 hc12] at h
   rw [w_markModeS_k_L1] at h
   refine Run.exit (by rfl) ?_
   exact R.mt hmeet3 a9 (Option.some.inj h)
 rintro p15 rfl
 refine Run.sr ?_
 refine X.mv ?_
 refine X.an ?_
 cases h
 exact R.finM1 Tryz.results65 (by rfl) (by rfl) (by repeat (first | exact trivial | refine ⟨by rfl, ?_⟩)) rfl
theorem w_markActivityS_k_pc (b0 : List TActivity) (b1 : Int) (r : Int) (h : w_markActivityS_k b0 b1 = some r) : PCM Tryz.prog 40 [.ysk 63 (.slice (b0.map eTActivity)), int b1] [(63, .yreg true true)] (int r) [(63, .yreg true true)] := by
 unfold w_markActivityS_k at h
 refine PCM.start Tryz.func40 Tryz.ntmps40 rfl ok40 rfl (by rfl) (by rfl) (by rfl) (by rfl) (by rfl) ?_
 refine Run.sr ?_
 refine X.an ?_
 refine Run.seq ?_
 refine Run.sr ?_
 refine X.an ?_
 obtain ⟨o1, ho1, h⟩ := bindE h
 refine R.join2 (β := Int) [] [(63, .yreg true true)] (fun p15 S => (1, int p15) :: S) (fun p15 M => M) (fun p15 => p15 = o1) ?_ ?_
 ·intro JJ4 hmeet3
  have hup2 := h; clear h; have h := ho1; clear ho1
  refine Run.block ?_
  refine R.bndY true 63 (t := 0) (by rfl) (fun hbd7 => ?_)
  replace hbd7 : b0.length ≤ 9223372036854775807 := by first | (rw [List.length_map] at hbd7; exact hbd7) | simp
  refine R.lp (β := Int × Int) [(0, .ysk 63 (.slice (b0.map eTActivity)))] [(63, .yreg true true)] (fun bb S => (1, int bb.2) :: (5, int bb.1) :: S) (fun bb M => M) (fun n bb => 0 ≤ bb.1 ∧ bb.1 + n = (b0.length : Int) ∧ w_markActivityS_k_L1 (b0.drop bb.1.toNat) bb.1 bb.2 = some o1) b0.length (0, b1) ⟨Int.le_refl _, by simp, h⟩ ?_
  clear h
  rintro JJ7 n7 ⟨z8, a9⟩ hag7 ⟨hza7, hzb7, h⟩
  dsimp only at hza7 hzb7 h
  refine Run.seq ?_
  refine Run.sr ?_
  refine X.mv ?_
  refine X.mv ?_
  refine X.lenY true 63 elt34 (by rfl) (by exact List.length_map ..) (by rfl) ?_
  refine X.bi ?_
  refine X.nil ?_
  refine R.cd (fun hc12 => ?_) (fun hc12 => ?_)
  ·obtain ⟨x10, xs11, hd7, hx7, hds7, hlt7⟩ := drop_atI hza7 hc12
   rw [hd7] at h
   rw [w_markActivityS_k_L1] at h
   refine Run.skip ?_
   refine Run.seq ?_
   refine Run.block ?_
   refine Run.sr ?_
   refine X.mv ?_
   refine X.mv ?_
   refine X.mv ?_
   obtain ⟨v13, hv13, h⟩ := bindE h
   refine X.cp (w_markText_pc _ _ hv13) ?_
   refine X.indexY true 63 elt34 (by rfl) (by rfl) (idxL_spec hx7).1 (idxL_map eTActivity hx7) (by rfl) (by rfl) ?_
   refine X.fieldY true 63 fld58_0 (by rfl) (by rfl) ?_
   refine X.storeY 63 shp9 (by rfl) (by rfl) (by rfl) (by rfl) (by rfl) (by rfl) (by rfl) ?_
   refine X.nil ?_
   refine Run.sr ?_
   refine X.mv ?_
   refine X.addW (by rfl) (by rfl) (by rfl) ?_
   refine X.an ?_
   refine Run.sr ?_
   refine X.mv ?_
   refine X.mv ?_
   refine X.mv ?_
   refine X.indexY true 63 elt34 (by rfl) (by rfl) (idxL_spec hx7).1 (idxL_map eTActivity hx7) (by rfl) (by rfl) ?_
   refine X.fieldY true 63 fld58_1 (by rfl) (by rfl) ?_
   refine X.storeY 63 shp3 (by rfl) (by rfl) (by rfl) (by rfl) (by rfl) (by rfl) (by rfl) ?_
   refine X.nil ?_
   refine Run.sr ?_
   refine X.mv ?_
   refine X.addW (by rfl) (by rfl) (by rfl) ?_
   refine X.an ?_
   refine Run.reg ?_
   refine X.mv ?_
   refine X.mv ?_
   refine X.indexY true 63 elt34 (by rfl) (by rfl) (idxL_spec hx7).1 (idxL_map eTActivity hx7) (by rfl) (by rfl) ?_
   refine X.fieldY true 63 fld58_2 (by rfl) (by rfl) ?_
   refine X.loadY true 63 shp56 (by rfl) (by rfl) (by rfl) (by rfl) ?_
   refine X.mv ?_
   obtain ⟨v14, hv14, h⟩ := bindE h
   refine X.callM [(63, 63)] (w_markModeS_k_pc _ _ _ hv14) (by rfl) (by rfl) (.yskB 63 (by rfl) (by rfl) (.pureB (by rfl) (by repeat (first | trivial | refine ⟨by first | rfl | simp [setL], ?_⟩)) .nil)) (by rfl) ⟨rfl, rfl, ⟨_, by rfl, by constructor⟩, by constructor, trivial⟩ (by rfl) (by rfl) (by rfl) (by rfl) (by rfl) (by rfl) (by rfl) (by rfl) (by rfl) ?_
   refine X.an ?_
   refine Run.blk ?_
   refine Run.reg ?_
   refine X.mv ?_
   refine X.ad ?_
   refine X.an ?_
   exact R.ag hag7 (n7 - 1) (z8 + 1, v14) (R.n3 (by first | (rw [hds7]; exact h) | (dsimp only; rw [hds7]; exact h)))
  ·rw [drop_endI hza7 hc12] at h
   rw [w_markActivityS_k_L1] at h
   refine Run.exit (by rfl) ?_
   exact R.mt hmeet3 a9 (Option.some.inj h)
 rintro p15 rfl
 refine Run.sr ?_
 refine X.mv ?_
 refine X.an ?_
 cases h
 exact R.finM1 Tryz.results40 (by rfl) (by rfl) (by repeat (first | exact trivial | refine ⟨by rfl, ?_⟩)) rfl
theorem w_markLinkS_k_pc (b0 : List TLink) (b1 : Int) (r : Int) (h : w_markLinkS_k b0 b1 = some r) : PCM Tryz.prog 41 [.ysk 63 (.slice (b0.map eTLink)), int b1] [(63, .yreg true true)] (int r) [(63, .yreg true true)] := by
 unfold w_markLinkS_k at h
 refine PCM.start Tryz.func41 Tryz.ntmps41 rfl ok41 rfl (by rfl) (by rfl) (by rfl) (by rfl) (by rfl) ?_
 refine Run.sr ?_
 refine X.an ?_
 refine Run.seq ?_
 refine Run.sr ?_
 refine X.an ?_
 obtain ⟨o1, ho1, h⟩ := bindE h
 refine R.join2 (β := Int) [] [(63, .yreg true true)] (fun p13 S => (1, int p13) :: S) (fun p13 M => M) (fun p13 => p13 = o1) ?_ ?_
 ·intro JJ4 hmeet3
  have hup2 := h; clear h; have h := ho1; clear ho1
  refine Run.block ?_
  refine R.bndY true 63 (t := 0) (by rfl) (fun hbd7 => ?_)
  replace hbd7 : b0.length ≤ 9223372036854775807 := by first | (rw [List.length_map] at hbd7; exact hbd7) | simp
  refine R.lp (β := Int × Int) [(0, .ysk 63 (.slice (b0.map eTLink)))] [(63, .yreg true true)] (fun bb S => (1, int bb.2) :: (5, int bb.1) :: S) (fun bb M => M) (fun n bb => 0 ≤ bb.1 ∧ bb.1 + n = (b0.length : Int) ∧ w_markLinkS_k_L1 (b0.drop bb.1.toNat) bb.1 bb.2 = some o1) b0.length (0, b1) ⟨Int.le_refl _, by simp, h⟩ ?_
  clear h
  rintro JJ7 n7 ⟨z8, a9⟩ hag7 ⟨hza7, hzb7, h⟩
  dsimp only at hza7 hzb7 h
  refine Run.seq ?_
  refine Run.sr ?_
  refine X.mv ?_
  refine X.mv ?_
  refine X.lenY true 63 elt35 (by rfl) (by exact List.length_map ..) (by rfl) ?_
  refine X.bi ?_
  refine X.nil ?_
  refine R.cd (fun hc12 => ?_) (fun hc12 => ?_)
  ·obtain ⟨x10, xs11, hd7, hx7, hds7, hlt7⟩ := drop_atI hza7 hc12
   rw [hd7] at h
   rw [w_markLinkS_k_L1] at h
   refine Run.skip ?_
   refine Run.seq ?_
   refine Run.block ?_
   refine Run.sr ?_
   refine X.mv ?_
   refine X.mv ?_
   refine X.mv ?_
   refine X.indexY true 63 elt35 (by rfl) (by rfl) (idxL_spec hx7).1 (idxL_map eTLink hx7) (by rfl) (by rfl) ?_
   refine X.fieldY true 63 fld87_0 (by rfl) (by rfl) ?_
   refine X.storeY 63 shp3 (by rfl) (by rfl) (by rfl) (by rfl) (by rfl) (by rfl) (by rfl) ?_
   refine X.nil ?_
   refine Run.sr ?_
   refine X.mv ?_
   refine X.addW (by rfl) (by rfl) (by rfl) ?_
   refine X.an ?_
   refine Run.sr ?_
   refine X.mv ?_
   refine X.mv ?_
   refine X.mv ?_
   refine X.indexY true 63 elt35 (by rfl) (by rfl) (idxL_spec hx7).1 (idxL_map eTLink hx7) (by rfl) (by rfl) ?_
   refine X.fieldY true 63 fld87_1 (by rfl) (by rfl) ?_
   refine X.storeY 63 shp3 (by rfl) (by rfl) (by rfl) (by rfl) (by rfl) (by rfl) (by rfl) ?_
   refine X.nil ?_
   refine Run.sr ?_
   refine X.mv ?_
   refine X.addW (by rfl) (by rfl) (by rfl) ?_
   refine X.an ?_
   refine Run.sr ?_
   refine X.mv ?_
   refine X.mv ?_
   refine X.mv ?_
   refine X.bi ?_
   refine X.bi ?_
   refine X.indexY true 63 elt35 (by rfl) (by rfl) (idxL_spec hx7).1 (idxL_map eTLink hx7) (by rfl) (by rfl) ?_
   refine X.fieldY true 63 fld87_2 (by rfl) (by rfl) ?_
   refine X.storeY 63 shp4 (by rfl) (by rfl) (by rfl) (by rfl) (by rfl) (by rfl) (by rfl) ?_
   refine X.nil ?_
   refine Run.sr ?_
   refine X.mv ?_
   refine X.addW (by rfl) (by rfl) (by rfl) ?_
   refine X.an ?_
   refine Run.sr ?_
   refine X.mv ?_
   refine X.mv ?_
   refine X.mv ?_
   refine X.indexY true 63 elt35 (by rfl) (by rfl) (idxL_spec hx7).1 (idxL_map eTLink hx7) (by rfl) (by rfl) ?_
   refine X.fieldY true 63 fld87_3 (by rfl) (by rfl) ?_
   refine X.storeY 63 shp3 (by rfl) (by rfl) (by rfl) (by rfl) (by rfl) (by rfl) (by rfl) ?_
   refine X.nil ?_
   refine Run.reg ?_
   refine X.mv ?_
   refine X.addW (by rfl) (by rfl) (by rfl) ?_
   refine X.an ?_
   refine Run.blk ?_
   refine Run.reg ?_
   refine X.mv ?_
   refine X.ad ?_
   refine X.an ?_
   exact R.ag hag7 (n7 - 1) (z8 + 1, (W ((W ((W ((W (a9 + 1)) + 1)) + 1)) + 1))) (R.n3 (by first | (rw [hds7]; exact h) | (dsimp only; rw [hds7]; exact h)))
  ·rw [drop_endI hza7 hc12] at h
   rw [w_markLinkS_k_L1] at h
   refine Run.exit (by rfl) ?_
   exact R.mt hmeet3 a9 (Option.some.inj h)
 rintro p13 rfl
 refine Run.sr ?_
 refine X.mv ?_
 refine X.an ?_
 cases h
 exact R.finM1 Tryz.results41 (by rfl) (by rfl) (by repeat (first | exact trivial | refine ⟨by rfl, ?_⟩)) rfl
theorem w_markStepS_k_pc (b0 : List TStep) (b1 : Int) (r : Int) (h : w_markStepS_k b0 b1 = some r) : PCM Tryz.prog 66 [.ysk 63 (.slice (b0.map eTStep)), int b1] [(63, .yreg true true)] (int r) [(63, .yreg true true)] := by
 unfold w_markStepS_k at h
 refine PCM.start Tryz.func66 Tryz.ntmps66 rfl ok66 rfl (by rfl) (by rfl) (by rfl) (by rfl) (by rfl) ?_
 refine Run.sr ?_
 refine X.an ?_
 refine Run.seq ?_
 refine Run.sr ?_
 refine X.an ?_
 obtain ⟨o1, ho1, h⟩ := bindE h
 refine R.join2 (β := Int) [] [(63, .yreg true true)] (fun p13 S => (1, int p13) :: S) (fun p13 M => M) (fun p13 => p13 = o1) ?_ ?_
 ·intro JJ4 hmeet3
  have hup2 := h; clear h; have h := ho1; clear ho1
  refine Run.block ?_
  refine R.bndY true 63 (t := 0) (by rfl) (fun hbd7 => ?_)
  replace hbd7 : b0.length ≤ 9223372036854775807 := by first | (rw [List.length_map] at hbd7; exact hbd7) | simp
  refine R.lp (β := Int × Int) [(0, .ysk 63 (.slice (b0.map eTStep)))] [(63, .yreg true true)] (fun bb S => (1, int bb.2) :: (5, int bb.1) :: S) (fun bb M => M) (fun n bb => 0 ≤ bb.1 ∧ bb.1 + n = (b0.length : Int) ∧ w_markStepS_k_L1 (b0.drop bb.1.toNat) bb.1 bb.2 = some o1) b0.length (0, b1) ⟨Int.le_refl _, by simp, h⟩ ?_
  clear h
  rintro JJ7 n7 ⟨z8, a9⟩ hag7 ⟨hza7, hzb7, h⟩
  dsimp only at hza7 hzb7 h
  refine Run.seq ?_
  refine Run.sr ?_
  refine X.mv ?_
  refine X.mv ?_
  refine X.lenY true 63 elt90 (by rfl) (by exact List.length_map ..) (by rfl) ?_
  refine X.bi ?_
  refine X.nil ?_
  refine R.cd (fun hc12 => ?_) (fun hc12 => ?_)
  ·obtain ⟨x10, xs11, hd7, hx7, hds7, hlt7⟩ := drop_atI hza7 hc12
   rw [hd7] at h
   rw [w_markStepS_k_L1] at h
   refine Run.skip ?_
   refine Run.seq ?_
   refine Run.block ?_
   refine Run.sr ?_
   refine X.mv ?_
   refine X.mv ?_
   refine X.mv ?_
   refine X.indexY true 63 elt90 (by rfl) (by rfl) (idxL_spec hx7).1 (idxL_map eTStep hx7) (by rfl) (by rfl) ?_
   refine X.fieldY true 63 fld117_0 (by rfl) (by rfl) ?_
   refine X.storeY 63 shp3 (by rfl) (by rfl) (by rfl) (by rfl) (by rfl) (by rfl) (by rfl) ?_
   refine X.nil ?_
   refine Run.sr ?_
   refine X.mv ?_
   refine X.addW (by rfl) (by rfl) (by rfl) ?_
   refine X.an ?_
   refine Run.sr ?_
   refine X.mv ?_
   refine X.mv ?_
   refine X.mv ?_
   refine X.indexY true 63 elt90 (by rfl) (by rfl) (idxL_spec hx7).1 (idxL_map eTStep hx7) (by rfl) (by rfl) ?_
   refine X.fieldY true 63 fld117_1 (by rfl) (by rfl) ?_
   refine X.storeY 63 shp3 (by rfl) (by rfl) (by rfl) (by rfl) (by rfl) (by rfl) (by rfl) ?_
   refine X.nil ?_
   refine Run.reg ?_
   refine X.mv ?_
   refine X.addW (by rfl) (by rfl) (by rfl) ?_
   refine X.an ?_
   refine Run.blk ?_
   refine Run.reg ?_
   refine X.mv ?_
   refine X.ad ?_
   refine X.an ?_
   exact R.ag hag7 (n7 - 1) (z8 + 1, (W ((W (a9 + 1)) + 1))) (R.n3 (by first | (rw [hds7]; exact h) | (dsimp only; rw [hds7]; exact h)))
  ·rw [drop_endI hza7 hc12] at h
   rw [w_markStepS_k_L1] at h
   refine Run.exit (by rfl) ?_
   exact R.mt hmeet3 a9 (Option.some.inj h)
 rintro p13 rfl
 refine Run.sr ?_
 refine X.mv ?_
 refine X.an ?_
 cases h
 exact R.finM1 Tryz.results66 (by rfl) (by rfl) (by repeat (first | exact trivial | refine ⟨by rfl, ?_⟩)) rfl
theorem w_markIntSS_k_pc (b0 : List (List Int)) (b1 : Int) (r : Int) (h : w_markIntSS_k b0 b1 = some r) : PCM Tryz.prog 15 [.ysk 63 (.slice (b0.map l_int)), int b1] [(63, .yreg true true)] (int r) [(63, .yreg true true)] := by
 unfold w_markIntSS_k at h
 refine PCM.start Tryz.func15 Tryz.ntmps15 rfl ok15 rfl (by rfl) (by rfl) (by rfl) (by rfl) (by rfl) ?_
 refine Run.sr ?_
 refine X.an ?_
 refine Run.seq ?_
 refine Run.sr ?_
 refine X.an ?_
 obtain ⟨o1, ho1, h⟩ := bindE h
 refine R.join2 (β := Int) [] [(63, .yreg true true)] (fun p14 S => (1, int p14) :: S) (fun p14 M => M) (fun p14 => p14 = o1) ?_ ?_
 ·intro JJ4 hmeet3
  have hup2 := h; clear h; have h := ho1; clear ho1
  refine Run.block ?_
  refine R.bndY true 63 (t := 0) (by rfl) (fun hbd7 => ?_)
  replace hbd7 : b0.length ≤ 9223372036854775807 := by first | (rw [List.length_map] at hbd7; exact hbd7) | simp
  refine R.lp (β := Int × Int) [(0, .ysk 63 (.slice (b0.map l_int)))] [(63, .yreg true true)] (fun bb S => (1, int bb.2) :: (5, int bb.1) :: S) (fun bb M => M) (fun n bb => 0 ≤ bb.1 ∧ bb.1 + n = (b0.length : Int) ∧ w_markIntSS_k_L1 (b0.drop bb.1.toNat) bb.1 bb.2 = some o1) b0.length (0, b1) ⟨Int.le_refl _, by simp, h⟩ ?_
  clear h
  rintro JJ7 n7 ⟨z8, a9⟩ hag7 ⟨hza7, hzb7, h⟩
  dsimp only at hza7 hzb7 h
  refine Run.seq ?_
  refine Run.sr ?_
  refine X.mv ?_
  refine X.mv ?_
  refine X.lenY true 63 elt28 (by rfl) (by exact List.length_map ..) (by rfl) ?_
  refine X.bi ?_
  refine X.nil ?_
  refine R.cd (fun hc12 => ?_) (fun hc12 => ?_)
  ·obtain ⟨x10, xs11, hd7, hx7, hds7, hlt7⟩ := drop_atI hza7 hc12
   rw [hd7] at h
   rw [w_markIntSS_k_L1] at h
   refine Run.skip ?_
   refine Run.seq ?_
   refine Run.block ?_
   refine Run.reg ?_
   refine X.mv ?_
   refine X.mv ?_
   refine X.indexY true 63 elt28 (by rfl) (by rfl) (idxL_spec hx7).1 (idxL_map l_int hx7) (by rfl) (by rfl) ?_
   refine X.loadY true 63 shp25 (by rfl) (by rfl) (by rfl) (by rfl) ?_
   refine X.mv ?_
   obtain ⟨v13, hv13, h⟩ := bindE h
   refine X.callM [(63, 63)] (w_markIntS_k_pc _ _ _ hv13) (by rfl) (by rfl) (.yskB 63 (by rfl) (by rfl) (.pureB (by rfl) (by repeat (first | trivial | refine ⟨by first | rfl | simp [setL], ?_⟩)) .nil)) (by rfl) ⟨rfl, rfl, ⟨_, by rfl, by constructor⟩, by constructor, trivial⟩ (by rfl) (by rfl) (by rfl) (by rfl) (by rfl) (by rfl) (by rfl) (by rfl) (by rfl) ?_
   refine X.an ?_
   refine Run.blk ?_
   refine Run.reg ?_
   refine X.mv ?_
   refine X.ad ?_
   refine X.an ?_
   exact R.ag hag7 (n7 - 1) (z8 + 1, v13) (R.n3 (by first | (rw [hds7]; exact h) | (dsimp only; rw [hds7]; exact h)))
  ·rw [drop_endI hza7 hc12] at h
   rw [w_markIntSS_k_L1] at h
   refine Run.exit (by rfl) ?_
   exact R.mt hmeet3 a9 (Option.some.inj h)
 rintro p14 rfl
 refine Run.sr ?_
 refine X.mv ?_
 refine X.an ?_
 cases h
 exact R.finM1 Tryz.results15 (by rfl) (by rfl) (by repeat (first | exact trivial | refine ⟨by rfl, ?_⟩)) rfl
theorem w_markResourceS_k_pc (b0 : List TResource) (b1 : Int) (r : Int) (h : w_markResourceS_k b0 b1 = some r) : PCM Tryz.prog 42 [.ysk 63 (.slice (b0.map eTResource)), int b1] [(63, .yreg true true)] (int r) [(63, .yreg true true)] := by
 unfold w_markResourceS_k at h
 refine PCM.start Tryz.func42 Tryz.ntmps42 rfl ok42 rfl (by rfl) (by rfl) (by rfl) (by rfl) (by rfl) ?_
 refine Run.sr ?_
 refine X.an ?_
 refine Run.seq ?_
 refine Run.sr ?_
 refine X.an ?_
 obtain ⟨o1, ho1, h⟩ := bindE h
 refine R.join2 (β := Int) [] [(63, .yreg true true)] (fun p15 S => (1, int p15) :: S) (fun p15 M => M) (fun p15 => p15 = o1) ?_ ?_
 ·intro JJ4 hmeet3
  have hup2 := h; clear h; have h := ho1; clear ho1
  refine Run.block ?_
  refine R.bndY true 63 (t := 0) (by rfl) (fun hbd7 => ?_)
  replace hbd7 : b0.length ≤ 9223372036854775807 := by first | (rw [List.length_map] at hbd7; exact hbd7) | simp
  refine R.lp (β := Int × Int) [(0, .ysk 63 (.slice (b0.map eTResource)))] [(63, .yreg true true)] (fun bb S => (1, int bb.2) :: (5, int bb.1) :: S) (fun bb M => M) (fun n bb => 0 ≤ bb.1 ∧ bb.1 + n = (b0.length : Int) ∧ w_markResourceS_k_L1 (b0.drop bb.1.toNat) bb.1 bb.2 = some o1) b0.length (0, b1) ⟨Int.le_refl _, by simp, h⟩ ?_
  clear h
  rintro JJ7 n7 ⟨z8, a9⟩ hag7 ⟨hza7, hzb7, h⟩
  dsimp only at hza7 hzb7 h
  refine Run.seq ?_
  refine Run.sr ?_
  refine X.mv ?_
  refine X.mv ?_
  refine X.lenY true 63 elt36 (by rfl) (by exact List.length_map ..) (by rfl) ?_
  refine X.bi ?_
  refine X.nil ?_
  refine R.cd (fun hc12 => ?_) (fun hc12 => ?_)
  ·obtain ⟨x10, xs11, hd7, hx7, hds7, hlt7⟩ := drop_atI hza7 hc12
   rw [hd7] at h
   rw [w_markResourceS_k_L1] at h
   refine Run.skip ?_
   refine Run.seq ?_
   refine Run.block ?_
   refine Run.sr ?_
   refine X.mv ?_
   refine X.mv ?_
   refine X.indexY true 63 elt36 (by rfl) (by rfl) (idxL_spec hx7).1 (idxL_map eTResource hx7) (by rfl) (by rfl) ?_
   refine X.fieldY true 63 fld92_0 (by rfl) (by rfl) ?_
   refine X.loadY true 63 shp90 (by rfl) (by rfl) (by rfl) (by rfl) ?_
   refine X.mv ?_
   obtain ⟨v13, hv13, h⟩ := bindE h
   refine X.callM [(63, 63)] (w_markStepS_k_pc _ _ _ hv13) (by rfl) (by rfl) (.yskB 63 (by rfl) (by rfl) (.pureB (by rfl) (by repeat (first | trivial | refine ⟨by first | rfl | simp [setL], ?_⟩)) .nil)) (by rfl) ⟨rfl, rfl, ⟨_, by rfl, by constructor⟩, by constructor, trivial⟩ (by rfl) (by rfl) (by rfl) (by rfl) (by rfl) (by rfl) (by rfl) (by rfl) (by rfl) ?_
   refine X.an ?_
   refine Run.reg ?_
   refine X.mv ?_
   refine X.mv ?_
   refine X.indexY true 63 elt36 (by rfl) (by rfl) (idxL_spec hx7).1 (idxL_map eTResource hx7) (by rfl) (by rfl) ?_
   refine X.fieldY true 63 fld92_1 (by rfl) (by rfl) ?_
   refine X.loadY true 63 shp28 (by rfl) (by rfl) (by rfl) (by rfl) ?_
   refine X.mv ?_
   obtain ⟨v14, hv14, h⟩ := bindE h
   refine X.callM [(63, 63)] (w_markIntSS_k_pc _ _ _ hv14) (by rfl) (by rfl) (.yskB 63 (by rfl) (by rfl) (.pureB (by rfl) (by repeat (first | trivial | refine ⟨by first | rfl | simp [setL], ?_⟩)) .nil)) (by rfl) ⟨rfl, rfl, ⟨_, by rfl, by constructor⟩, by constructor, trivial⟩ (by rfl) (by rfl) (by rfl) (by rfl) (by rfl) (by rfl) (by rfl) (by rfl) (by rfl) ?_
   refine X.an ?_
   refine Run.blk ?_
   refine Run.reg ?_
   refine X.mv ?_
   refine X.ad ?_
   refine X.an ?_
   exact R.ag hag7 (n7 - 1) (z8 + 1, v14) (R.n3 (by first | (rw [hds7]; exact h) | (dsimp only; rw [hds7]; exact h)))
  ·rw [drop_endI hza7 hc12] at h
   rw [w_markResourceS_k_L1] at h
   refine Run.exit (by rfl) ?_
   exact R.mt hmeet3 a9 (Option.some.inj h)
 rintro p15 rfl
 refine Run.sr ?_
 refine X.mv ?_
 refine X.an ?_
 cases h
 exact R.finM1 Tryz.results42 (by rfl) (by rfl) (by repeat (first | exact trivial | refine ⟨by rfl, ?_⟩)) rfl
theorem w_markProject_k_pc (b0 : TProject) (b1 : Int) (r : Int) (h : w_markProject_k b0 b1 = some r) : PCM Tryz.prog 13 [.agg [int b0.Deadline, .ysk 63 (.slice (b0.Activities.map eTActivity)), .ysk 63 (.slice (b0.Links.map eTLink)), .ysk 63 (.slice (b0.Resources.map eTResource)), .ysk 63 (.slice (b0.Stocks.map int))], int b1] [(63, .yreg true true)] (int r) [(63, .yreg true true)] := by
 unfold w_markProject_k at h
 refine PCM.start Tryz.func13 Tryz.ntmps13 rfl ok13 rfl (by rfl) (by rfl) (by rfl) (by rfl) (by rfl) ?_
 refine Run.sr ?_
 refine X.bx ?_
 refine X.an ?_
 refine Run.sr ?_
 refine X.fl fld38_1 ?_
 refine X.ld shp34 ?_
 refine X.mv ?_
 obtain ⟨v1, hv1, h⟩ := bindE h
 refine X.callM [(63, 63)] (w_markActivityS_k_pc _ _ _ hv1) (by rfl) (by rfl) (.yskB 63 (by rfl) (by rfl) (.pureB (by rfl) (by repeat (first | trivial | refine ⟨by first | rfl | simp [setL], ?_⟩)) .nil)) (by rfl) ⟨rfl, rfl, ⟨_, by rfl, by constructor⟩, by constructor, trivial⟩ (by rfl) (by rfl) (by rfl) (by rfl) (by rfl) (by rfl) (by rfl) (by rfl) (by rfl) ?_
 refine X.an ?_
 refine Run.sr ?_
 refine X.fl fld38_2 ?_
 refine X.ld shp35 ?_
 refine X.mv ?_
 obtain ⟨v2, hv2, h⟩ := bindE h
 refine X.callM [(63, 63)] (w_markLinkS_k_pc _ _ _ hv2) (by rfl) (by rfl) (.yskB 63 (by rfl) (by rfl) (.pureB (by rfl) (by repeat (first | trivial | refine ⟨by first | rfl | simp [setL], ?_⟩)) .nil)) (by rfl) ⟨rfl, rfl, ⟨_, by rfl, by constructor⟩, by constructor, trivial⟩ (by rfl) (by rfl) (by rfl) (by rfl) (by rfl) (by rfl) (by rfl) (by rfl) (by rfl) ?_
 refine X.an ?_
 refine Run.sr ?_
 refine X.fl fld38_3 ?_
 refine X.ld shp36 ?_
 refine X.mv ?_
 obtain ⟨v3, hv3, h⟩ := bindE h
 refine X.callM [(63, 63)] (w_markResourceS_k_pc _ _ _ hv3) (by rfl) (by rfl) (.yskB 63 (by rfl) (by rfl) (.pureB (by rfl) (by repeat (first | trivial | refine ⟨by first | rfl | simp [setL], ?_⟩)) .nil)) (by rfl) ⟨rfl, rfl, ⟨_, by rfl, by constructor⟩, by constructor, trivial⟩ (by rfl) (by rfl) (by rfl) (by rfl) (by rfl) (by rfl) (by rfl) (by rfl) (by rfl) ?_
 refine X.an ?_
 refine Run.sr ?_
 refine X.fl fld38_4 ?_
 refine X.ld shp25 ?_
 refine X.mv ?_
 obtain ⟨v4, hv4, h⟩ := bindE h
 refine X.callM [(63, 63)] (w_markIntS_k_pc _ _ _ hv4) (by rfl) (by rfl) (.yskB 63 (by rfl) (by rfl) (.pureB (by rfl) (by repeat (first | trivial | refine ⟨by first | rfl | simp [setL], ?_⟩)) .nil)) (by rfl) ⟨rfl, rfl, ⟨_, by rfl, by constructor⟩, by constructor, trivial⟩ (by rfl) (by rfl) (by rfl) (by rfl) (by rfl) (by rfl) (by rfl) (by rfl) (by rfl) ?_
 refine X.an ?_
 refine Run.sr ?_
 refine X.mv ?_
 refine X.an ?_
 cases h
 exact R.finM1 Tryz.results13 (by rfl) (by rfl) (by repeat (first | exact trivial | refine ⟨by rfl, ?_⟩)) rfl
theorem w_markDomain_k_pc (b0 : TDomain) (b1 : Int) (r : Int) (h : w_markDomain_k b0 b1 = some r) : PCM Tryz.prog 14 [.agg [.ysk 63 (.slice (b0.MinStart.map int)), .ysk 63 (.slice (b0.MaxStart.map int)), .ysk 63 (.slice (b0.Modes.map l_int))], int b1] [(63, .yreg true true)] (int r) [(63, .yreg true true)] := by
 unfold w_markDomain_k at h
 refine PCM.start Tryz.func14 Tryz.ntmps14 rfl ok14 rfl (by rfl) (by rfl) (by rfl) (by rfl) (by rfl) ?_
 refine Run.sr ?_
 refine X.bx ?_
 refine X.an ?_
 refine Run.sr ?_
 refine X.fl fld40_0 ?_
 refine X.ld shp25 ?_
 refine X.mv ?_
 obtain ⟨v1, hv1, h⟩ := bindE h
 refine X.callM [(63, 63)] (w_markIntS_k_pc _ _ _ hv1) (by rfl) (by rfl) (.yskB 63 (by rfl) (by rfl) (.pureB (by rfl) (by repeat (first | trivial | refine ⟨by first | rfl | simp [setL], ?_⟩)) .nil)) (by rfl) ⟨rfl, rfl, ⟨_, by rfl, by constructor⟩, by constructor, trivial⟩ (by rfl) (by rfl) (by rfl) (by rfl) (by rfl) (by rfl) (by rfl) (by rfl) (by rfl) ?_
 refine X.an ?_
 refine Run.sr ?_
 refine X.fl fld40_1 ?_
 refine X.ld shp25 ?_
 refine X.mv ?_
 obtain ⟨v2, hv2, h⟩ := bindE h
 refine X.callM [(63, 63)] (w_markIntS_k_pc _ _ _ hv2) (by rfl) (by rfl) (.yskB 63 (by rfl) (by rfl) (.pureB (by rfl) (by repeat (first | trivial | refine ⟨by first | rfl | simp [setL], ?_⟩)) .nil)) (by rfl) ⟨rfl, rfl, ⟨_, by rfl, by constructor⟩, by constructor, trivial⟩ (by rfl) (by rfl) (by rfl) (by rfl) (by rfl) (by rfl) (by rfl) (by rfl) (by rfl) ?_
 refine X.an ?_
 refine Run.sr ?_
 refine X.fl fld40_2 ?_
 refine X.ld shp28 ?_
 refine X.mv ?_
 obtain ⟨v3, hv3, h⟩ := bindE h
 refine X.callM [(63, 63)] (w_markIntSS_k_pc _ _ _ hv3) (by rfl) (by rfl) (.yskB 63 (by rfl) (by rfl) (.pureB (by rfl) (by repeat (first | trivial | refine ⟨by first | rfl | simp [setL], ?_⟩)) .nil)) (by rfl) ⟨rfl, rfl, ⟨_, by rfl, by constructor⟩, by constructor, trivial⟩ (by rfl) (by rfl) (by rfl) (by rfl) (by rfl) (by rfl) (by rfl) (by rfl) (by rfl) ?_
 refine X.an ?_
 refine Run.sr ?_
 refine X.mv ?_
 refine X.an ?_
 cases h
 exact R.finM1 Tryz.results14 (by rfl) (by rfl) (by repeat (first | exact trivial | refine ⟨by rfl, ?_⟩)) rfl
theorem w_markIntS_pc (b0 : List Int) (b1 : Int) (r : Int × (List Int)) (h : w_markIntS b0 b1 = some r) : PCM Tryz.prog 43 [.own 63 (b0.map int).length, int b1] [(63, .obj true 3 1 (b0.map int))] (int r.1) [(63, .obj true 3 1 (r.2.map int))] := by
 unfold w_markIntS at h
 refine PCM.start Tryz.func43 Tryz.ntmps43 rfl ok43 rfl (by rfl) (by rfl) (by rfl) (by rfl) (by rfl) ?_
 refine Run.sr ?_
 refine X.an ?_
 refine Run.seq ?_
 refine Run.sr ?_
 refine X.an ?_
 obtain ⟨o1, ho1, h⟩ := bindE h
 refine R.join2 (β := Int × (List Int)) [] [] (fun p14 S => (1, int p14.1) :: S) (fun p14 M => (63, .obj true 3 1 (p14.2.map int)) :: M) (fun p14 => p14 = o1) ?_ ?_
 ·intro JJ4 hmeet3
  have hup2 := h; clear h; have h := ho1; clear ho1
  refine Run.block ?_
  refine R.lp (β := Int × Int × (List Int)) [] [] (fun bb S => (0, .own 63 (bb.2.2.map int).length) :: (1, int bb.1) :: (5, int bb.2.1) :: S) (fun bb M => (63, .obj true 3 1 (bb.2.2.map int)) :: M) (fun n bb => w_markIntS_L1 n bb.1 bb.2.1 bb.2.2 = some o1) F0 (b1, 0, b0) h ?_
  clear h
  rintro JJ5 n5 ⟨a7, a8, a9⟩ hag5 h
  dsimp only at h
  obtain _ | n5 := n5
  ·exact absurd h (by simp [w_markIntS_L1])
  rw [w_markIntS_L1] at h
  refine Run.seq ?_
  refine Run.sr ?_
  refine X.mv ?_
  refine X.mv ?_
  refine X.len_o elt25 (by rfl) (by rfl) (by first | rfl | simp [setL] | omega) (by first | exact List.length_map .. | rfl) (by rfl) (by rfl) ?_
  refine X.bi ?_
  refine X.nil ?_
  refine R.cd (fun hc12 => ?_) (fun hc12 => ?_)
  ·replace h := condT hc12 h
   refine Run.skip ?_
   refine Run.seq ?_
   refine Run.block ?_
   refine Run.sr ?_
   refine X.mv ?_
   refine X.mv ?_
   refine X.mv ?_
   obtain ⟨v13, hv13, h⟩ := bindE h
   refine X.index_xs elt25 (by rfl) (by rfl) (by first | rfl | simp [setL] | omega) (by rfl) (by exact (Int.toNat_of_nonneg (idxL_spec hv13).1).symm) (by have := idxL_lt hv13; first | exact this | (rw [List.length_map]; exact this)) (by rfl) (by rfl) ?_
   refine X.store_es shp3 (by rfl) (by rfl) (by first | rfl | simp [setL] | omega) (idxL_map _ hv13) (by rfl) (by rfl) (by repeat (first | trivial | refine ⟨by first | rfl | simp [setL], ?_⟩)) (by rfl) (by rfl) (by rfl) (by rfl) (by exact setL_map _ _ _ a7) ?_
   refine X.nil ?_
   refine Run.reg ?_
   refine X.mv ?_
   refine X.addW (by rfl) (by rfl) (by rfl) ?_
   refine X.an ?_
   refine Run.blk ?_
   refine Run.reg ?_
   refine X.mv ?_
   refine X.addW (by rfl) (by rfl) (by rfl) ?_
   refine X.an ?_
   refine R.castS (t := 0) (.own 63 ((setL a9 a8 a7).map int).length) (by rfl) (.inl (by first | rfl | simp [setL])) ?_
   exact hag5 n5 ((W (a7 + 1)), (W (a8 + 1)), (setL a9 a8 a7)) _ _ (by omega) h (by repeat (first | trivial | refine ⟨by first | rfl | simp [setL], ?_⟩)) (by repeat (first | trivial | refine ⟨by first | rfl | simp [setL], ?_⟩)) (by rfl) (by rfl)
  ·replace h := condF hc12 h
   refine Run.exit (by rfl) ?_
   exact R.mt hmeet3 (a7, a9) (Option.some.inj h)
 rintro p14 rfl
 refine Run.sr ?_
 refine X.mv ?_
 refine X.an ?_
 cases h
 exact R.finM1 Tryz.results43 (by rfl) (by rfl) (by repeat (first | exact trivial | refine ⟨by rfl, ?_⟩)) rfl
theorem w_markIntSS_pc (b0 : List (List Int)) (b1 : Int) (r : Int × (List (List Int))) (h : w_markIntSS b0 b1 = some r) : PCM Tryz.prog 15 [.tref 63 (b0.map t_int).length .out, int b1] [(63, .tre 25 1 (b0.map t_int))] (int r.1) [(63, .tre 25 1 (r.2.map t_int))] := by
 unfold w_markIntSS at h
 refine PCM.start Tryz.func15 Tryz.ntmps15 rfl ok15 rfl (by rfl) (by rfl) (by rfl) (by rfl) (by rfl) ?_
 refine Run.sr ?_
 refine X.an ?_
 refine Run.seq ?_
 refine Run.sr ?_
 refine X.an ?_
 obtain ⟨o1, ho1, h⟩ := bindE h
 refine R.join2 (β := Int × (List (List Int))) [] [] (fun p15 S => (1, int p15.1) :: S) (fun p15 M => (63, .tre 25 1 (p15.2.map t_int)) :: M) (fun p15 => p15 = o1) ?_ ?_
 ·intro JJ4 hmeet3
  have hup2 := h; clear h; have h := ho1; clear ho1
  refine Run.block ?_
  refine R.lp (β := Int × Int × (List (List Int))) [] [] (fun bb S => (0, .tref 63 (bb.2.2.map t_int).length .out) :: (1, int bb.1) :: (5, int bb.2.1) :: S) (fun bb M => (63, .tre 25 1 (bb.2.2.map t_int)) :: M) (fun n bb => w_markIntSS_L1 n bb.1 bb.2.1 bb.2.2 = some o1) F0 (b1, 0, b0) h ?_
  clear h
  rintro JJ5 n5 ⟨a7, a8, a9⟩ hag5 h
  dsimp only at h
  obtain _ | n5 := n5
  ·exact absurd h (by simp [w_markIntSS_L1])
  rw [w_markIntSS_L1] at h
  refine Run.seq ?_
  refine Run.sr ?_
  refine X.mv ?_
  refine X.mv ?_
  refine X.lenT (z := (a9.length : Int)) elt28 (by rfl) (by rfl) (by first | rfl | simp [setL] | omega) (by simp) (by rfl) (by rfl) ?_
  refine X.bi ?_
  refine X.nil ?_
  refine R.cd (fun hc12 => ?_) (fun hc12 => ?_)
  ·replace h := condT hc12 h
   refine Run.skip ?_
   refine Run.seq ?_
   refine Run.block ?_
   refine Run.region ?_
   refine Run.mvo ?_
   refine Run.mvo ?_
   obtain ⟨v13, hv13, h⟩ := bindE h
   refine Run.idxT (m := (a8).toNat) elt28 (by rfl) (by rfl) (by first | rfl | simp [setL] | omega) (by rfl) ⟨(idxL_spec hv13).1, by have h0 := (idxL_spec hv13).1; have h1 := idxL_lt hv13; rw [List.length_map]; (try dsimp only); omega⟩ rfl (by rfl) ?_
   refine Run.ldT shp25 (by rfl) (by rfl) (by first | rfl | simp [setL] | omega) rfl (flat_at2 (by exact cells_map (f := t_int) (fun _ => rfl)) (idxL_map t_int hv13) (by rfl)) (by rfl) ?_
   refine Run.mvo ?_
   obtain ⟨v14, hv14, h⟩ := bindE h
   refine Run.callRow (l2 := (setL a9 a8 v14.2).map t_int) (w_markIntS_pc _ _ _ hv14) (by rfl) rfl (by rfl) (by rfl) (by rfl) (by rfl) (by first | rfl | simp [setL] | omega) (flat_at2 (by exact cells_map (f := t_int) (fun _ => rfl)) (idxL_map t_int hv13) (by rfl)) (flat_lit _ (fun _ => (by repeat (first | exact trivial | refine ⟨trivial, ?_⟩)))) (by rfl) (by simp [setL]) (by exact cells_map (f := t_int) (fun _ => rfl)) (by rw [← setL_map]; exact flat_setC (by exact cells_map (f := t_int) (fun _ => rfl)) (idxL_map t_int hv13) (by rfl) (by decide)) (by rfl) ?_
   refine Run.aso ?_
   refine Run.nil ?_
   refine Run.blk ?_
   refine Run.reg ?_
   refine X.mv ?_
   refine X.addW (by rfl) (by rfl) (by rfl) ?_
   refine X.an ?_
   refine R.castS (t := 0) (.tref 63 ((setL a9 a8 v14.2).map t_int).length .out) (by rfl) (.inl (by first | rfl | simp [setL])) ?_
   exact hag5 n5 (v14.1, (W (a8 + 1)), (setL a9 a8 v14.2)) _ _ (by omega) h (by repeat (first | trivial | refine ⟨by first | rfl | simp [setL], ?_⟩)) (by repeat (first | trivial | refine ⟨by first | rfl | simp [setL], ?_⟩)) (by rfl) (by rfl)
  ·replace h := condF hc12 h
   refine Run.exit (by rfl) ?_
   exact R.mt hmeet3 (a7, a9) (Option.some.inj h)
 rintro p15 rfl
 refine Run.sr ?_
 refine X.mv ?_
 refine X.an ?_
 cases h
 exact R.finM1 Tryz.results15 (by rfl) (by rfl) (by repeat (first | exact trivial | refine ⟨by rfl, ?_⟩)) rfl
theorem w_heldIntS_pc (b0 : List Int) (b1 : Int) (r : Int) (h : w_heldIntS b0 b1 = some r) : PC Tryz.prog 44 [.slice (b0.map int), int b1] (int r) := by
 unfold w_heldIntS at h
 refine PC.start Tryz.func44 Tryz.ntmps44 rfl ok44 rfl ?_
 refine Run.sr ?_
 refine X.an ?_
 refine Run.seq ?_
 refine Run.sr ?_
 refine X.an ?_
 obtain ⟨o1, ho1, h⟩ := bindE h
 refine R.join2 (β := Int) [] [] (fun p14 S => (1, int p14) :: S) (fun p14 M => M) (fun p14 => (Sum.inl p14) = o1) ?_ ?_
 ·intro JJ4 hmeet3
  have hup2 := h; clear h; have h := ho1; clear ho1
  refine Run.block ?_
  refine R.bndS (t := 0) (by rfl) (fun hbd7 => ?_)
  replace hbd7 : b0.length ≤ 9223372036854775807 := by first | (rw [List.length_map] at hbd7; exact hbd7) | simp
  refine R.lp (β := Int × Int) [(0, .slice (b0.map int))] [] (fun bb S => (1, int bb.2) :: (5, int bb.1) :: S) (fun bb M => M) (fun n bb => 0 ≤ bb.1 ∧ bb.1 + n = (b0.length : Int) ∧ w_heldIntS_L1 (b0.drop bb.1.toNat) bb.1 bb.2 = some o1) b0.length (0, b1) ⟨Int.le_refl _, by simp, h⟩ ?_
  clear h
  rintro JJ7 n7 ⟨z8, a9⟩ hag7 ⟨hza7, hzb7, h⟩
  dsimp only at hza7 hzb7 h
  refine Run.seq ?_
  refine Run.sr ?_
  refine X.mv ?_
  refine X.mv ?_
  refine X.ls elt25 ?_
  refine X.bi ?_
  refine X.nil ?_
  refine R.cd (fun hc12 => ?_) (fun hc12 => ?_)
  ·obtain ⟨x10, xs11, hd7, hx7, hds7, hlt7⟩ := drop_atI hza7 hc12
   rw [hd7] at h
   rw [w_heldIntS_L1] at h
   refine Run.skip ?_
   refine Run.seq ?_
   refine Run.block ?_
   refine Run.seq ?_
   refine Run.sr ?_
   refine X.mv ?_
   refine X.mv ?_
   refine X.ix elt25 (idxL_spec hx7).1 (idxL_map int hx7) ?_
   refine X.lc shp3 ?_
   refine X.mv ?_
   refine X.bi ?_
   refine X.nil ?_
   refine R.cd (fun hc13 => ?_) (fun hc13 => ?_)
   ·replace h := condT hc13 h
    refine Run.sr ?_
    refine X.an ?_
    cases h
    have h := hup2
    replace h := elimR h
    cases h
    refine R.f1 Tryz.results44 ?_
    rfl
   ·replace h := condF hc13 h
    refine Run.skip ?_
    refine Run.reg ?_
    refine X.mv ?_
    refine X.addW (by rfl) (by rfl) (by rfl) ?_
    refine X.an ?_
    refine Run.blk ?_
    refine Run.reg ?_
    refine X.mv ?_
    refine X.ad ?_
    refine X.an ?_
    exact R.ag hag7 (n7 - 1) (z8 + 1, (W (a9 + 1))) (R.n3 (by first | (rw [hds7]; exact h) | (dsimp only; rw [hds7]; exact h)))
  ·rw [drop_endI hza7 hc12] at h
   rw [w_heldIntS_L1] at h
   refine Run.exit (by rfl) ?_
   exact R.mt hmeet3 a9 (Option.some.inj h)
 rintro p14 rfl
 replace h := elimL h
 refine Run.sr ?_
 refine X.mv ?_
 refine X.an ?_
 cases h
 refine R.f1 Tryz.results44 ?_
 rfl
theorem w_heldIntSS_pc (b0 : List (List Int)) (b1 : Int) (r : Int) (h : w_heldIntSS b0 b1 = some r) : PC Tryz.prog 16 [.slice (b0.map l_int), int b1] (int r) := by
 unfold w_heldIntSS at h
 refine PC.start Tryz.func16 Tryz.ntmps16 rfl ok16 rfl ?_
 refine Run.sr ?_
 refine X.an ?_
 refine Run.seq ?_
 refine Run.sr ?_
 refine X.an ?_
 obtain ⟨o1, ho1, h⟩ := bindE h
 refine R.join2 (β := Int) [] [] (fun p15 S => (1, int p15) :: S) (fun p15 M => M) (fun p15 => (Sum.inl p15) = o1) ?_ ?_
 ·intro JJ4 hmeet3
  have hup2 := h; clear h; have h := ho1; clear ho1
  refine Run.block ?_
  refine R.bndS (t := 0) (by rfl) (fun hbd7 => ?_)
  replace hbd7 : b0.length ≤ 9223372036854775807 := by first | (rw [List.length_map] at hbd7; exact hbd7) | simp
  refine R.lp (β := Int × Int) [(0, .slice (b0.map l_int))] [] (fun bb S => (1, int bb.2) :: (5, int bb.1) :: S) (fun bb M => M) (fun n bb => 0 ≤ bb.1 ∧ bb.1 + n = (b0.length : Int) ∧ w_heldIntSS_L1 (b0.drop bb.1.toNat) bb.1 bb.2 = some o1) b0.length (0, b1) ⟨Int.le_refl _, by simp, h⟩ ?_
  clear h
  rintro JJ7 n7 ⟨z8, a9⟩ hag7 ⟨hza7, hzb7, h⟩
  dsimp only at hza7 hzb7 h
  refine Run.seq ?_
  refine Run.sr ?_
  refine X.mv ?_
  refine X.mv ?_
  refine X.ls elt28 ?_
  refine X.bi ?_
  refine X.nil ?_
  refine R.cd (fun hc12 => ?_) (fun hc12 => ?_)
  ·obtain ⟨x10, xs11, hd7, hx7, hds7, hlt7⟩ := drop_atI hza7 hc12
   rw [hd7] at h
   rw [w_heldIntSS_L1] at h
   refine Run.skip ?_
   refine Run.seq ?_
   refine Run.block ?_
   refine Run.sr ?_
   refine X.mv ?_
   refine X.mv ?_
   refine X.ix elt28 (idxL_spec hx7).1 (idxL_map l_int hx7) ?_
   refine X.lc shp25 ?_
   refine X.mv ?_
   obtain ⟨v13, hv13, h⟩ := bindE h
   refine X.cp (w_heldIntS_pc _ _ _ hv13) ?_
   refine X.an ?_
   refine Run.sr ?_
   refine X.mv ?_
   refine X.bi ?_
   refine X.nil ?_
   refine R.cd (fun hc14 => ?_) (fun hc14 => ?_)
   ·replace h := condT hc14 h
    refine Run.sr ?_
    refine X.an ?_
    cases h
    have h := hup2
    replace h := elimR h
    cases h
    refine R.f1 Tryz.results16 ?_
    rfl
   ·replace h := condF hc14 h
    refine Run.skip ?_
    refine Run.blk ?_
    refine Run.reg ?_
    refine X.mv ?_
    refine X.ad ?_
    refine X.an ?_
    exact R.ag hag7 (n7 - 1) (z8 + 1, v13) (R.n3 (by first | (rw [hds7]; exact h) | (dsimp only; rw [hds7]; exact h)))
  ·rw [drop_endI hza7 hc12] at h
   rw [w_heldIntSS_L1] at h
   refine Run.exit (by rfl) ?_
   exact R.mt hmeet3 a9 (Option.some.inj h)
 rintro p15 rfl
 replace h := elimL h
 refine Run.sr ?_
 refine X.mv ?_
 refine X.an ?_
 cases h
 refine R.f1 Tryz.results16 ?_
 rfl
theorem w_FnExactIntervals_pc (b0 : TProject) (b1 : TDomain) (r : Bool) (h : w_FnExactIntervals b0 b1 = some r) : PC Tryz.prog 3 [eTProject b0, eTDomain b1] (bool r) := by
 unfold w_FnExactIntervals at h
 refine PC.start Tryz.func3 Tryz.ntmps3 rfl ok3 rfl ?_
 refine Run.sr ?_
 refine X.bx ?_
 refine X.bx ?_
 refine X.an ?_
 refine Run.sr ?_
 refine X.an ?_
 refine Run.sr ?_
 refine X.ld shp27 ?_
 refine X.mv ?_
 obtain ⟨v1, hv1, h⟩ := bindE h
 refine X.cp (w_szProject_pc _ _ _ hv1) ?_
 refine X.an ?_
 refine Run.seq ?_
 refine Run.sr ?_
 refine X.mv ?_
 refine X.bi ?_
 refine X.nil ?_
 refine R.cd (fun hc2 => ?_) (fun hc2 => ?_)
 ·replace h := condT hc2 h
  refine Run.sr ?_
  refine X.an ?_
  cases h
  refine R.f1 Tryz.results3 ?_
  rfl
 ·replace h := condF hc2 h
  refine Run.skip ?_
  refine Run.sr ?_
  refine X.ld shp30 ?_
  refine X.mv ?_
  obtain ⟨v3, hv3, h⟩ := bindE h
  refine X.cp (w_szDomain_pc _ _ _ hv3) ?_
  refine X.an ?_
  refine Run.seq ?_
  refine Run.sr ?_
  refine X.mv ?_
  refine X.bi ?_
  refine X.nil ?_
  refine R.cd (fun hc4 => ?_) (fun hc4 => ?_)
  ·replace h := condT hc4 h
   refine Run.sr ?_
   refine X.an ?_
   cases h
   refine R.f1 Tryz.results3 ?_
   rfl
  ·replace h := condF hc4 h
   refine Run.skip ?_
   refine Run.seq ?_
   refine Run.draw (footOf [(0, ([128], [], [], [])), (1, ([], [1600, 1601, 1602, 1603], [], [])), (2, ([192], [], [], [])), (3, ([], [1728, 1729, 1730], [], [])), (4, ([1600, 1601, 1602, 1603, 1728, 1729, 1730], [1792], [], []))]) mixed (by kernel_rfl) (by kernel_rfl) ?_
   refine X.ld shp27 ?_
   obtain ⟨v5, hv5, h⟩ := bindE h
   refine X.callA (PC.ofY (ps := [eTProject b0]) (w_toProject_pc _ _ hv5) (by rfl) (by rfl)) (by rfl) (by rfl) (by rfl) (by trivial) (by rfl) (by rfl) (by rfl) (by rfl) (by rfl) (by rfl) ?_
   refine X.ld shp30 ?_
   obtain ⟨v6, hv6, h⟩ := bindE h
   refine X.callA (PC.ofY (ps := [eTDomain b1]) (w_toDomain_pc _ _ hv6) (by rfl) (by rfl)) (by rfl) (by rfl) (by rfl) (by trivial) (by rfl) (by rfl) (by rfl) (by rfl) (by rfl) (by rfl) ?_
   obtain ⟨v7, hv7, h⟩ := bindE h
   refine X.callF (s_Intervals_pc _ _ _ hv7) (by rfl) (by rfl) (by rfl) (by repeat (first | trivial | refine ⟨by first | rfl | simp [setL], ?_⟩)) (by rfl) (by rfl) (by rfl) (by rfl) ?_
   refine X.an ?_
   refine Run.sr ?_
   refine X.ld shp27 ?_
   obtain ⟨v8, hv8, h⟩ := bindE h
   refine X.callY (w_toProject_pc _ _ hv8) (by rfl) (by rfl) (by rfl) (by trivial) (by rfl) (by rfl) (by rfl) (by rfl) (by rfl) (by rfl) (by rfl) ?_
   refine X.alloc zer38 (by rfl) (by rfl) (by rfl) ?_
   refine X.sl shp38 ?_
   refine X.nil ?_
   refine Run.sr ?_
   refine X.ld shp30 ?_
   obtain ⟨v9, hv9, h⟩ := bindE h
   refine X.callY (w_toDomain_pc _ _ hv9) (by rfl) (by rfl) (by rfl) (by trivial) (by rfl) (by rfl) (by rfl) (by rfl) (by rfl) (by rfl) (by rfl) ?_
   refine X.alloc zer40 (by rfl) (by rfl) (by rfl) ?_
   refine X.sl shp40 ?_
   refine X.nil ?_
   refine Run.sr ?_
   refine X.ld shp38 ?_
   refine X.ld shp40 ?_
   obtain ⟨v10, hv10, h⟩ := bindE h
   refine X.callM [(6527, 1920), (12863, 2048)] (PC.lend (M0 := [(6527, .yreg false false), (12863, .yreg false false)]) (i_Intervals_pc _ _ _ hv10) (.tre _ _ _) (by rfl) (.agg _ _ _ _ (.same _ _ _ (by rfl) (.yng 6527 _ _ _ _ (by rfl) (.yng 6527 _ _ _ _ (by rfl) (.yng 6527 _ _ _ _ (by rfl) (.yng 6527 _ _ _ _ (by rfl) .nil))))) (.agg _ _ _ _ (.yng 12863 _ _ _ _ (by rfl) (.yng 12863 _ _ _ _ (by rfl) (.yng 12863 _ _ _ _ (by rfl) .nil))) .nil))) (by rfl) (by rfl) (.agg _ _ _ _ _ _ (.pureB (by rfl) (by repeat (first | trivial | refine ⟨by first | rfl | simp [setL], ?_⟩)) (.yngB 6527 (by rfl) (by rfl) (.yngB 6527 (by rfl) (by rfl) (.yngB 6527 (by rfl) (by rfl) (.yngB 6527 (by rfl) (by rfl) .nil))))) (.agg _ _ _ _ _ _ (.yngB 12863 (by rfl) (by rfl) (.yngB 12863 (by rfl) (by rfl) (.yngB 12863 (by rfl) (by rfl) .nil))) .nil)) (by rfl) ⟨rfl, rfl, ⟨_, by rfl, by constructor⟩, by constructor, ⟨rfl, rfl, ⟨_, by rfl, by constructor⟩, by constructor, trivial⟩⟩ (by rfl) (by rfl) (by rfl) (by rfl) (by rfl) (by rfl) (by rfl) (by rfl) (by rfl) ?_
   refine X.an ?_
   refine Run.seq ?_
   refine Run.sr ?_
   refine X.mv ?_
   refine X.mv ?_
   obtain ⟨v11, hv11, h⟩ := bindE h
   refine X.callM [(63, 2240)] (PC.lend (M0 := [(63, .tre 25 1 (v10.map t_int))]) (w_eqIntSS_pc _ _ _ hv11) (.lit _) (by rfl) (.tref 63 _ _ _ _ _ _ _ (by rfl) (by first | rfl | simp [setL] | omega) (by rw [List.map_map]; rfl) (.same _ _ _ (by rfl) .nil))) (by rfl) (by rfl) (.trefB 63 (by rfl) (by rfl) (.pureB (by rfl) (by repeat (first | trivial | refine ⟨by first | rfl | simp [setL], ?_⟩)) .nil)) (by rfl) ⟨rfl, rfl, ⟨_, by rfl, by constructor⟩, .tre _ _ _ _ (shapeT_refl _), trivial⟩ (by rfl) (by rfl) (by rfl) (by rfl) (by rfl) (by rfl) (by rfl) (by rfl) (by rfl) ?_
   refine X.un (by rfl) (by rfl) (by rfl) ?_
   refine X.nil ?_
   refine R.cd (fun hc12 => ?_) (fun hc12 => ?_)
   ·replace h := condT hc12 h
    refine Run.sr ?_
    refine X.an ?_
    cases h
    refine R.f1 Tryz.results3 ?_
    rfl
   ·replace h := condF hc12 h
    refine Run.skip ?_
    refine Run.seq ?_
    refine Run.seq ?_
    refine Run.draw (footOf [(0, ([448], [], [], [])), (1, ([128], [], [], [])), (2, ([], [2688, 2689, 2690, 2691], [], [])), (3, ([1920, 2688, 2689, 2690, 2691], [1920], [], []))]) mixed (by kernel_rfl) (by kernel_rfl) ?_
    refine X.ld shp38 ?_
    refine X.ld shp27 ?_
    obtain ⟨v13, hv13, h⟩ := bindE h
    refine X.callA (PC.ofY (ps := [eTProject b0]) (w_toProject_pc _ _ hv13) (by rfl) (by rfl)) (by rfl) (by rfl) (by rfl) (by trivial) (by rfl) (by rfl) (by rfl) (by rfl) (by rfl) (by rfl) ?_
    obtain ⟨v14, hv14, h⟩ := bindE h
    refine X.callM [(6527, 1920)] (PC.lend (M0 := [(6527, .yreg false false)]) (w_eqProject_pc _ _ _ hv14) (.lit _) (by rfl) (.agg _ _ _ _ (.same _ _ _ (by rfl) (.yng 6527 _ _ _ _ (by rfl) (.yng 6527 _ _ _ _ (by rfl) (.yng 6527 _ _ _ _ (by rfl) (.yng 6527 _ _ _ _ (by rfl) .nil))))) (.agg _ _ _ _ (.same _ _ _ (by rfl) (.same _ _ _ (by rfl) (.same _ _ _ (by rfl) (.same _ _ _ (by rfl) (.same _ _ _ (by rfl) .nil))))) .nil))) (by rfl) (by rfl) (.agg _ _ _ _ _ _ (.pureB (by rfl) (by repeat (first | trivial | refine ⟨by first | rfl | simp [setL], ?_⟩)) (.yngB 6527 (by rfl) (by rfl) (.yngB 6527 (by rfl) (by rfl) (.yngB 6527 (by rfl) (by rfl) (.yngB 6527 (by rfl) (by rfl) .nil))))) (.pureB (by rfl) (by repeat (first | trivial | refine ⟨by first | rfl | simp [setL], ?_⟩)) .nil)) (by rfl) ⟨rfl, rfl, ⟨_, by rfl, by constructor⟩, by constructor, trivial⟩ (by rfl) (by rfl) (by rfl) (by rfl) (by rfl) (by rfl) (by rfl) (by rfl) (by rfl) ?_
    refine X.un (by rfl) (by rfl) (by rfl) ?_
    refine X.nil ?_
    refine R.cd (fun hc15 => ?_) (fun hc15 => ?_)
    ·replace h := condT hc15 h
     refine Run.sr ?_
     refine X.an ?_
     cases h
     refine R.f1 Tryz.results3 ?_
     rfl
    ·replace h := condF hc15 h
     refine Run.skip ?_
     refine Run.seq ?_
     refine Run.seq ?_
     refine Run.draw (footOf [(0, ([512], [], [], [])), (1, ([192], [], [], [])), (2, ([], [3008, 3009, 3010], [], [])), (3, ([2048, 3008, 3009, 3010], [2048], [], []))]) mixed (by kernel_rfl) (by kernel_rfl) ?_
     refine X.ld shp40 ?_
     refine X.ld shp30 ?_
     obtain ⟨v16, hv16, h⟩ := bindE h
     refine X.callA (PC.ofY (ps := [eTDomain b1]) (w_toDomain_pc _ _ hv16) (by rfl) (by rfl)) (by rfl) (by rfl) (by rfl) (by trivial) (by rfl) (by rfl) (by rfl) (by rfl) (by rfl) (by rfl) ?_
     obtain ⟨v17, hv17, h⟩ := bindE h
     refine X.callM [(6463, 2048)] (PC.lend (M0 := [(6463, .yreg false false)]) (w_eqDomain_pc _ _ _ hv17) (.lit _) (by rfl) (.agg _ _ _ _ (.yng 6463 _ _ _ _ (by rfl) (.yng 6463 _ _ _ _ (by rfl) (.yng 6463 _ _ _ _ (by rfl) .nil))) (.agg _ _ _ _ (.same _ _ _ (by rfl) (.same _ _ _ (by rfl) (.same _ _ _ (by rfl) .nil))) .nil))) (by rfl) (by rfl) (.agg _ _ _ _ _ _ (.yngB 6463 (by rfl) (by rfl) (.yngB 6463 (by rfl) (by rfl) (.yngB 6463 (by rfl) (by rfl) .nil))) (.pureB (by rfl) (by repeat (first | trivial | refine ⟨by first | rfl | simp [setL], ?_⟩)) .nil)) (by rfl) ⟨rfl, rfl, ⟨_, by rfl, by constructor⟩, by constructor, trivial⟩ (by rfl) (by rfl) (by rfl) (by rfl) (by rfl) (by rfl) (by rfl) (by rfl) (by rfl) ?_
     refine X.un (by rfl) (by rfl) (by rfl) ?_
     refine X.nil ?_
     refine R.cd (fun hc18 => ?_) (fun hc18 => ?_)
     ·replace h := condT hc18 h
      refine Run.sr ?_
      refine X.an ?_
      cases h
      refine R.f1 Tryz.results3 ?_
      rfl
     ·replace h := condF hc18 h
      refine Run.skip ?_
      refine Run.sr ?_
      refine X.an ?_
      refine Run.seq ?_
      refine R.demote 1920 (by rfl) (by rfl) (by rfl) (by rfl) (by rfl) (by rfl) ?_
      refine Run.reg ?_
      refine X.ld shp38 ?_
      refine X.mv ?_
      obtain ⟨v19, hv19, h⟩ := bindE h
      refine X.callM [(63, 1920)] (w_markProject_k_pc _ _ _ hv19) (by rfl) (by rfl) (.agg _ _ _ _ _ _ (.pureB (by rfl) (by repeat (first | trivial | refine ⟨by first | rfl | simp [setL], ?_⟩)) (.yskB 63 (by rfl) (by rfl) (.yskB 63 (by rfl) (by rfl) (.yskB 63 (by rfl) (by rfl) (.yskB 63 (by rfl) (by rfl) .nil))))) (.pureB (by rfl) (by repeat (first | trivial | refine ⟨by first | rfl | simp [setL], ?_⟩)) .nil)) (by rfl) ⟨rfl, rfl, ⟨_, by rfl, by constructor⟩, by constructor, trivial⟩ (by rfl) (by rfl) (by rfl) (by rfl) (by rfl) (by rfl) (by rfl) (by rfl) (by rfl) ?_
      refine X.an ?_
      refine Run.seq ?_
      refine R.demote 2048 (by rfl) (by rfl) (by rfl) (by rfl) (by rfl) (by rfl) ?_
      refine Run.reg ?_
      refine X.ld shp40 ?_
      refine X.mv ?_
      obtain ⟨v20, hv20, h⟩ := bindE h
      refine X.callM [(63, 2048)] (w_markDomain_k_pc _ _ _ hv20) (by rfl) (by rfl) (.agg _ _ _ _ _ _ (.yskB 63 (by rfl) (by rfl) (.yskB 63 (by rfl) (by rfl) (.yskB 63 (by rfl) (by rfl) .nil))) (.pureB (by rfl) (by repeat (first | trivial | refine ⟨by first | rfl | simp [setL], ?_⟩)) .nil)) (by rfl) ⟨rfl, rfl, ⟨_, by rfl, by constructor⟩, by constructor, trivial⟩ (by rfl) (by rfl) (by rfl) (by rfl) (by rfl) (by rfl) (by rfl) (by rfl) (by rfl) ?_
      refine X.an ?_
      refine Run.seq ?_
      refine Run.seq ?_
      obtain ⟨e21, he21, h2⟩ := bindE h
      refine R.regG [(2, .lptr 128 0), (3, .lptr 192 0), (6, .own 1792 (v7.map l_int).length), (9, .tref 2240 (v10.map t_int).length .out), (63, bool e21)] [(128, .blk true [int b0.Deadline, .slice (b0.Activities.map eTActivity), .slice (b0.Links.map eTLink), .slice (b0.Resources.map eTResource), .slice (b0.Stocks.map int)]), (192, .blk true [.slice (b1.MinStart.map int), .slice (b1.MaxStart.map int), .slice (b1.Modes.map l_int)]), (1792, .obj false 25 1 (v7.map l_int)), (2240, .tre 25 1 (v10.map t_int))] ?_ ?_
      ·clear h; have h := he21; clear he21 h2
       refine X.mv ?_
       refine X.bi ?_
       refine X.mv ?_
       refine X.iG (fun hb22 => ?_) (fun hb22 => ?_)
       ·replace h := condF hb22 h
        refine X.mv ?_
        refine X.gy ?_
        refine X.mv ?_
        refine X.gy ?_
        obtain ⟨v23, hv23, h⟩ := bindE h
        refine X.callM [(63, 2240)] (PC.lend (M0 := [(63, .tre 25 1 (v10.map t_int))]) (w_eqIntSS_pc _ _ _ hv23) (.lit _) (by rfl) (.tref 63 _ _ _ _ _ _ _ (by rfl) (by first | rfl | simp [setL] | omega) (by rw [List.map_map]; rfl) (.same _ _ _ (by rfl) .nil))) (by rfl) (by rfl) (.trefB 63 (by rfl) (by rfl) (.pureB (by rfl) (by repeat (first | trivial | refine ⟨by first | rfl | simp [setL], ?_⟩)) .nil)) (by rfl) ⟨rfl, rfl, ⟨_, by rfl, by constructor⟩, .tre _ _ _ _ (shapeT_refl _), trivial⟩ (by rfl) (by rfl) (by rfl) (by rfl) (by rfl) (by rfl) (by rfl) (by rfl) (by rfl) ?_
        refine X.gy ?_
        refine X.un (by rfl) (by rfl) (by rfl) ?_
        refine X.pF ?_
        cases h
        exact X.eG
       ·replace h := condT hb22 h
        refine X.gn ?_
        refine X.gn ?_
        refine X.gn ?_
        refine X.pT ?_
        cases h
        exact X.eG
      replace h := h2; clear h2
      refine R.cd (fun hc24 => ?_) (fun hc24 => ?_)
      ·replace h := condT hc24 h
       refine Run.sr ?_
       refine X.an ?_
       cases h
       refine R.f1 Tryz.results3 ?_
       rfl
      ·replace h := condF hc24 h
       refine Run.skip ?_
       refine Run.sr ?_
       refine X.an ?_
       refine Run.seq ?_
       refine Run.region ?_
       refine Run.mvo ?_
       refine Run.mvo ?_
       obtain ⟨v25, hv25, h⟩ := bindE h
       refine Run.callTre (w_markIntSS_pc _ _ _ hv25) (by rfl) rfl (by rfl) (by rfl) (by rfl) (by rfl) (by first | rfl | simp [setL] | omega) (fun h => shape_t_int _ _ (by simpa using h)) (by rfl) (by repeat (first | exact trivial | refine ⟨by first | rfl | simp [setL], ?_⟩)) (by rfl) ?_
       refine Run.aso ?_
       refine Run.nil ?_
       refine Run.sr ?_
       refine X.an ?_
       refine Run.sr ?_
       refine X.mv ?_
       refine X.mv ?_
       obtain ⟨v26, hv26, h⟩ := bindE h
       refine X.callM [(63, 2240)] (PC.lend (M0 := [(63, .tre 25 1 (v25.2.map t_int))]) (w_heldIntSS_pc _ _ _ hv26) (.lit _) (by rfl) (.tref 63 _ _ _ _ _ _ _ (by rfl) (by first | rfl | simp [setL] | omega) (by rw [List.map_map]; rfl) (.same _ _ _ (by rfl) .nil))) (by rfl) (by rfl) (.trefB 63 (by rfl) (by rfl) (.pureB (by rfl) (by repeat (first | trivial | refine ⟨by first | rfl | simp [setL], ?_⟩)) .nil)) (by rfl) ⟨rfl, rfl, ⟨_, by rfl, by constructor⟩, .tre _ _ _ _ (shapeT_refl _), trivial⟩ (by rfl) (by rfl) (by rfl) (by rfl) (by rfl) (by rfl) (by rfl) (by rfl) (by rfl) ?_
       refine X.an ?_
       refine Run.seq ?_
       refine Run.sr ?_
       refine X.mv ?_
       refine X.bi ?_
       refine X.nil ?_
       refine R.cd (fun hc27 => ?_) (fun hc27 => ?_)
       ·replace h := condT hc27 h
        refine Run.sr ?_
        refine X.an ?_
        cases h
        refine R.f1 Tryz.results3 ?_
        rfl
       ·replace h := condF hc27 h
        refine Run.skip ?_
        refine Run.seq ?_
        refine Run.sr ?_
        refine X.mv ?_
        refine X.mv ?_
        refine X.bi ?_
        refine X.nil ?_
        refine R.cd (fun hc28 => ?_) (fun hc28 => ?_)
        ·replace h := condT hc28 h
         refine Run.sr ?_
         refine X.an ?_
         cases h
         refine R.f1 Tryz.results3 ?_
         rfl
        ·replace h := condF hc28 h
         refine Run.skip ?_
         refine Run.seq ?_
         refine Run.draw (footOf [(0, ([128], [], [], [])), (1, ([], [4864, 4865, 4866, 4867], [], [])), (2, ([192], [], [], [])), (3, ([], [4992, 4993, 4994], [], [])), (4, ([4864, 4865, 4866, 4867, 4992, 4993, 4994], [5056], [], []))]) mixed (by kernel_rfl) (by kernel_rfl) ?_
         refine X.ld shp27 ?_
         obtain ⟨v29, hv29, h⟩ := bindE h
         refine X.callA (PC.ofY (ps := [eTProject b0]) (w_toProject_pc _ _ hv29) (by rfl) (by rfl)) (by rfl) (by rfl) (by rfl) (by trivial) (by rfl) (by rfl) (by rfl) (by rfl) (by rfl) (by rfl) ?_
         refine X.ld shp30 ?_
         obtain ⟨v30, hv30, h⟩ := bindE h
         refine X.callA (PC.ofY (ps := [eTDomain b1]) (w_toDomain_pc _ _ hv30) (by rfl) (by rfl)) (by rfl) (by rfl) (by rfl) (by trivial) (by rfl) (by rfl) (by rfl) (by rfl) (by rfl) (by rfl) ?_
         obtain ⟨v31, hv31, h⟩ := bindE h
         refine X.callTr (i_Intervals_pc _ _ _ hv31) (by rfl) (by rfl) (by rfl) (by repeat (first | trivial | refine ⟨by first | rfl | simp [setL], ?_⟩)) (by rfl) (by rfl) (by rfl) (by rfl) ?_
         refine X.an ?_
         refine Run.seq ?_
         refine Run.sr ?_
         refine X.mv ?_
         refine X.mv ?_
         obtain ⟨v32, hv32, h⟩ := bindE h
         refine X.callM [(63, 5056)] (PC.lend (M0 := [(63, .tre 25 1 (v31.map t_int))]) (w_eqIntSS_pc _ _ _ hv32) (.lit _) (by rfl) (.tref 63 _ _ _ _ _ _ _ (by rfl) (by first | rfl | simp [setL] | omega) (by rw [List.map_map]; rfl) (.same _ _ _ (by rfl) .nil))) (by rfl) (by rfl) (.trefB 63 (by rfl) (by rfl) (.pureB (by rfl) (by repeat (first | trivial | refine ⟨by first | rfl | simp [setL], ?_⟩)) .nil)) (by rfl) ⟨rfl, rfl, ⟨_, by rfl, by constructor⟩, .tre _ _ _ _ (shapeT_refl _), trivial⟩ (by rfl) (by rfl) (by rfl) (by rfl) (by rfl) (by rfl) (by rfl) (by rfl) (by rfl) ?_
         refine X.un (by rfl) (by rfl) (by rfl) ?_
         refine X.nil ?_
         refine R.cd (fun hc33 => ?_) (fun hc33 => ?_)
         ·replace h := condT hc33 h
          refine Run.sr ?_
          refine X.an ?_
          cases h
          refine R.f1 Tryz.results3 ?_
          rfl
         ·replace h := condF hc33 h
          refine Run.skip ?_
          refine Run.sr ?_
          refine X.an ?_
          refine Run.sr ?_
          refine X.mv ?_
          refine X.mv ?_
          obtain ⟨v34, hv34, h⟩ := bindE h
          refine X.callM [(63, 2240)] (PC.lend (M0 := [(63, .tre 25 1 (v25.2.map t_int))]) (w_heldIntSS_pc _ _ _ hv34) (.lit _) (by rfl) (.tref 63 _ _ _ _ _ _ _ (by rfl) (by first | rfl | simp [setL] | omega) (by rw [List.map_map]; rfl) (.same _ _ _ (by rfl) .nil))) (by rfl) (by rfl) (.trefB 63 (by rfl) (by rfl) (.pureB (by rfl) (by repeat (first | trivial | refine ⟨by first | rfl | simp [setL], ?_⟩)) .nil)) (by rfl) ⟨rfl, rfl, ⟨_, by rfl, by constructor⟩, .tre _ _ _ _ (shapeT_refl _), trivial⟩ (by rfl) (by rfl) (by rfl) (by rfl) (by rfl) (by rfl) (by rfl) (by rfl) (by rfl) ?_
          refine X.an ?_
          refine Run.seq ?_
          refine Run.sr ?_
          refine X.mv ?_
          refine X.bi ?_
          refine X.nil ?_
          refine R.cd (fun hc35 => ?_) (fun hc35 => ?_)
          ·replace h := condT hc35 h
           refine Run.sr ?_
           refine X.an ?_
           cases h
           refine R.f1 Tryz.results3 ?_
           rfl
          ·replace h := condF hc35 h
           refine Run.skip ?_
           refine Run.seq ?_
           refine Run.sr ?_
           refine X.mv ?_
           refine X.mv ?_
           refine X.bi ?_
           refine X.nil ?_
           refine R.cd (fun hc36 => ?_) (fun hc36 => ?_)
           ·replace h := condT hc36 h
            refine Run.sr ?_
            refine X.an ?_
            cases h
            refine R.f1 Tryz.results3 ?_
            rfl
           ·replace h := condF hc36 h
            refine Run.skip ?_
            refine Run.sr ?_
            refine X.an ?_
            cases h
            refine R.f1 Tryz.results3 ?_
            rfl
end Go.Px.YtchaabloaaaonaaGreat
