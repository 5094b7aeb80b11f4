/-
  PROVED: contracts of functions of the program over pure values. No condition beyond those that each theorem names.
-/
import Derived.Test.YtjncefleglnnjaaGreatProg
import Derived.Test.YtjncefleglnnjaaGreatD1
import Derived.Test.YtjncefleglnnjaaGreatC2
namespace Go.Px.YtjncefleglnnjaaGreat
set_option linter.unusedSimpArgs false
set_option linter.unusedVariables false
open Go.Px Go.Proofs
theorem ok271 : okFn Tryz.prog 271 = true := by kernel_rfl
theorem ok167 : okFn Tryz.prog 167 = true := by kernel_rfl
theorem ok234 : okFn Tryz.prog 234 = true := by kernel_rfl
theorem ok123 : okFn Tryz.prog 123 = true := by kernel_rfl
theorem ok169 : okFn Tryz.prog 169 = true := by kernel_rfl
theorem ok168 : okFn Tryz.prog 168 = true := by kernel_rfl
theorem ok159 : okFn Tryz.prog 159 = true := by kernel_rfl
theorem ok71 : okFn Tryz.prog 71 = true := by kernel_rfl
theorem ok72 : okFn Tryz.prog 72 = true := by kernel_rfl
theorem s_MinDuration_pc (b0 : TActivity) (b1 : List Int) (r : Int) (h : s_MinDuration b0 b1 = some r) : PC Tryz.prog 271 [eTActivity b0, .slice (b1.map int)] (int r) := by
  unfold s_MinDuration at h
  refine PC.start Tryz.func271 Tryz.ntmps271 rfl ok271 rfl ?_
  refine Run.sr ?_
  refine X.box (by rfl) (by rfl) (by repeat (first | trivial | refine ⟨by first | rfl | simp [setL], ?_⟩)) (by rfl) (by rfl) (by rfl) (by rfl) ?_
  refine X.an ?_
  refine Run.sr ?_
  refine X.an ?_
  refine Run.sr ?_
  refine X.an ?_
  refine Run.seq ?_
  refine Run.sr ?_
  refine X.fieldAddr_l fld50_2 (by rfl) (by rfl) ?_
  refine X.ld shp48 ?_
  refine X.len_s elt48 (by rfl) (by exact List.length_map ..) (by rfl) ?_
  refine X.mn ?_
  obtain ⟨o1, ho1, h⟩ := bindE h
  refine R.join2 (β := Int) [] [] (fun p19 S => (5, int p19) :: S) (fun p19 M => M) (fun p19 => p19 = o1) ?_ ?_
  · intro JJ4 hmeet3
    have hup2 := h; clear h; have h := ho1; clear ho1
    refine Run.block ?_
    refine R.bndS (t := 10) (by rfl) (fun hbd7 => ?_)
    replace hbd7 : b0.Modes.length ≤ 9223372036854775807 := by first | (rw [List.length_map] at hbd7; exact hbd7) | simp
    refine R.loop2 (β := Int × Int × Bool) [(1, .slice (b1.map int)), (10, .slice (b0.Modes.map eTMode)), (11, int (b0.Modes.length : Int))] [] (fun bb S => (5, int bb.2.1) :: (6, bool bb.2.2) :: (12, int bb.1) :: S) (fun bb M => M) (fun n bb => 0 ≤ bb.1 ∧ bb.1 + n = (b0.Modes.length : Int) ∧ s_MinDuration_L1 b1 (b0.Modes.drop bb.1.toNat) bb.1 bb.2.1 bb.2.2 = some o1) b0.Modes.length (0, 0, false) (by repeat (first | trivial | refine ⟨by first | rfl | simp [setL], ?_⟩)) (by repeat (first | trivial | refine ⟨by first | rfl | simp [setL], ?_⟩)) (by rfl) (by rfl) ⟨Int.le_refl _, by simp, h⟩ ?_
    clear h
    rintro JJ7 n7 ⟨z8, a9, a10⟩ hag7 ⟨hza7, hzb7, h⟩
    dsimp only at hza7 hzb7 h
    refine Run.sr ?_
    refine X.bi ?_
    refine X.nil ?_
    refine Run.seq ?_
    refine R.cond (by rfl) (fun hc13 => ?_) (fun hc13 => ?_)
    · obtain ⟨x11, xs12, hd7, hx7, hds7, hlt7⟩ := drop_atI hza7 hc13
      rw [hd7] at h
      rw [s_MinDuration_L1] at h
      refine Run.skip ?_
      refine Run.seq ?_
      refine Run.block ?_
      refine Run.sr ?_
      refine X.mv ?_
      refine X.index_s elt48 (by rfl) (by rfl) (idxL_spec hx7).1 (idxL_map eTMode hx7) (by rfl) (by rfl) (by rfl) ?_
      refine X.load_c shp47 (by rfl) (by rfl) (by rfl) (by rfl) ?_
      refine X.alloc zer47 (by rfl) (by rfl) (by rfl) ?_
      refine X.as ?_
      refine X.store_l shp47 (by rfl) (by rfl) (by rfl) (by rfl) (by repeat (first | trivial | refine ⟨by first | rfl | simp [setL], ?_⟩)) (by rfl) (by rfl) (by rfl) ?_
      refine X.nil ?_
      refine Run.seq ?_
      obtain ⟨v14, hv14, h⟩ := bindE h
      obtain ⟨e15, he15, h2⟩ := bindE h
      refine R.regG [(1, .slice (b1.map int)), (5, int a9), (6, bool a10), (8, .lptr 512 0), (10, .slice (b0.Modes.map eTMode)), (11, int (b0.Modes.length : Int)), (12, int z8), (29, bool e15)] [(512, .blk true [int x11.Duration, .slice (x11.Usage.map int), .slice (x11.Consumption.map int)])] ?_ ?_
      · clear h; have h := he15; clear he15 h2
        refine X.mv ?_
        refine X.mv ?_
        refine X.callP (s_SetHas_pc _ _ _ hv14) (by rfl) (by rfl) (by rfl) (by trivial) (by rfl) (by rfl) (by rfl) (by rfl) ?_
        refine X.mv ?_
        refine X.ifG (by rfl) (by rfl) (by rfl) (fun hb16 => ?_) (fun hb16 => ?_)
        · replace h := condT hb16 h
          refine X.mv ?_
          refine X.gy ?_
          refine X.un (by rfl) (by rfl) (by rfl) ?_
          refine X.gy ?_
          refine X.mv ?_
          refine X.ifG (by rfl) (by rfl) (by rfl) (fun hb17 => ?_) (fun hb17 => ?_)
          · replace h := condF hb17 h
            refine X.fieldAddr_l fld47_0 (by rfl) (by rfl) ?_
            refine X.gy ?_
            refine X.ld shp3 ?_
            refine X.gy ?_
            refine X.mv ?_
            refine X.gy ?_
            refine X.bi ?_
            refine X.gy ?_
            refine X.pickF (by rfl) (by first | rfl | assumption) (by rfl) (by rfl) ?_
            refine X.pickT (by rfl) (by first | rfl | assumption) (by rfl) (by rfl) ?_
            cases h
            exact X.endG (by trivial) (by trivial) (by rfl) (by rfl)
          · replace h := condT hb17 h
            refine X.gn ?_
            refine X.gn ?_
            refine X.gn ?_
            refine X.gy ?_
            refine X.pickT (by rfl) (by first | rfl | assumption) (by rfl) (by rfl) ?_
            refine X.pickT (by rfl) (by first | rfl | assumption) (by rfl) (by rfl) ?_
            cases h
            exact X.endG (by trivial) (by trivial) (by rfl) (by rfl)
        · replace h := condF hb16 h
          refine X.gn ?_
          refine X.gn ?_
          refine X.gU (by rfl) (by rfl) (by rfl) ?_
          refine X.gU (by rfl) (by rfl) (by rfl) ?_
          refine X.gU (by rfl) (by rfl) (by rfl) ?_
          refine X.gU (by rfl) (by rfl) (by rfl) ?_
          refine X.gn ?_
          refine X.pickF (by rfl) (by first | rfl | assumption) (by rfl) (by rfl) ?_
          cases h
          exact X.endG (by trivial) (by trivial) (by rfl) (by rfl)
      replace h := h2; clear h2
      refine R.cond (by rfl) (fun hc18 => ?_) (fun hc18 => ?_)
      · replace h := condT hc18 h
        refine Run.sr ?_
        refine X.fieldAddr_l fld47_0 (by rfl) (by rfl) ?_
        refine X.ld shp3 ?_
        refine X.an ?_
        refine Run.reg ?_
        refine X.an ?_
        refine Run.blk ?_
        refine Run.reg ?_
        refine X.add (by rfl) (by rfl) (by omega) (by rfl) ?_
        refine X.mn ?_
        exact hag7 (n7 - 1) (z8 + 1, x11.Duration, true) _ _ (by omega) ⟨by first | omega | (dsimp only; omega), by first | omega | (dsimp only; omega), by first | (rw [hds7]; exact h) | (dsimp only; rw [hds7]; exact h)⟩ (by trivial) (by trivial) (by rfl) (by rfl)
      · replace h := condF hc18 h
        refine Run.skip ?_
        refine Run.blk ?_
        refine Run.reg ?_
        refine X.add (by rfl) (by rfl) (by omega) (by rfl) ?_
        refine X.mn ?_
        exact hag7 (n7 - 1) (z8 + 1, a9, a10) _ _ (by omega) ⟨by first | omega | (dsimp only; omega), by first | omega | (dsimp only; omega), by first | (rw [hds7]; exact h) | (dsimp only; rw [hds7]; exact h)⟩ (by trivial) (by trivial) (by rfl) (by rfl)
    · rw [drop_endI hza7 hc13] at h
      rw [s_MinDuration_L1] at h
      refine Run.exit (by rfl) ?_
      exact hmeet3 a9 _ _ (Option.some.inj h) (by trivial) (by trivial) (by rfl) (by rfl)
  rintro p19 rfl
  refine Run.sr ?_
  refine X.mv ?_
  refine X.an ?_
  cases h
  refine R.fin1 Tryz.results271 (by rfl) (by rfl) ?_
  rfl
theorem s_l14Short_pc (b0 : TProject) (b1 : TDomain) (b2 : Int) (r : Int) (h : s_l14Short b0 b1 b2 = some r) : PC Tryz.prog 167 [eTProject b0, eTDomain b1, int b2] (int r) := by
  unfold s_l14Short at h
  refine PC.start Tryz.func167 Tryz.ntmps167 rfl ok167 rfl ?_
  refine Run.sr ?_
  refine X.box (by rfl) (by rfl) (by repeat (first | trivial | refine ⟨by first | rfl | simp [setL], ?_⟩)) (by rfl) (by rfl) (by rfl) (by rfl) ?_
  refine X.box (by rfl) (by rfl) (by repeat (first | trivial | refine ⟨by first | rfl | simp [setL], ?_⟩)) (by rfl) (by rfl) (by rfl) (by rfl) ?_
  refine X.an ?_
  refine Run.seq ?_
  refine Run.draw (footOf [(1, ([192], [], [], [])), (6, ([256], [], [], []))]) mixed (by kernel_rfl) (by kernel_rfl) ?_
  refine X.fieldAddr_l fld28_1 (by rfl) (by rfl) ?_
  refine X.ld shp23 ?_
  refine X.mv ?_
  obtain ⟨v1, hv1, h⟩ := bindE h
  refine X.index_s elt23 (by rfl) (by rfl) (idxL_spec hv1).1 (idxL_map eTActivity hv1) (by rfl) (by rfl) (by rfl) ?_
  refine X.load_c shp50 (by rfl) (by rfl) (by rfl) (by rfl) ?_
  refine X.fieldAddr_l fld32_2 (by rfl) (by rfl) ?_
  refine X.ld shp30 ?_
  refine X.mv ?_
  obtain ⟨v2, hv2, h⟩ := bindE h
  refine X.index_s elt30 (by rfl) (by rfl) (idxL_spec hv2).1 (idxL_map l_int hv2) (by rfl) (by rfl) (by rfl) ?_
  refine X.load_c shp26 (by rfl) (by rfl) (by rfl) (by rfl) ?_
  obtain ⟨v3, hv3, h⟩ := bindE h
  refine X.callP (s_MinDuration_pc _ _ _ hv3) (by rfl) (by rfl) (by rfl) (by trivial) (by rfl) (by rfl) (by rfl) (by rfl) ?_
  refine X.an ?_
  cases h
  refine R.fin1 Tryz.results167 (by rfl) (by rfl) ?_
  rfl
theorem i_MinDuration_pc (b0 : TActivity) (b1 : List Int) (r : Int) (h : i_MinDuration b0 b1 = some r) : PC Tryz.prog 234 [eTActivity b0, .slice (b1.map int)] (int r) := by
  unfold i_MinDuration at h
  refine PC.start Tryz.func234 Tryz.ntmps234 rfl ok234 rfl ?_
  refine Run.sr ?_
  refine X.box (by rfl) (by rfl) (by repeat (first | trivial | refine ⟨by first | rfl | simp [setL], ?_⟩)) (by rfl) (by rfl) (by rfl) (by rfl) ?_
  refine X.an ?_
  refine Run.sr ?_
  refine X.an ?_
  refine Run.seq ?_
  refine Run.sr ?_
  refine X.ld shp50 ?_
  refine X.mv ?_
  obtain ⟨v1, hv1, h⟩ := bindE h
  refine X.callF (i_chosen_pc _ _ _ hv1) (by rfl) (by rfl) (by rfl) (by trivial) (by rfl) (by rfl) (by rfl) (by rfl) ?_
  refine X.len_o elt48 (by rfl) (by rfl) (by first | rfl | simp [setL] | omega) (by first | exact List.length_map .. | rfl) (by rfl) (by rfl) ?_
  refine X.mn ?_
  obtain ⟨o2, ho2, h⟩ := bindE h
  refine R.join2 (β := Int) [] [] (fun p17 S => (5, int p17) :: S) (fun p17 M => M) (fun p17 => p17 = o2) ?_ ?_
  · intro JJ5 hmeet4
    have hup3 := h; clear h; have h := ho2; clear ho2
    refine Run.block ?_
    refine R.bndO (n := 640) (by rfl) (fun hbd8 => ?_)
    replace hbd8 : v1.length ≤ 9223372036854775807 := by first | (rw [List.length_map] at hbd8; exact hbd8) | simp
    refine R.loop2 (β := Int × Int) [(11, int (v1.length : Int))] [(640, .obj false 47 3 (v1.map eTMode))] (fun bb S => (5, int bb.2) :: (10, .own 640 (v1.map eTMode).length) :: (12, int bb.1) :: S) (fun bb M => M) (fun n bb => 0 ≤ bb.1 ∧ bb.1 + n = (v1.length : Int) ∧ i_MinDuration_L1 (v1.drop bb.1.toNat) bb.1 bb.2 = some o2) v1.length (0, 0) (by repeat (first | trivial | refine ⟨by first | rfl | simp [setL], ?_⟩)) (by repeat (first | trivial | refine ⟨by first | rfl | simp [setL], ?_⟩)) (by rfl) (by rfl) ⟨Int.le_refl _, by simp, h⟩ ?_
    clear h
    rintro JJ8 n8 ⟨z9, a10⟩ hag8 ⟨hza8, hzb8, h⟩
    dsimp only at hza8 hzb8 h
    refine Run.sr ?_
    refine X.bi ?_
    refine X.nil ?_
    refine Run.seq ?_
    refine R.cond (by rfl) (fun hc13 => ?_) (fun hc13 => ?_)
    · obtain ⟨x11, xs12, hd8, hx8, hds8, hlt8⟩ := drop_atI hza8 hc13
      rw [hd8] at h
      rw [i_MinDuration_L1] at h
      refine Run.skip ?_
      refine Run.seq ?_
      refine Run.block ?_
      refine Run.sr ?_
      refine X.mv ?_
      refine X.index_o elt48 (by rfl) (by rfl) (by first | rfl | simp [setL] | omega) (by rfl) (idxL_spec hx8).1 (idxL_map eTMode hx8) (by rfl) (by rfl) (by rfl) ?_
      refine X.load_c shp47 (by rfl) (by rfl) (by rfl) (by rfl) ?_
      refine X.alloc zer47 (by rfl) (by rfl) (by rfl) ?_
      refine X.as ?_
      refine X.store_l shp47 (by rfl) (by rfl) (by rfl) (by rfl) (by repeat (first | trivial | refine ⟨by first | rfl | simp [setL], ?_⟩)) (by rfl) (by rfl) (by rfl) ?_
      refine X.nil ?_
      refine Run.seq ?_
      obtain ⟨e14, he14, h2⟩ := bindE h
      refine R.regG [(5, int a10), (7, .lptr 448 0), (10, .own 640 (v1.map eTMode).length), (11, int (v1.length : Int)), (12, int z9), (24, bool e14)] [(448, .blk true [int x11.Duration, .slice (x11.Usage.map int), .slice (x11.Consumption.map int)]), (640, .obj false 47 3 (v1.map eTMode))] ?_ ?_
      · clear h; have h := he14; clear he14 h2
        refine X.mv ?_
        refine X.bi ?_
        refine X.mv ?_
        refine X.ifG (by rfl) (by rfl) (by rfl) (fun hb15 => ?_) (fun hb15 => ?_)
        · replace h := condF hb15 h
          refine X.fieldAddr_l fld47_0 (by rfl) (by rfl) ?_
          refine X.gy ?_
          refine X.ld shp3 ?_
          refine X.gy ?_
          refine X.mv ?_
          refine X.gy ?_
          refine X.bi ?_
          refine X.pickF (by rfl) (by first | rfl | assumption) (by rfl) (by rfl) ?_
          cases h
          exact X.endG (by repeat (first | trivial | refine ⟨by first | rfl | simp [setL], ?_⟩)) (by repeat (first | trivial | refine ⟨by first | rfl | simp [setL], ?_⟩)) (by rfl) (by rfl)
        · replace h := condT hb15 h
          refine X.gn ?_
          refine X.gn ?_
          refine X.gn ?_
          refine X.pickT (by rfl) (by first | rfl | assumption) (by rfl) (by rfl) ?_
          cases h
          exact X.endG (by repeat (first | trivial | refine ⟨by first | rfl | simp [setL], ?_⟩)) (by repeat (first | trivial | refine ⟨by first | rfl | simp [setL], ?_⟩)) (by rfl) (by rfl)
      replace h := h2; clear h2
      refine R.cond (by rfl) (fun hc16 => ?_) (fun hc16 => ?_)
      · replace h := condT hc16 h
        refine Run.reg ?_
        refine X.fieldAddr_l fld47_0 (by rfl) (by rfl) ?_
        refine X.ld shp3 ?_
        refine X.an ?_
        refine Run.blk ?_
        refine Run.reg ?_
        refine X.add (by rfl) (by rfl) (by omega) (by rfl) ?_
        refine X.mn ?_
        exact hag8 (n8 - 1) (z9 + 1, x11.Duration) _ _ (by omega) ⟨by first | omega | (dsimp only; omega), by first | omega | (dsimp only; omega), by first | (rw [hds8]; exact h) | (dsimp only; rw [hds8]; exact h)⟩ (by repeat (first | trivial | refine ⟨by first | rfl | simp [setL], ?_⟩)) (by repeat (first | trivial | refine ⟨by first | rfl | simp [setL], ?_⟩)) (by rfl) (by rfl)
      · replace h := condF hc16 h
        refine Run.skip ?_
        refine Run.blk ?_
        refine Run.reg ?_
        refine X.add (by rfl) (by rfl) (by omega) (by rfl) ?_
        refine X.mn ?_
        exact hag8 (n8 - 1) (z9 + 1, a10) _ _ (by omega) ⟨by first | omega | (dsimp only; omega), by first | omega | (dsimp only; omega), by first | (rw [hds8]; exact h) | (dsimp only; rw [hds8]; exact h)⟩ (by repeat (first | trivial | refine ⟨by first | rfl | simp [setL], ?_⟩)) (by repeat (first | trivial | refine ⟨by first | rfl | simp [setL], ?_⟩)) (by rfl) (by rfl)
    · rw [drop_endI hza8 hc13] at h
      rw [i_MinDuration_L1] at h
      refine Run.exit (by rfl) ?_
      exact hmeet4 a10 _ _ (Option.some.inj h) (by repeat (first | trivial | refine ⟨by first | rfl | simp [setL], ?_⟩)) (by repeat (first | trivial | refine ⟨by first | rfl | simp [setL], ?_⟩)) (by rfl) (by rfl)
  rintro p17 rfl
  refine Run.sr ?_
  refine X.mv ?_
  refine X.an ?_
  cases h
  refine R.fin1 Tryz.results234 (by rfl) (by rfl) ?_
  rfl
theorem i_Project_duration_pc (b0 : TProject) (b1 : TDomain) (b2 : Int) (r : Int) (h : i_Project_duration b0 b1 b2 = some r) : PC Tryz.prog 123 [eTProject b0, eTDomain b1, int b2] (int r) := by
  unfold i_Project_duration at h
  refine PC.start Tryz.func123 Tryz.ntmps123 rfl ok123 rfl ?_
  refine Run.sr ?_
  refine X.box (by rfl) (by rfl) (by repeat (first | trivial | refine ⟨by first | rfl | simp [setL], ?_⟩)) (by rfl) (by rfl) (by rfl) (by rfl) ?_
  refine X.box (by rfl) (by rfl) (by repeat (first | trivial | refine ⟨by first | rfl | simp [setL], ?_⟩)) (by rfl) (by rfl) (by rfl) (by rfl) ?_
  refine X.an ?_
  refine Run.seq ?_
  refine Run.draw (footOf [(1, ([192], [], [], [])), (6, ([256], [], [], []))]) mixed (by kernel_rfl) (by kernel_rfl) ?_
  refine X.fieldAddr_l fld28_1 (by rfl) (by rfl) ?_
  refine X.ld shp23 ?_
  refine X.mv ?_
  obtain ⟨v1, hv1, h⟩ := bindE h
  refine X.index_s elt23 (by rfl) (by rfl) (idxL_spec hv1).1 (idxL_map eTActivity hv1) (by rfl) (by rfl) (by rfl) ?_
  refine X.load_c shp50 (by rfl) (by rfl) (by rfl) (by rfl) ?_
  refine X.fieldAddr_l fld32_2 (by rfl) (by rfl) ?_
  refine X.ld shp30 ?_
  refine X.mv ?_
  obtain ⟨v2, hv2, h⟩ := bindE h
  refine X.index_s elt30 (by rfl) (by rfl) (idxL_spec hv2).1 (idxL_map l_int hv2) (by rfl) (by rfl) (by rfl) ?_
  refine X.load_c shp26 (by rfl) (by rfl) (by rfl) (by rfl) ?_
  obtain ⟨v3, hv3, h⟩ := bindE h
  refine X.callP (i_MinDuration_pc _ _ _ hv3) (by rfl) (by rfl) (by rfl) (by trivial) (by rfl) (by rfl) (by rfl) (by rfl) ?_
  refine X.an ?_
  cases h
  refine R.fin1 Tryz.results123 (by rfl) (by rfl) ?_
  rfl
theorem i_SetupTime_pc (b0 : TProject) (b1 : Int) (b2 : Int) (b3 : Int) (r : Int) (h : i_SetupTime b0 b1 b2 b3 = some r) : PC Tryz.prog 169 [eTProject b0, int b1, int b2, int b3] (int r) := by
  unfold i_SetupTime at h
  refine PC.start Tryz.func169 Tryz.ntmps169 rfl ok169 rfl ?_
  refine Run.sr ?_
  refine X.box (by rfl) (by rfl) (by repeat (first | trivial | refine ⟨by first | rfl | simp [setL], ?_⟩)) (by rfl) (by rfl) (by rfl) (by rfl) ?_
  refine X.an ?_
  refine Run.seq ?_
  refine Run.seq ?_
  obtain ⟨v1, hv1, h⟩ := bindE h
  obtain ⟨e2, he2, h2⟩ := bindE h
  refine R.regG [(1, int b1), (2, int b2), (3, int b3), (4, .lptr 256 0), (29, bool e2)] [(256, .blk true [int b0.Deadline, .slice (b0.Activities.map eTActivity), .slice (b0.Links.map eTLink), .slice (b0.Resources.map eTResource), .slice (b0.Stocks.map int)])] ?_ ?_
  · clear h; have h := he2; clear he2 h2
    refine X.ld shp28 ?_
    refine X.mv ?_
    refine X.callP (i_IsMachine_pc _ _ _ hv1) (by rfl) (by rfl) (by rfl) (by trivial) (by rfl) (by rfl) (by rfl) (by rfl) ?_
    refine X.un (by rfl) (by rfl) (by rfl) ?_
    refine X.mv ?_
    refine X.ifG (by rfl) (by rfl) (by rfl) (fun hb3 => ?_) (fun hb3 => ?_)
    · replace h := condF hb3 h
      refine X.ld shp28 ?_
      refine X.gy ?_
      obtain ⟨v4, hv4, h⟩ := bindE h
      refine X.callP (i_ProjectOk_pc _ _ hv4) (by rfl) (by rfl) (by rfl) (by trivial) (by rfl) (by rfl) (by rfl) (by rfl) ?_
      refine X.gy ?_
      refine X.un (by rfl) (by rfl) (by rfl) ?_
      refine X.pickF (by rfl) (by first | rfl | assumption) (by rfl) (by rfl) ?_
      refine X.mv ?_
      refine X.ifG (by rfl) (by rfl) (by rfl) (fun hb5 => ?_) (fun hb5 => ?_)
      · replace h := condF hb5 h
        refine X.ld shp28 ?_
        refine X.gy ?_
        refine X.mv ?_
        refine X.gy ?_
        obtain ⟨v6, hv6, h⟩ := bindE h
        refine X.callP (i_Project_hasActivity_pc _ _ _ hv6) (by rfl) (by rfl) (by rfl) (by trivial) (by rfl) (by rfl) (by rfl) (by rfl) ?_
        refine X.gy ?_
        refine X.un (by rfl) (by rfl) (by rfl) ?_
        refine X.pickF (by rfl) (by first | rfl | assumption) (by rfl) (by rfl) ?_
        refine X.mv ?_
        refine X.ifG (by rfl) (by rfl) (by rfl) (fun hb7 => ?_) (fun hb7 => ?_)
        · replace h := condF hb7 h
          refine X.ld shp28 ?_
          refine X.gy ?_
          refine X.mv ?_
          refine X.gy ?_
          obtain ⟨v8, hv8, h⟩ := bindE h
          refine X.callP (i_Project_hasActivity_pc _ _ _ hv8) (by rfl) (by rfl) (by rfl) (by trivial) (by rfl) (by rfl) (by rfl) (by rfl) ?_
          refine X.gy ?_
          refine X.un (by rfl) (by rfl) (by rfl) ?_
          refine X.pickF (by rfl) (by first | rfl | assumption) (by rfl) (by rfl) ?_
          cases h
          exact X.endG (by trivial) (by trivial) (by rfl) (by rfl)
        · replace h := condT hb7 h
          refine X.gn ?_
          refine X.gn ?_
          refine X.gn ?_
          refine X.pickT (by rfl) (by first | rfl | assumption) (by rfl) (by rfl) ?_
          cases h
          exact X.endG (by trivial) (by trivial) (by rfl) (by rfl)
      · replace h := condT hb5 h
        refine X.gn ?_
        refine X.gn ?_
        refine X.gn ?_
        refine X.pickT (by rfl) (by first | rfl | assumption) (by rfl) (by rfl) ?_
        refine X.mv ?_
        refine X.gn ?_
        refine X.gn ?_
        refine X.gn ?_
        refine X.gn ?_
        refine X.pickT (by rfl) (by first | rfl | assumption) (by rfl) (by rfl) ?_
        cases h
        exact X.endG (by trivial) (by trivial) (by rfl) (by rfl)
    · replace h := condT hb3 h
      refine X.gn ?_
      refine X.gn ?_
      refine X.pickT (by rfl) (by first | rfl | assumption) (by rfl) (by rfl) ?_
      refine X.mv ?_
      refine X.gn ?_
      refine X.gn ?_
      refine X.gn ?_
      refine X.gn ?_
      refine X.pickT (by rfl) (by first | rfl | assumption) (by rfl) (by rfl) ?_
      refine X.mv ?_
      refine X.gn ?_
      refine X.gn ?_
      refine X.gn ?_
      refine X.gn ?_
      refine X.pickT (by rfl) (by first | rfl | assumption) (by rfl) (by rfl) ?_
      cases h
      exact X.endG (by trivial) (by trivial) (by rfl) (by rfl)
  replace h := h2; clear h2
  refine R.cond (by rfl) (fun hc9 => ?_) (fun hc9 => ?_)
  · replace h := condT hc9 h
    refine Run.sr ?_
    refine X.an ?_
    cases h
    refine R.fin1 Tryz.results169 (by rfl) (by rfl) ?_
    rfl
  · replace h := condF hc9 h
    refine Run.skip ?_
    refine Run.seq ?_
    refine Run.draw (footOf [(1, ([256], [], [], [])), (7, ([256], [], [], [])), (15, ([256], [], [], []))]) mixed (by kernel_rfl) (by kernel_rfl) ?_
    refine X.fieldAddr_l fld28_3 (by rfl) (by rfl) ?_
    refine X.ld shp25 ?_
    refine X.mv ?_
    obtain ⟨v10, hv10, h⟩ := bindE h
    refine X.index_s elt25 (by rfl) (by rfl) (idxL_spec hv10).1 (idxL_map eTResource hv10) (by rfl) (by rfl) (by rfl) ?_
    refine X.fieldAddr_c fld64_1 (by rfl) (by rfl) ?_
    refine X.load_c shp30 (by rfl) (by rfl) (by rfl) (by rfl) ?_
    refine X.fieldAddr_l fld28_1 (by rfl) (by rfl) ?_
    refine X.ld shp23 ?_
    refine X.mv ?_
    obtain ⟨v11, hv11, h⟩ := bindE h
    refine X.index_s elt23 (by rfl) (by rfl) (idxL_spec hv11).1 (idxL_map eTActivity hv11) (by rfl) (by rfl) (by rfl) ?_
    refine X.fieldAddr_c fld50_1 (by rfl) (by rfl) ?_
    refine X.load_c shp3 (by rfl) (by rfl) (by rfl) (by rfl) ?_
    obtain ⟨v12, hv12, h⟩ := bindE h
    refine X.index_s elt30 (by rfl) (by rfl) (idxL_spec hv12).1 (idxL_map l_int hv12) (by rfl) (by rfl) (by rfl) ?_
    refine X.load_c shp26 (by rfl) (by rfl) (by rfl) (by rfl) ?_
    refine X.fieldAddr_l fld28_1 (by rfl) (by rfl) ?_
    refine X.ld shp23 ?_
    refine X.mv ?_
    obtain ⟨v13, hv13, h⟩ := bindE h
    refine X.index_s elt23 (by rfl) (by rfl) (idxL_spec hv13).1 (idxL_map eTActivity hv13) (by rfl) (by rfl) (by rfl) ?_
    refine X.fieldAddr_c fld50_1 (by rfl) (by rfl) ?_
    refine X.load_c shp3 (by rfl) (by rfl) (by rfl) (by rfl) ?_
    obtain ⟨v14, hv14, h⟩ := bindE h
    refine X.index_s elt26 (by rfl) (by rfl) (idxL_spec hv14).1 (idxL_map int hv14) (by rfl) (by rfl) (by rfl) ?_
    refine X.load_c shp3 (by rfl) (by rfl) (by rfl) (by rfl) ?_
    refine X.an ?_
    cases h
    refine R.fin1 Tryz.results169 (by rfl) (by rfl) ?_
    rfl
theorem s_l02Min_pc (b0 : Int) (b1 : Int) (r : Int) (h : s_l02Min b0 b1 = some r) : PC Tryz.prog 168 [int b0, int b1] (int r) := by
  unfold s_l02Min at h
  refine PC.start Tryz.func168 Tryz.ntmps168 rfl ok168 rfl ?_
  refine Run.sr ?_
  refine X.an ?_
  refine Run.seq ?_
  refine Run.sr ?_
  refine X.mv ?_
  refine X.mv ?_
  refine X.bi ?_
  refine X.nil ?_
  refine R.cond (by rfl) (fun hc1 => ?_) (fun hc1 => ?_)
  · replace h := condT hc1 h
    refine Run.sr ?_
    refine X.mv ?_
    refine X.an ?_
    cases h
    refine R.fin1 Tryz.results168 (by rfl) (by rfl) ?_
    rfl
  · replace h := condF hc1 h
    refine Run.skip ?_
    refine Run.sr ?_
    refine X.mv ?_
    refine X.an ?_
    cases h
    refine R.fin1 Tryz.results168 (by rfl) (by rfl) ?_
    rfl
theorem s_l02Max_pc (b0 : Int) (b1 : Int) (r : Int) (h : s_l02Max b0 b1 = some r) : PC Tryz.prog 159 [int b0, int b1] (int r) := by
  unfold s_l02Max at h
  refine PC.start Tryz.func159 Tryz.ntmps159 rfl ok159 rfl ?_
  refine Run.sr ?_
  refine X.an ?_
  refine Run.seq ?_
  refine Run.sr ?_
  refine X.mv ?_
  refine X.mv ?_
  refine X.bi ?_
  refine X.nil ?_
  refine R.cond (by rfl) (fun hc1 => ?_) (fun hc1 => ?_)
  · replace h := condT hc1 h
    refine Run.sr ?_
    refine X.mv ?_
    refine X.an ?_
    cases h
    refine R.fin1 Tryz.results159 (by rfl) (by rfl) ?_
    rfl
  · replace h := condF hc1 h
    refine Run.skip ?_
    refine Run.sr ?_
    refine X.mv ?_
    refine X.an ?_
    cases h
    refine R.fin1 Tryz.results159 (by rfl) (by rfl) ?_
    rfl
theorem s_MachineBound_pc (b0 : TProject) (b1 : TDomain) (b2 : Int) (r : Int) (h : s_MachineBound b0 b1 b2 = some r) : PC Tryz.prog 71 [eTProject b0, eTDomain b1, int b2] (int r) := by
  unfold s_MachineBound at h
  refine PC.start Tryz.func71 Tryz.ntmps71 rfl ok71 rfl ?_
  refine Run.sr ?_
  refine X.box (by rfl) (by rfl) (by repeat (first | trivial | refine ⟨by first | rfl | simp [setL], ?_⟩)) (by rfl) (by rfl) (by rfl) (by rfl) ?_
  refine X.box (by rfl) (by rfl) (by repeat (first | trivial | refine ⟨by first | rfl | simp [setL], ?_⟩)) (by rfl) (by rfl) (by rfl) (by rfl) ?_
  refine X.an ?_
  refine Run.sr ?_
  refine X.ld shp28 ?_
  refine X.ld shp32 ?_
  refine X.mv ?_
  obtain ⟨v1, hv1, h⟩ := bindE h
  refine X.callP (s_MachineChain_pc _ _ _ _ hv1) (by rfl) (by rfl) (by rfl) (by trivial) (by rfl) (by rfl) (by rfl) (by rfl) ?_
  refine X.an ?_
  refine Run.seq ?_
  refine Run.sr ?_
  refine X.mv ?_
  refine X.len_s elt26 (by rfl) (by exact List.length_map ..) (by rfl) ?_
  refine X.bi ?_
  refine X.nil ?_
  refine R.cond (by rfl) (fun hc2 => ?_) (fun hc2 => ?_)
  · replace h := condT hc2 h
    refine Run.sr ?_
    refine X.an ?_
    cases h
    refine R.fin1 Tryz.results71 (by rfl) (by rfl) ?_
    rfl
  · replace h := condF hc2 h
    refine Run.skip ?_
    refine Run.seq ?_
    refine Run.draw (footOf [(1, ([256], [], [], []))]) mixed (by kernel_rfl) (by kernel_rfl) ?_
    refine X.fieldAddr_l fld32_0 (by rfl) (by rfl) ?_
    refine X.ld shp26 ?_
    refine X.mv ?_
    obtain ⟨v3, hv3, h⟩ := bindE h
    refine X.index_s elt26 (by rfl) (by rfl) (idxL_spec hv3).1 (idxL_map int hv3) (by rfl) (by rfl) (by rfl) ?_
    refine X.load_c shp3 (by rfl) (by rfl) (by rfl) (by rfl) ?_
    obtain ⟨v4, hv4, h⟩ := bindE h
    refine X.index_s elt26 (by rfl) (by rfl) (idxL_spec hv4).1 (idxL_map int hv4) (by rfl) (by rfl) (by rfl) ?_
    refine X.load_c shp3 (by rfl) (by rfl) (by rfl) (by rfl) ?_
    refine X.an ?_
    refine Run.sr ?_
    refine X.an ?_
    refine Run.seq ?_
    refine Run.sr ?_
    refine X.mv ?_
    refine X.len_s elt26 (by rfl) (by exact List.length_map ..) (by rfl) ?_
    refine X.mn ?_
    obtain ⟨o5, ho5, h⟩ := bindE h
    refine R.join2 (β := Int × Int) [] [] (fun p41 S => (8, int p41.1) :: (9, int p41.2) :: S) (fun p41 M => M) (fun p41 => p41 = o5) ?_ ?_
    · intro JJ8 hmeet7
      have hup6 := h; clear h; have h := ho5; clear ho5
      refine Run.block ?_
      refine R.bndS (t := 7) (by rfl) (fun hbd11 => ?_)
      replace hbd11 : v1.length ≤ 9223372036854775807 := by first | (rw [List.length_map] at hbd11; exact hbd11) | simp
      refine R.loop2 (β := Int × Int × Int) [(2, int b2), (3, .lptr 192 0), (4, .lptr 256 0), (7, .slice (v1.map int)), (29, .slice (v1.map int)), (30, int (v1.length : Int))] [(192, .blk true [int b0.Deadline, .slice (b0.Activities.map eTActivity), .slice (b0.Links.map eTLink), .slice (b0.Resources.map eTResource), .slice (b0.Stocks.map int)]), (256, .blk true [.slice (b1.MinStart.map int), .slice (b1.MaxStart.map int), .slice (b1.Modes.map l_int)])] (fun bb S => (8, int bb.2.1) :: (9, int bb.2.2) :: (31, int bb.1) :: S) (fun bb M => M) (fun n bb => 0 ≤ bb.1 ∧ bb.1 + n = (v1.length : Int) ∧ s_MachineBound_L1 b0 b1 b2 v1 (v1.drop bb.1.toNat) bb.1 bb.2.1 bb.2.2 = some o5) v1.length (0, v4, 0) (by repeat (first | trivial | refine ⟨by first | rfl | simp [setL], ?_⟩)) (by repeat (first | trivial | refine ⟨by first | rfl | simp [setL], ?_⟩)) (by rfl) (by rfl) ⟨Int.le_refl _, by simp, h⟩ ?_
      clear h
      rintro JJ11 n11 ⟨z12, a13, a14⟩ hag11 ⟨hza11, hzb11, h⟩
      dsimp only at hza11 hzb11 h
      refine Run.sr ?_
      refine X.bi ?_
      refine X.nil ?_
      refine Run.seq ?_
      refine R.cond (by rfl) (fun hc17 => ?_) (fun hc17 => ?_)
      · obtain ⟨x15, xs16, hd11, hx11, hds11, hlt11⟩ := drop_atI hza11 hc17
        rw [hd11] at h
        rw [s_MachineBound_L1] at h
        refine Run.skip ?_
        refine Run.seq ?_
        refine Run.block ?_
        refine Run.sr ?_
        refine X.index_s elt26 (by rfl) (by rfl) (idxL_spec hx11).1 (idxL_map int hx11) (by rfl) (by rfl) (by rfl) ?_
        refine X.load_c shp3 (by rfl) (by rfl) (by rfl) (by rfl) ?_
        refine X.an ?_
        refine Run.sr ?_
        refine X.mv ?_
        refine X.ld shp28 ?_
        refine X.ld shp32 ?_
        refine X.mv ?_
        obtain ⟨v18, hv18, h⟩ := bindE h
        refine X.callP (s_l14Short_pc _ _ _ _ hv18) (by rfl) (by rfl) (by rfl) (by trivial) (by rfl) (by rfl) (by rfl) (by rfl) ?_
        refine X.addW (by rfl) (by rfl) (by rfl) ?_
        refine X.an ?_
        refine Run.sr ?_
        refine X.an ?_
        refine Run.seq ?_
        refine Run.sr ?_
        refine X.mv ?_
        refine X.len_s elt26 (by rfl) (by exact List.length_map ..) (by rfl) ?_
        refine X.mn ?_
        obtain ⟨o19, ho19, h⟩ := bindE h
        refine R.join2 (β := Int) [(2, int b2), (3, .lptr 192 0), (4, .lptr 256 0), (7, .slice (v1.map int)), (8, int (W (a13 + v18))), (9, int a14), (29, .slice (v1.map int)), (30, int (v1.length : Int)), (31, int z12)] [(192, .blk true [int b0.Deadline, .slice (b0.Activities.map eTActivity), .slice (b0.Links.map eTLink), .slice (b0.Resources.map eTResource), .slice (b0.Stocks.map int)]), (256, .blk true [.slice (b1.MinStart.map int), .slice (b1.MaxStart.map int), .slice (b1.Modes.map l_int)])] (fun p38 S => (12, int p38) :: S) (fun p38 M => M) (fun p38 => p38 = o19) ?_ ?_
        · intro JJ22 hmeet21
          have hup20 := h; clear h; have h := ho19; clear ho19
          refine Run.block ?_
          refine R.bndS (t := 7) (by rfl) (fun hbd25 => ?_)
          replace hbd25 : v1.length ≤ 9223372036854775807 := by first | (rw [List.length_map] at hbd25; exact hbd25) | simp
          refine R.loop2 (β := Int × Int) [(2, int b2), (3, .lptr 192 0), (4, .lptr 256 0), (7, .slice (v1.map int)), (8, int (W (a13 + v18))), (9, int a14), (11, int x15), (29, .slice (v1.map int)), (30, int (v1.length : Int)), (31, int z12), (41, .slice (v1.map int)), (42, int (v1.length : Int))] [(192, .blk true [int b0.Deadline, .slice (b0.Activities.map eTActivity), .slice (b0.Links.map eTLink), .slice (b0.Resources.map eTResource), .slice (b0.Stocks.map int)]), (256, .blk true [.slice (b1.MinStart.map int), .slice (b1.MaxStart.map int), .slice (b1.Modes.map l_int)])] (fun bb S => (12, int bb.2) :: (43, int bb.1) :: S) (fun bb M => M) (fun n bb => 0 ≤ bb.1 ∧ bb.1 + n = (v1.length : Int) ∧ s_MachineBound_L2 b0 b2 x15 (v1.drop bb.1.toNat) bb.1 bb.2 = some o19) v1.length (0, 12) (by repeat (first | trivial | refine ⟨by first | rfl | simp [setL], ?_⟩)) (by repeat (first | trivial | refine ⟨by first | rfl | simp [setL], ?_⟩)) (by rfl) (by rfl) ⟨Int.le_refl _, by simp, h⟩ ?_
          clear h
          rintro JJ25 n25 ⟨z26, a27⟩ hag25 ⟨hza25, hzb25, h⟩
          dsimp only at hza25 hzb25 h
          refine Run.sr ?_
          refine X.bi ?_
          refine X.nil ?_
          refine Run.seq ?_
          refine R.cond (by rfl) (fun hc30 => ?_) (fun hc30 => ?_)
          · obtain ⟨x28, xs29, hd25, hx25, hds25, hlt25⟩ := drop_atI hza25 hc30
            rw [hd25] at h
            rw [s_MachineBound_L2] at h
            refine Run.skip ?_
            refine Run.seq ?_
            refine Run.block ?_
            refine Run.sr ?_
            refine X.index_s elt26 (by rfl) (by rfl) (idxL_spec hx25).1 (idxL_map int hx25) (by rfl) (by rfl) (by rfl) ?_
            refine X.load_c shp3 (by rfl) (by rfl) (by rfl) (by rfl) ?_
            refine X.an ?_
            refine Run.sr ?_
            refine X.mv ?_
            refine X.mv ?_
            refine X.bi ?_
            refine X.nil ?_
            refine R.cond (by rfl) (fun hc31 => ?_) (fun hc31 => ?_)
            · replace h := condT hc31 h
              refine Run.draw (footOf [(2, ([192], [], [], [])), (8, ([192], [], [], [])), (16, ([192], [], [], []))]) mixed (by kernel_rfl) (by kernel_rfl) ?_
              refine X.mv ?_
              refine X.fieldAddr_l fld28_3 (by rfl) (by rfl) ?_
              refine X.ld shp25 ?_
              refine X.mv ?_
              obtain ⟨v32, hv32, h⟩ := bindE h
              refine X.index_s elt25 (by rfl) (by rfl) (idxL_spec hv32).1 (idxL_map eTResource hv32) (by rfl) (by rfl) (by rfl) ?_
              refine X.fieldAddr_c fld64_1 (by rfl) (by rfl) ?_
              refine X.load_c shp30 (by rfl) (by rfl) (by rfl) (by rfl) ?_
              refine X.fieldAddr_l fld28_1 (by rfl) (by rfl) ?_
              refine X.ld shp23 ?_
              refine X.mv ?_
              obtain ⟨v33, hv33, h⟩ := bindE h
              refine X.index_s elt23 (by rfl) (by rfl) (idxL_spec hv33).1 (idxL_map eTActivity hv33) (by rfl) (by rfl) (by rfl) ?_
              refine X.fieldAddr_c fld50_1 (by rfl) (by rfl) ?_
              refine X.load_c shp3 (by rfl) (by rfl) (by rfl) (by rfl) ?_
              obtain ⟨v34, hv34, h⟩ := bindE h
              refine X.index_s elt30 (by rfl) (by rfl) (idxL_spec hv34).1 (idxL_map l_int hv34) (by rfl) (by rfl) (by rfl) ?_
              refine X.load_c shp26 (by rfl) (by rfl) (by rfl) (by rfl) ?_
              refine X.fieldAddr_l fld28_1 (by rfl) (by rfl) ?_
              refine X.ld shp23 ?_
              refine X.mv ?_
              obtain ⟨v35, hv35, h⟩ := bindE h
              refine X.index_s elt23 (by rfl) (by rfl) (idxL_spec hv35).1 (idxL_map eTActivity hv35) (by rfl) (by rfl) (by rfl) ?_
              refine X.fieldAddr_c fld50_1 (by rfl) (by rfl) ?_
              refine X.load_c shp3 (by rfl) (by rfl) (by rfl) (by rfl) ?_
              obtain ⟨v36, hv36, h⟩ := bindE h
              refine X.index_s elt26 (by rfl) (by rfl) (idxL_spec hv36).1 (idxL_map int hv36) (by rfl) (by rfl) (by rfl) ?_
              refine X.load_c shp3 (by rfl) (by rfl) (by rfl) (by rfl) ?_
              obtain ⟨v37, hv37, h⟩ := bindE h
              refine X.callP (s_l02Min_pc _ _ _ hv37) (by rfl) (by rfl) (by rfl) (by trivial) (by rfl) (by rfl) (by rfl) (by rfl) ?_
              refine X.an ?_
              refine Run.blk ?_
              refine Run.reg ?_
              refine X.add (by rfl) (by rfl) (by omega) (by rfl) ?_
              refine X.mn ?_
              exact hag25 (n25 - 1) (z26 + 1, v37) _ _ (by omega) ⟨by first | omega | (dsimp only; omega), by first | omega | (dsimp only; omega), by first | (rw [hds25]; exact h) | (dsimp only; rw [hds25]; exact h)⟩ (by trivial) (by trivial) (by rfl) (by rfl)
            · replace h := condF hc31 h
              refine Run.skip ?_
              refine Run.blk ?_
              refine Run.reg ?_
              refine X.add (by rfl) (by rfl) (by omega) (by rfl) ?_
              refine X.mn ?_
              exact hag25 (n25 - 1) (z26 + 1, a27) _ _ (by omega) ⟨by first | omega | (dsimp only; omega), by first | omega | (dsimp only; omega), by first | (rw [hds25]; exact h) | (dsimp only; rw [hds25]; exact h)⟩ (by trivial) (by trivial) (by rfl) (by rfl)
          · rw [drop_endI hza25 hc30] at h
            rw [s_MachineBound_L2] at h
            refine Run.exit (by rfl) ?_
            exact hmeet21 a27 _ _ (Option.some.inj h) (by trivial) (by trivial) (by rfl) (by rfl)
        rintro p38 rfl
        refine Run.sr ?_
        refine X.mv ?_
        refine X.len_s elt26 (by rfl) (by exact List.length_map ..) (by rfl) ?_
        refine X.bi ?_
        refine X.nil ?_
        refine R.cond (by rfl) (fun hc39 => ?_) (fun hc39 => ?_)
        · replace h := condT hc39 h
          refine Run.sr ?_
          refine X.mv ?_
          refine X.mv ?_
          refine X.addW (by rfl) (by rfl) (by rfl) ?_
          refine X.an ?_
          refine Run.reg ?_
          refine X.mv ?_
          refine X.mv ?_
          obtain ⟨v40, hv40, h⟩ := bindE h
          refine X.callP (s_l02Max_pc _ _ _ hv40) (by rfl) (by rfl) (by rfl) (by trivial) (by rfl) (by rfl) (by rfl) (by rfl) ?_
          refine X.an ?_
          refine Run.blk ?_
          refine Run.reg ?_
          refine X.add (by rfl) (by rfl) (by omega) (by rfl) ?_
          refine X.mn ?_
          exact hag11 (n11 - 1) (z12 + 1, (W ((W (a13 + v18)) + p38)), v40) _ _ (by omega) ⟨by first | omega | (dsimp only; omega), by first | omega | (dsimp only; omega), by first | (rw [hds11]; exact h) | (dsimp only; rw [hds11]; exact h)⟩ (by trivial) (by trivial) (by rfl) (by rfl)
        · replace h := condF hc39 h
          refine Run.skip ?_
          refine Run.blk ?_
          refine Run.reg ?_
          refine X.add (by rfl) (by rfl) (by omega) (by rfl) ?_
          refine X.mn ?_
          exact hag11 (n11 - 1) (z12 + 1, (W (a13 + v18)), a14) _ _ (by omega) ⟨by first | omega | (dsimp only; omega), by first | omega | (dsimp only; omega), by first | (rw [hds11]; exact h) | (dsimp only; rw [hds11]; exact h)⟩ (by trivial) (by trivial) (by rfl) (by rfl)
      · rw [drop_endI hza11 hc17] at h
        rw [s_MachineBound_L1] at h
        refine Run.exit (by rfl) ?_
        exact hmeet7 (a13, a14) _ _ (Option.some.inj h) (by trivial) (by trivial) (by rfl) (by rfl)
    rintro p41 rfl
    refine Run.sr ?_
    refine X.mv ?_
    refine X.mv ?_
    refine X.subW (by rfl) (by rfl) (by rfl) ?_
    refine X.an ?_
    cases h
    refine R.fin1 Tryz.results71 (by rfl) (by rfl) ?_
    rfl
theorem i_MachineBound_pc (b0 : TProject) (b1 : TDomain) (b2 : Int) (r : Int) (h : i_MachineBound b0 b1 b2 = some r) : PC Tryz.prog 72 [eTProject b0, eTDomain b1, int b2] (int r) := by
  unfold i_MachineBound at h
  refine PC.start Tryz.func72 Tryz.ntmps72 rfl ok72 rfl ?_
  refine Run.sr ?_
  refine X.box (by rfl) (by rfl) (by repeat (first | trivial | refine ⟨by first | rfl | simp [setL], ?_⟩)) (by rfl) (by rfl) (by rfl) (by rfl) ?_
  refine X.box (by rfl) (by rfl) (by repeat (first | trivial | refine ⟨by first | rfl | simp [setL], ?_⟩)) (by rfl) (by rfl) (by rfl) (by rfl) ?_
  refine X.an ?_
  refine Run.sr ?_
  refine X.ld shp28 ?_
  refine X.ld shp32 ?_
  refine X.mv ?_
  obtain ⟨v1, hv1, h⟩ := bindE h
  refine X.callF (PC.pubF (i_MachineChain_pc _ _ _ _ hv1)) (by rfl) (by rfl) (by rfl) (by trivial) (by rfl) (by rfl) (by rfl) (by rfl) ?_
  refine X.an ?_
  refine Run.seq ?_
  refine Run.sr ?_
  refine X.mv ?_
  refine X.len_o elt26 (by rfl) (by rfl) (by first | rfl | simp [setL] | omega) (by first | exact List.length_map .. | rfl) (by rfl) (by rfl) ?_
  refine X.bi ?_
  refine X.nil ?_
  refine R.cond (by rfl) (fun hc2 => ?_) (fun hc2 => ?_)
  · replace h := condT hc2 h
    refine Run.sr ?_
    refine X.an ?_
    cases h
    refine R.fin1 Tryz.results72 (by rfl) (by rfl) ?_
    rfl
  · replace h := condF hc2 h
    refine Run.skip ?_
    refine Run.seq ?_
    refine Run.draw (footOf [(1, ([256], [], [], [])), (3, ([1280], [], [], []))]) mixed (by kernel_rfl) (by kernel_rfl) ?_
    refine X.fieldAddr_l fld32_0 (by rfl) (by rfl) ?_
    refine X.ld shp26 ?_
    refine X.mv ?_
    obtain ⟨v3, hv3, h⟩ := bindE h
    refine X.index_o elt26 (by rfl) (by rfl) (by first | rfl | simp [setL] | omega) (by rfl) (idxL_spec hv3).1 (idxL_map int hv3) (by rfl) (by rfl) (by rfl) ?_
    refine X.load_c shp3 (by rfl) (by rfl) (by rfl) (by rfl) ?_
    obtain ⟨v4, hv4, h⟩ := bindE h
    refine X.index_s elt26 (by rfl) (by rfl) (idxL_spec hv4).1 (idxL_map int hv4) (by rfl) (by rfl) (by rfl) ?_
    refine X.load_c shp3 (by rfl) (by rfl) (by rfl) (by rfl) ?_
    refine X.as ?_
    refine X.an ?_
    refine Run.seq ?_
    refine Run.sr ?_
    refine X.mv ?_
    refine X.len_o elt26 (by rfl) (by rfl) (by first | rfl | simp [setL] | omega) (by first | exact List.length_map .. | rfl) (by rfl) (by rfl) ?_
    refine X.mn ?_
    obtain ⟨o5, ho5, h⟩ := bindE h
    refine R.join2 (β := Int × Int) [] [] (fun p38 S => (8, int p38.1) :: (9, int p38.2) :: S) (fun p38 M => M) (fun p38 => p38 = o5) ?_ ?_
    · intro JJ8 hmeet7
      have hup6 := h; clear h; have h := ho5; clear ho5
      refine Run.block ?_
      refine R.bndO (n := 1280) (by rfl) (fun hbd11 => ?_)
      replace hbd11 : v1.length ≤ 9223372036854775807 := by first | (rw [List.length_map] at hbd11; exact hbd11) | simp
      refine R.loop2 (β := Int × Int × Int) [(2, int b2), (3, .lptr 192 0), (4, .lptr 256 0), (32, int (v1.length : Int))] [(192, .blk true [int b0.Deadline, .slice (b0.Activities.map eTActivity), .slice (b0.Links.map eTLink), .slice (b0.Resources.map eTResource), .slice (b0.Stocks.map int)]), (256, .blk true [.slice (b1.MinStart.map int), .slice (b1.MaxStart.map int), .slice (b1.Modes.map l_int)]), (1280, .obj false 3 1 (v1.map int))] (fun bb S => (7, .own 1280 (v1.map int).length) :: (8, int bb.2.1) :: (9, int bb.2.2) :: (31, .own 1280 (v1.map int).length) :: (33, int bb.1) :: S) (fun bb M => M) (fun n bb => 0 ≤ bb.1 ∧ bb.1 + n = (v1.length : Int) ∧ i_MachineBound_L1 b0 b1 b2 v1 (v1.drop bb.1.toNat) bb.1 bb.2.1 bb.2.2 = some o5) v1.length (0, v4, 0) (by repeat (first | trivial | refine ⟨by first | rfl | simp [setL], ?_⟩)) (by repeat (first | trivial | refine ⟨by first | rfl | simp [setL], ?_⟩)) (by rfl) (by rfl) ⟨Int.le_refl _, by simp, h⟩ ?_
      clear h
      rintro JJ11 n11 ⟨z12, a13, a14⟩ hag11 ⟨hza11, hzb11, h⟩
      dsimp only at hza11 hzb11 h
      refine Run.sr ?_
      refine X.bi ?_
      refine X.nil ?_
      refine Run.seq ?_
      refine R.cond (by rfl) (fun hc17 => ?_) (fun hc17 => ?_)
      · obtain ⟨x15, xs16, hd11, hx11, hds11, hlt11⟩ := drop_atI hza11 hc17
        rw [hd11] at h
        rw [i_MachineBound_L1] at h
        refine Run.skip ?_
        refine Run.seq ?_
        refine Run.block ?_
        refine Run.sr ?_
        refine X.index_o elt26 (by rfl) (by rfl) (by first | rfl | simp [setL] | omega) (by rfl) (idxL_spec hx11).1 (idxL_map int hx11) (by rfl) (by rfl) (by rfl) ?_
        refine X.load_c shp3 (by rfl) (by rfl) (by rfl) (by rfl) ?_
        refine X.an ?_
        refine Run.sr ?_
        refine X.as ?_
        refine X.an ?_
        refine Run.seq ?_
        refine Run.sr ?_
        refine X.mv ?_
        refine X.len_o elt26 (by rfl) (by rfl) (by first | rfl | simp [setL] | omega) (by first | exact List.length_map .. | rfl) (by rfl) (by rfl) ?_
        refine X.mn ?_
        obtain ⟨o18, ho18, h⟩ := bindE h
        refine R.join2 (β := Int) [(2, int b2), (3, .lptr 192 0), (4, .lptr 256 0), (8, int a13), (9, int a14), (11, int x15), (32, int (v1.length : Int)), (33, int z12)] [(192, .blk true [int b0.Deadline, .slice (b0.Activities.map eTActivity), .slice (b0.Links.map eTLink), .slice (b0.Resources.map eTResource), .slice (b0.Stocks.map int)]), (256, .blk true [.slice (b1.MinStart.map int), .slice (b1.MaxStart.map int), .slice (b1.Modes.map l_int)]), (1280, .obj false 3 1 (v1.map int))] (fun p36 S => (7, .own 1280 (v1.map int).length) :: (12, int p36) :: (31, .own 1280 (v1.map int).length) :: S) (fun p36 M => M) (fun p36 => p36 = o18) ?_ ?_
        · intro JJ21 hmeet20
          have hup19 := h; clear h; have h := ho18; clear ho18
          refine Run.block ?_
          refine R.bndO (n := 1280) (by rfl) (fun hbd24 => ?_)
          replace hbd24 : v1.length ≤ 9223372036854775807 := by first | (rw [List.length_map] at hbd24; exact hbd24) | simp
          refine R.loop2 (β := Int × Int × Bool) [(2, int b2), (3, .lptr 192 0), (4, .lptr 256 0), (8, int a13), (9, int a14), (11, int x15), (32, int (v1.length : Int)), (33, int z12), (38, int (v1.length : Int))] [(192, .blk true [int b0.Deadline, .slice (b0.Activities.map eTActivity), .slice (b0.Links.map eTLink), .slice (b0.Resources.map eTResource), .slice (b0.Stocks.map int)]), (256, .blk true [.slice (b1.MinStart.map int), .slice (b1.MaxStart.map int), .slice (b1.Modes.map l_int)]), (1280, .obj false 3 1 (v1.map int))] (fun bb S => (7, .own 1280 (v1.map int).length) :: (12, int bb.2.1) :: (13, bool bb.2.2) :: (31, .own 1280 (v1.map int).length) :: (37, .own 1280 (v1.map int).length) :: (39, int bb.1) :: S) (fun bb M => M) (fun n bb => 0 ≤ bb.1 ∧ bb.1 + n = (v1.length : Int) ∧ i_MachineBound_L2 b0 b2 x15 (v1.drop bb.1.toNat) bb.1 bb.2.1 bb.2.2 = some o18) v1.length (0, 0, false) (by repeat (first | trivial | refine ⟨by first | rfl | simp [setL], ?_⟩)) (by repeat (first | trivial | refine ⟨by first | rfl | simp [setL], ?_⟩)) (by rfl) (by rfl) ⟨Int.le_refl _, by simp, h⟩ ?_
          clear h
          rintro JJ24 n24 ⟨z25, a26, a27⟩ hag24 ⟨hza24, hzb24, h⟩
          dsimp only at hza24 hzb24 h
          refine Run.sr ?_
          refine X.bi ?_
          refine X.nil ?_
          refine Run.seq ?_
          refine R.cond (by rfl) (fun hc30 => ?_) (fun hc30 => ?_)
          · obtain ⟨x28, xs29, hd24, hx24, hds24, hlt24⟩ := drop_atI hza24 hc30
            rw [hd24] at h
            rw [i_MachineBound_L2] at h
            refine Run.skip ?_
            refine Run.seq ?_
            refine Run.block ?_
            refine Run.sr ?_
            refine X.index_o elt26 (by rfl) (by rfl) (by first | rfl | simp [setL] | omega) (by rfl) (idxL_spec hx24).1 (idxL_map int hx24) (by rfl) (by rfl) (by rfl) ?_
            refine X.load_c shp3 (by rfl) (by rfl) (by rfl) (by rfl) ?_
            refine X.an ?_
            refine Run.sr ?_
            refine X.ld shp28 ?_
            refine X.mv ?_
            refine X.mv ?_
            refine X.mv ?_
            obtain ⟨v31, hv31, h⟩ := bindE h
            refine X.callP (i_SetupTime_pc _ _ _ _ _ hv31) (by rfl) (by rfl) (by rfl) (by trivial) (by rfl) (by rfl) (by rfl) (by rfl) ?_
            refine X.an ?_
            refine Run.seq ?_
            obtain ⟨e32, he32, h2⟩ := bindE h
            refine R.regG [(2, int b2), (3, .lptr 192 0), (4, .lptr 256 0), (7, .own 1280 (v1.map int).length), (8, int a13), (9, int a14), (11, int x15), (12, int a26), (13, bool a27), (16, int v31), (31, .own 1280 (v1.map int).length), (32, int (v1.length : Int)), (33, int z12), (37, .own 1280 (v1.map int).length), (38, int (v1.length : Int)), (39, int z25), (59, bool e32)] [(192, .blk true [int b0.Deadline, .slice (b0.Activities.map eTActivity), .slice (b0.Links.map eTLink), .slice (b0.Resources.map eTResource), .slice (b0.Stocks.map int)]), (256, .blk true [.slice (b1.MinStart.map int), .slice (b1.MaxStart.map int), .slice (b1.Modes.map l_int)]), (1280, .obj false 3 1 (v1.map int))] ?_ ?_
            · clear h; have h := he32; clear he32 h2
              refine X.mv ?_
              refine X.mv ?_
              refine X.bi ?_
              refine X.mv ?_
              refine X.ifG (by rfl) (by rfl) (by rfl) (fun hb33 => ?_) (fun hb33 => ?_)
              · replace h := condT hb33 h
                refine X.mv ?_
                refine X.gy ?_
                refine X.un (by rfl) (by rfl) (by rfl) ?_
                refine X.gy ?_
                refine X.mv ?_
                refine X.ifG (by rfl) (by rfl) (by rfl) (fun hb34 => ?_) (fun hb34 => ?_)
                · replace h := condF hb34 h
                  refine X.mv ?_
                  refine X.gy ?_
                  refine X.mv ?_
                  refine X.gy ?_
                  refine X.bi ?_
                  refine X.gy ?_
                  refine X.pickF (by rfl) (by first | rfl | assumption) (by rfl) (by rfl) ?_
                  refine X.pickT (by rfl) (by first | rfl | assumption) (by rfl) (by rfl) ?_
                  cases h
                  exact X.endG (by repeat (first | trivial | refine ⟨by first | rfl | simp [setL], ?_⟩)) (by repeat (first | trivial | refine ⟨by first | rfl | simp [setL], ?_⟩)) (by rfl) (by rfl)
                · replace h := condT hb34 h
                  refine X.gn ?_
                  refine X.gn ?_
                  refine X.gy ?_
                  refine X.pickT (by rfl) (by first | rfl | assumption) (by rfl) (by rfl) ?_
                  refine X.pickT (by rfl) (by first | rfl | assumption) (by rfl) (by rfl) ?_
                  cases h
                  exact X.endG (by repeat (first | trivial | refine ⟨by first | rfl | simp [setL], ?_⟩)) (by repeat (first | trivial | refine ⟨by first | rfl | simp [setL], ?_⟩)) (by rfl) (by rfl)
              · replace h := condF hb33 h
                refine X.gn ?_
                refine X.gn ?_
                refine X.gU (by rfl) (by rfl) (by rfl) ?_
                refine X.gU (by rfl) (by rfl) (by rfl) ?_
                refine X.gU (by rfl) (by rfl) (by rfl) ?_
                refine X.gn ?_
                refine X.pickF (by rfl) (by first | rfl | assumption) (by rfl) (by rfl) ?_
                cases h
                exact X.endG (by repeat (first | trivial | refine ⟨by first | rfl | simp [setL], ?_⟩)) (by repeat (first | trivial | refine ⟨by first | rfl | simp [setL], ?_⟩)) (by rfl) (by rfl)
            replace h := h2; clear h2
            refine R.cond (by rfl) (fun hc35 => ?_) (fun hc35 => ?_)
            · replace h := condT hc35 h
              refine Run.reg ?_
              refine X.mv ?_
              refine X.as ?_
              refine X.an ?_
              refine Run.blk ?_
              refine Run.reg ?_
              refine X.add (by rfl) (by rfl) (by omega) (by rfl) ?_
              refine X.mn ?_
              exact hag24 (n24 - 1) (z25 + 1, v31, true) _ _ (by omega) ⟨by first | omega | (dsimp only; omega), by first | omega | (dsimp only; omega), by first | (rw [hds24]; exact h) | (dsimp only; rw [hds24]; exact h)⟩ (by repeat (first | trivial | refine ⟨by first | rfl | simp [setL], ?_⟩)) (by repeat (first | trivial | refine ⟨by first | rfl | simp [setL], ?_⟩)) (by rfl) (by rfl)
            · replace h := condF hc35 h
              refine Run.skip ?_
              refine Run.blk ?_
              refine Run.reg ?_
              refine X.add (by rfl) (by rfl) (by omega) (by rfl) ?_
              refine X.mn ?_
              exact hag24 (n24 - 1) (z25 + 1, a26, a27) _ _ (by omega) ⟨by first | omega | (dsimp only; omega), by first | omega | (dsimp only; omega), by first | (rw [hds24]; exact h) | (dsimp only; rw [hds24]; exact h)⟩ (by repeat (first | trivial | refine ⟨by first | rfl | simp [setL], ?_⟩)) (by repeat (first | trivial | refine ⟨by first | rfl | simp [setL], ?_⟩)) (by rfl) (by rfl)
          · rw [drop_endI hza24 hc30] at h
            rw [i_MachineBound_L2] at h
            refine Run.exit (by rfl) ?_
            exact hmeet20 a26 _ _ (Option.some.inj h) (by repeat (first | trivial | refine ⟨by first | rfl | simp [setL], ?_⟩)) (by repeat (first | trivial | refine ⟨by first | rfl | simp [setL], ?_⟩)) (by rfl) (by rfl)
        rintro p36 rfl
        refine Run.sr ?_
        refine X.mv ?_
        refine X.ld shp28 ?_
        refine X.ld shp32 ?_
        refine X.mv ?_
        obtain ⟨v37, hv37, h⟩ := bindE h
        refine X.callP (i_Project_duration_pc _ _ _ _ hv37) (by rfl) (by rfl) (by rfl) (by trivial) (by rfl) (by rfl) (by rfl) (by rfl) ?_
        refine X.mv ?_
        refine X.addW (by rfl) (by rfl) (by rfl) ?_
        refine X.addW (by rfl) (by rfl) (by rfl) ?_
        refine X.an ?_
        refine Run.reg ?_
        refine X.mv ?_
        refine X.mv ?_
        refine X.max2 (by rfl) (by rfl) (by rfl) ?_
        refine X.an ?_
        refine Run.blk ?_
        refine Run.reg ?_
        refine X.add (by rfl) (by rfl) (by omega) (by rfl) ?_
        refine X.mn ?_
        exact hag11 (n11 - 1) (z12 + 1, (W (a13 + (W (v37 + p36)))), (max a14 p36)) _ _ (by omega) ⟨by first | omega | (dsimp only; omega), by first | omega | (dsimp only; omega), by first | (rw [hds11]; exact h) | (dsimp only; rw [hds11]; exact h)⟩ (by repeat (first | trivial | refine ⟨by first | rfl | simp [setL], ?_⟩)) (by repeat (first | trivial | refine ⟨by first | rfl | simp [setL], ?_⟩)) (by rfl) (by rfl)
      · rw [drop_endI hza11 hc17] at h
        rw [i_MachineBound_L1] at h
        refine Run.exit (by rfl) ?_
        exact hmeet7 (a13, a14) _ _ (Option.some.inj h) (by repeat (first | trivial | refine ⟨by first | rfl | simp [setL], ?_⟩)) (by repeat (first | trivial | refine ⟨by first | rfl | simp [setL], ?_⟩)) (by rfl) (by rfl)
    rintro p38 rfl
    refine Run.sr ?_
    refine X.mv ?_
    refine X.mv ?_
    refine X.subW (by rfl) (by rfl) (by rfl) ?_
    refine X.an ?_
    cases h
    refine R.fin1 Tryz.results72 (by rfl) (by rfl) ?_
    rfl
end Go.Px.YtjncefleglnnjaaGreat
