/-
  PROVED: contracts of functions of the program over pure values. No condition beyond those that each theorem names.
-/
import Derived.Test.YtjncefleglnnjaaGreatProg
import Derived.Test.YtjncefleglnnjaaGreatD1
import Derived.Test.YtjncefleglnnjaaGreatC2
import Derived.Test.YtjncefleglnnjaaGreatC4
namespace Go.Px.YtjncefleglnnjaaGreat
set_option linter.unusedSimpArgs false
set_option linter.unusedVariables false
open Go.Px Go.Proofs
theorem pl32 : fldPlaces Tryz.prog 32 = some [(0, 1), (1, 1), (2, 1)] := by kernel_rfl
theorem ok170 : okFn Tryz.prog 170 = true := by kernel_rfl
theorem ok73 : okFn Tryz.prog 73 = true := by kernel_rfl
theorem ok171 : okFn Tryz.prog 171 = true := by kernel_rfl
theorem ok74 : okFn Tryz.prog 74 = true := by kernel_rfl
theorem ok17 : okFn Tryz.prog 17 = true := by kernel_rfl
theorem s_l12Of_pc (b0 : TProject) (r : TDomain) (h : s_l12Of b0 = some r) : PC Tryz.prog 170 [eTProject b0] (.agg [.fresh false 3 1 (r.MinStart.map int), .fresh false 3 1 (r.MaxStart.map int), .fresh false 26 1 (r.Modes.map l_int)]) := by
  unfold s_l12Of at h
  refine PC.start Tryz.func170 Tryz.ntmps170 rfl ok170 rfl ?_
  refine Run.sr ?_
  refine X.box (by rfl) (by rfl) (by repeat (first | trivial | refine ⟨by first | rfl | simp [setL], ?_⟩)) (by rfl) (by rfl) (by rfl) (by rfl) ?_
  refine X.alloc zer32 (by rfl) (by rfl) (by rfl) ?_
  refine X.nil ?_
  refine Run.sr ?_
  refine X.build zer32 pl32 (by rfl) (by rfl) (by repeat (first | trivial | refine ⟨by first | rfl | simp [setL], ?_⟩)) (by rfl) (by rfl) (by rfl) ?_
  refine X.alloc zer32 (by rfl) (by rfl) (by rfl) ?_
  refine X.store_l shp32 (by rfl) (by rfl) (by rfl) (by rfl) (by repeat (first | trivial | refine ⟨by first | rfl | simp [setL], ?_⟩)) (by rfl) (by rfl) (by rfl) ?_
  refine X.nil ?_
  refine Run.seq ?_
  refine Run.sr ?_
  refine X.fieldAddr_l fld28_1 (by rfl) (by rfl) ?_
  refine X.ld shp23 ?_
  refine X.len_s elt23 (by rfl) (by exact List.length_map ..) (by rfl) ?_
  refine X.mn ?_
  obtain ⟨o1, ho1, h⟩ := bindE h
  refine R.join2 (β := (List Int) × (List Int) × (List (List Int))) [(2, .lptr 128 0), (3, .lptr 192 0)] [(128, .blk true [.nils, .nils, .nils])] (fun p19 S => S) (fun p19 M => (192, .blk true [.own 1088 (p19.1.map int).length, .own 1600 (p19.2.1.map int).length, .own 2048 (p19.2.2.map l_int).length]) :: (1088, .obj false 3 1 (p19.1.map int)) :: (1600, .obj false 3 1 (p19.2.1.map int)) :: (2048, .obj false 26 1 (p19.2.2.map l_int)) :: M) (fun p19 => p19 = o1) ?_ ?_
  · intro JJ4 hmeet3
    have hup2 := h; clear h; have h := ho1; clear ho1
    refine Run.block ?_
    refine R.nilOwnB (m := 192) 0 1088 false 3 1 (by rfl) (by rfl) (by rfl) (by rfl) (by rfl) ?_
    refine R.nilOwnB (m := 192) 1 1600 false 3 1 (by rfl) (by rfl) (by rfl) (by rfl) (by rfl) ?_
    refine R.nilOwnB (m := 192) 2 2048 false 26 1 (by rfl) (by rfl) (by rfl) (by rfl) (by rfl) ?_
    refine R.bndS (t := 8) (by rfl) (fun hbd7 => ?_)
    replace hbd7 : b0.Activities.length ≤ 9223372036854775807 := by first | (rw [List.length_map] at hbd7; exact hbd7) | simp
    refine R.loop2 (β := Int × (List Int) × (List Int) × (List (List Int))) [(1, .lptr 64 0), (2, .lptr 128 0), (3, .lptr 192 0), (8, .slice (b0.Activities.map eTActivity)), (9, int (b0.Activities.length : Int))] [(64, .blk true [int b0.Deadline, .slice (b0.Activities.map eTActivity), .slice (b0.Links.map eTLink), .slice (b0.Resources.map eTResource), .slice (b0.Stocks.map int)]), (128, .blk true [.nils, .nils, .nils])] (fun bb S => (10, int bb.1) :: S) (fun bb M => (192, .blk true [.own 1088 (bb.2.1.map int).length, .own 1600 (bb.2.2.1.map int).length, .own 2048 (bb.2.2.2.map l_int).length]) :: (1088, .obj false 3 1 (bb.2.1.map int)) :: (1600, .obj false 3 1 (bb.2.2.1.map int)) :: (2048, .obj false 26 1 (bb.2.2.2.map l_int)) :: M) (fun n bb => 0 ≤ bb.1 ∧ bb.1 + n = (b0.Activities.length : Int) ∧ s_l12Of_L1 b0 (b0.Activities.drop bb.1.toNat) bb.1 bb.2.1 bb.2.2.1 bb.2.2.2 = some o1) b0.Activities.length (0, ([] : List Int), ([] : List Int), ([] : List (List Int))) (by repeat (first | trivial | refine ⟨by first | rfl | simp [setL], ?_⟩)) (by repeat (first | trivial | refine ⟨by first | rfl | simp [setL], ?_⟩)) (by rfl) (by rfl) ⟨Int.le_refl _, by simp, h⟩ ?_
    clear h
    rintro JJ7 n7 ⟨z8, a9, a10, a11⟩ hag7 ⟨hza7, hzb7, h⟩
    dsimp only at hza7 hzb7 h
    refine Run.sr ?_
    refine X.bi ?_
    refine X.nil ?_
    refine Run.seq ?_
    refine R.cond (by rfl) (fun hc14 => ?_) (fun hc14 => ?_)
    · obtain ⟨x12, xs13, hd7, hx7, hds7, hlt7⟩ := drop_atI hza7 hc14
      rw [hd7] at h
      rw [s_l12Of_L1] at h
      refine Run.skip ?_
      refine Run.seq ?_
      refine Run.block ?_
      refine Run.sr ?_
      refine X.index_s elt23 (by rfl) (by rfl) (idxL_spec hx7).1 (idxL_map eTActivity hx7) (by rfl) (by rfl) (by rfl) ?_
      refine X.load_c shp50 (by rfl) (by rfl) (by rfl) (by rfl) ?_
      refine X.alloc zer50 (by rfl) (by rfl) (by rfl) ?_
      refine X.store_l shp50 (by rfl) (by rfl) (by rfl) (by rfl) (by repeat (first | trivial | refine ⟨by first | rfl | simp [setL], ?_⟩)) (by rfl) (by rfl) (by rfl) ?_
      refine X.nil ?_
      refine Run.sr ?_
      refine X.fieldAddr_l fld32_0 (by rfl) (by rfl) ?_
      refine X.ld shp26 ?_
      refine X.buildSlice false elt26 zer3 (by rfl) (by rfl) (by rfl) (by rfl) (by rfl) (by rfl) (by repeat (first | trivial | refine ⟨by first | rfl | simp [setL], ?_⟩)) (allSz_spec (by rfl)) (by rfl) (by rfl) (by rfl) ?_
      obtain ⟨v15, hv15, h⟩ := bindE h
      refine X.append elt26 zer3 (by rfl) (by rfl) (by first | rfl | simp [setL] | omega) (by rfl) (.own _ _ _ _ _ _ (look_mem (by rfl)) (by first | rfl | simp [setL] | omega)) (allSz_spec (by rfl)) (appL_len int hv15) (appL_map int hv15) (by rfl) (by rfl) (by rfl) (by rfl) ?_
      refine X.fieldAddr_l fld32_0 (by rfl) (by rfl) ?_
      refine X.store_l shp26 (by rfl) (by rfl) (by rfl) (by rfl) (by repeat (first | trivial | refine ⟨by first | rfl | simp [setL], ?_⟩)) (by rfl) (by rfl) (by rfl) ?_
      refine X.nil ?_
      refine Run.sr ?_
      refine X.fieldAddr_l fld32_1 (by rfl) (by rfl) ?_
      refine X.ld shp26 ?_
      refine X.fieldAddr_l fld28_0 (by rfl) (by rfl) ?_
      refine X.ld shp3 ?_
      refine X.subW (by rfl) (by rfl) (by rfl) ?_
      refine X.buildSlice false elt26 zer3 (by rfl) (by rfl) (by rfl) (by rfl) (by rfl) (by rfl) (by repeat (first | trivial | refine ⟨by first | rfl | simp [setL], ?_⟩)) (allSz_spec (by rfl)) (by rfl) (by rfl) (by rfl) ?_
      obtain ⟨v16, hv16, h⟩ := bindE h
      refine X.append elt26 zer3 (by rfl) (by rfl) (by first | rfl | simp [setL] | omega) (by rfl) (.own _ _ _ _ _ _ (look_mem (by rfl)) (by first | rfl | simp [setL] | omega)) (allSz_spec (by rfl)) (appL_len int hv16) (appL_map int hv16) (by rfl) (by rfl) (by rfl) (by rfl) ?_
      refine X.fieldAddr_l fld32_1 (by rfl) (by rfl) ?_
      refine X.store_l shp26 (by rfl) (by rfl) (by rfl) (by rfl) (by repeat (first | trivial | refine ⟨by first | rfl | simp [setL], ?_⟩)) (by rfl) (by rfl) (by rfl) ?_
      refine X.nil ?_
      refine Run.draw (footOf [(1, ([192], [], [], [])), (2, ([320], [], [], [])), (3, ([], [1920], [], [])), (4, ([1920, 1984], [1984], [], [])), (5, ([1984, 2048], [2048], [], [])), (7, ([192, 2048], [192], [], []))]) mixed (by kernel_rfl) (by kernel_rfl) ?_
      refine X.fieldAddr_l fld32_2 (by rfl) (by rfl) ?_
      refine X.ld shp30 ?_
      refine X.ld shp50 ?_
      obtain ⟨v17, hv17, h⟩ := bindE h
      refine X.callF (s_ModeIndexes_pc _ _ hv17) (by rfl) (by rfl) (by rfl) (by trivial) (by rfl) (by rfl) (by rfl) (by rfl) ?_
      refine X.buildSlice false elt30 zer26 (by rfl) (by rfl) (by rfl) (by rfl) (by rfl) (by rfl) (by repeat (first | trivial | refine ⟨by first | rfl | simp [setL], ?_⟩)) (allSz_spec (by rfl)) (by rfl) (by rfl) (by rfl) ?_
      obtain ⟨v18, hv18, h⟩ := bindE h
      refine X.append elt30 zer26 (by rfl) (by rfl) (by first | rfl | simp [setL] | omega) (by rfl) (.own _ _ _ _ _ _ (look_mem (by rfl)) (by first | rfl | simp [setL] | omega)) (allSz_spec (by rfl)) (appL_len l_int hv18) (appL_map l_int hv18) (by rfl) (by rfl) (by rfl) (by rfl) ?_
      refine X.fieldAddr_l fld32_2 (by rfl) (by rfl) ?_
      refine X.store_l shp30 (by rfl) (by rfl) (by rfl) (by rfl) (by repeat (first | trivial | refine ⟨by first | rfl | simp [setL], ?_⟩)) (by rfl) (by rfl) (by rfl) ?_
      refine X.nil ?_
      refine Run.blk ?_
      refine Run.reg ?_
      refine X.add (by rfl) (by rfl) (by omega) (by rfl) ?_
      refine X.mn ?_
      exact hag7 (n7 - 1) (z8 + 1, v15, v16, v18) _ _ (by omega) ⟨by first | omega | (dsimp only; omega), by first | omega | (dsimp only; omega), by first | (rw [hds7]; exact h) | (dsimp only; rw [hds7]; exact h)⟩ (by repeat (first | trivial | refine ⟨by first | rfl | simp [setL], ?_⟩)) (by repeat (first | trivial | refine ⟨by first | rfl | simp [setL], ?_⟩)) (by rfl) (by rfl)
    · rw [drop_endI hza7 hc14] at h
      rw [s_l12Of_L1] at h
      refine Run.exit (by rfl) ?_
      exact hmeet3 (a9, a10, a11) _ _ (Option.some.inj h) (by repeat (first | trivial | refine ⟨by first | rfl | simp [setL], ?_⟩)) (by repeat (first | trivial | refine ⟨by first | rfl | simp [setL], ?_⟩)) (by rfl) (by rfl)
  rintro p19 rfl
  refine Run.sr ?_
  refine X.ld shp32 ?_
  refine X.store_l shp32 (by rfl) (by rfl) (by rfl) (by rfl) (by repeat (first | trivial | refine ⟨by first | rfl | simp [setL], ?_⟩)) (by rfl) (by rfl) (by rfl) ?_
  refine X.nil ?_
  cases h
  refine R.finC Tryz.results170 shp32 (by rfl) (by rfl) (by rfl) (by rfl) (by repeat (first | trivial | refine ⟨by first | rfl | simp [setL], ?_⟩)) ?_
  rfl
theorem s_MachineLowerBound_pc (b0 : TProject) (r : Int) (h : s_MachineLowerBound b0 = some r) : PC Tryz.prog 73 [eTProject b0] (int r) := by
  unfold s_MachineLowerBound at h
  refine PC.start Tryz.func73 Tryz.ntmps73 rfl ok73 rfl ?_
  refine Run.sr ?_
  refine X.box (by rfl) (by rfl) (by repeat (first | trivial | refine ⟨by first | rfl | simp [setL], ?_⟩)) (by rfl) (by rfl) (by rfl) (by rfl) ?_
  refine X.an ?_
  refine Run.sr ?_
  refine X.an ?_
  refine Run.seq ?_
  refine Run.sr ?_
  refine X.ld shp28 ?_
  obtain ⟨v1, hv1, h⟩ := bindE h
  refine X.callP (s_ProjectOk_pc _ _ hv1) (by rfl) (by rfl) (by rfl) (by trivial) (by rfl) (by rfl) (by rfl) (by rfl) ?_
  refine X.un (by rfl) (by rfl) (by rfl) ?_
  refine X.nil ?_
  refine R.cond (by rfl) (fun hc2 => ?_) (fun hc2 => ?_)
  · replace h := condT hc2 h
    refine Run.sr ?_
    refine X.an ?_
    cases h
    refine R.fin1 Tryz.results73 (by rfl) (by rfl) ?_
    rfl
  · replace h := condF hc2 h
    refine Run.skip ?_
    refine Run.seq ?_
    refine Run.sr ?_
    refine X.fieldAddr_l fld28_3 (by rfl) (by rfl) ?_
    refine X.ld shp25 ?_
    refine X.len_s elt25 (by rfl) (by exact List.length_map ..) (by rfl) ?_
    refine X.mn ?_
    obtain ⟨o3, ho3, h⟩ := bindE h
    refine R.join2 (β := Int) [] [] (fun p18 S => (3, int p18) :: S) (fun p18 M => M) (fun p18 => p18 = o3) ?_ ?_
    · intro JJ6 hmeet5
      have hup4 := h; clear h; have h := ho3; clear ho3
      refine Run.block ?_
      refine R.bndS (t := 9) (by rfl) (fun hbd9 => ?_)
      replace hbd9 : b0.Resources.length ≤ 9223372036854775807 := by first | (rw [List.length_map] at hbd9; exact hbd9) | simp
      refine R.loop2 (β := Int × Int) [(1, .lptr 64 0), (10, int (b0.Resources.length : Int))] [(64, .blk true [int b0.Deadline, .slice (b0.Activities.map eTActivity), .slice (b0.Links.map eTLink), .slice (b0.Resources.map eTResource), .slice (b0.Stocks.map int)])] (fun bb S => (3, int bb.2) :: (11, int bb.1) :: S) (fun bb M => M) (fun n bb => 0 ≤ bb.1 ∧ bb.1 + n = (b0.Resources.length : Int) ∧ s_MachineLowerBound_L1 b0 (b0.Resources.drop bb.1.toNat) bb.1 bb.2 = some o3) b0.Resources.length (0, 0) (by repeat (first | trivial | refine ⟨by first | rfl | simp [setL], ?_⟩)) (by repeat (first | trivial | refine ⟨by first | rfl | simp [setL], ?_⟩)) (by rfl) (by rfl) ⟨Int.le_refl _, by simp, h⟩ ?_
      clear h
      rintro JJ9 n9 ⟨z10, a11⟩ hag9 ⟨hza9, hzb9, h⟩
      dsimp only at hza9 hzb9 h
      refine Run.sr ?_
      refine X.bi ?_
      refine X.nil ?_
      refine Run.seq ?_
      refine R.cond (by rfl) (fun hc14 => ?_) (fun hc14 => ?_)
      · obtain ⟨x12, xs13, hd9, hx9, hds9, hlt9⟩ := drop_atI hza9 hc14
        rw [hd9] at h
        rw [s_MachineLowerBound_L1] at h
        refine Run.skip ?_
        refine Run.seq ?_
        refine Run.block ?_
        refine Run.sr ?_
        refine X.mv ?_
        refine X.an ?_
        refine Run.draw (footOf [(1, ([64], [], [], [])), (2, ([64], [], [], [])), (3, ([], [1088, 1089, 1090], [], [])), (5, ([1088, 1089, 1090], [], [], []))]) mixed (by kernel_rfl) (by kernel_rfl) ?_
        refine X.mv ?_
        refine X.ld shp28 ?_
        refine X.ld shp28 ?_
        obtain ⟨v15, hv15, h⟩ := bindE h
        refine X.callA (s_l12Of_pc _ _ hv15) (by rfl) (by rfl) (by rfl) (by trivial) (by rfl) (by rfl) (by rfl) (by rfl) (by rfl) (by rfl) ?_
        refine X.mv ?_
        obtain ⟨v16, hv16, h⟩ := bindE h
        refine X.callP (s_MachineBound_pc _ _ _ _ hv16) (by rfl) (by rfl) (by rfl) (by repeat (first | trivial | refine ⟨by first | rfl | simp [setL], ?_⟩)) (by rfl) (by rfl) (by rfl) (by rfl) ?_
        obtain ⟨v17, hv17, h⟩ := bindE h
        refine X.callP (s_l02Max_pc _ _ _ hv17) (by rfl) (by rfl) (by rfl) (by trivial) (by rfl) (by rfl) (by rfl) (by rfl) ?_
        refine X.an ?_
        refine Run.blk ?_
        refine Run.reg ?_
        refine X.add (by rfl) (by rfl) (by omega) (by rfl) ?_
        refine X.mn ?_
        exact hag9 (n9 - 1) (z10 + 1, v17) _ _ (by omega) ⟨by first | omega | (dsimp only; omega), by first | omega | (dsimp only; omega), by first | (rw [hds9]; exact h) | (dsimp only; rw [hds9]; exact h)⟩ (by repeat (first | trivial | refine ⟨by first | rfl | simp [setL], ?_⟩)) (by repeat (first | trivial | refine ⟨by first | rfl | simp [setL], ?_⟩)) (by rfl) (by rfl)
      · rw [drop_endI hza9 hc14] at h
        rw [s_MachineLowerBound_L1] at h
        refine Run.exit (by rfl) ?_
        exact hmeet5 a11 _ _ (Option.some.inj h) (by trivial) (by trivial) (by rfl) (by rfl)
    rintro p18 rfl
    refine Run.sr ?_
    refine X.mv ?_
    refine X.an ?_
    cases h
    refine R.fin1 Tryz.results73 (by rfl) (by rfl) ?_
    rfl
theorem i_InitialDomain_pc (b0 : TProject) (r : TDomain) (h : i_InitialDomain b0 = some r) : PC Tryz.prog 171 [eTProject b0] (.agg [.fresh false 3 1 (r.MinStart.map int), .fresh false 3 1 (r.MaxStart.map int), .fresh false 26 1 (r.Modes.map l_int)]) := by
  unfold i_InitialDomain at h
  refine PC.start Tryz.func171 Tryz.ntmps171 rfl ok171 rfl ?_
  refine Run.sr ?_
  refine X.box (by rfl) (by rfl) (by repeat (first | trivial | refine ⟨by first | rfl | simp [setL], ?_⟩)) (by rfl) (by rfl) (by rfl) (by rfl) ?_
  refine X.alloc zer32 (by rfl) (by rfl) (by rfl) ?_
  refine X.nil ?_
  refine Run.sr ?_
  refine X.build zer32 pl32 (by rfl) (by rfl) (by repeat (first | trivial | refine ⟨by first | rfl | simp [setL], ?_⟩)) (by rfl) (by rfl) (by rfl) ?_
  refine X.alloc zer32 (by rfl) (by rfl) (by rfl) ?_
  refine X.store_l shp32 (by rfl) (by rfl) (by rfl) (by rfl) (by repeat (first | trivial | refine ⟨by first | rfl | simp [setL], ?_⟩)) (by rfl) (by rfl) (by rfl) ?_
  refine X.nil ?_
  refine Run.seq ?_
  refine Run.sr ?_
  refine X.ld shp28 ?_
  obtain ⟨v1, hv1, h⟩ := bindE h
  refine X.callP (i_ProjectOk_pc _ _ hv1) (by rfl) (by rfl) (by rfl) (by trivial) (by rfl) (by rfl) (by rfl) (by rfl) ?_
  refine X.un (by rfl) (by rfl) (by rfl) ?_
  refine X.nil ?_
  refine R.cond (by rfl) (fun hc2 => ?_) (fun hc2 => ?_)
  · replace h := condT hc2 h
    refine Run.sr ?_
    refine X.ld shp32 ?_
    refine X.store_l shp32 (by rfl) (by rfl) (by rfl) (by rfl) (by repeat (first | trivial | refine ⟨by first | rfl | simp [setL], ?_⟩)) (by rfl) (by rfl) (by rfl) ?_
    refine X.nil ?_
    cases h
    refine R.nilOwnB (m := 128) 0 168 false 3 1 (by rfl) (by rfl) (by rfl) (by rfl) (by rfl) ?_
    refine R.nilOwnB (m := 128) 1 169 false 3 1 (by rfl) (by rfl) (by rfl) (by rfl) (by rfl) ?_
    refine R.nilOwnB (m := 128) 2 170 false 26 1 (by rfl) (by rfl) (by rfl) (by rfl) (by rfl) ?_
    refine R.finC Tryz.results171 shp32 (by rfl) (by rfl) (by rfl) (by rfl) (by repeat (first | trivial | refine ⟨by first | rfl | simp [setL], ?_⟩)) ?_
    rfl
  · replace h := condF hc2 h
    refine Run.skip ?_
    refine Run.seq ?_
    refine Run.sr ?_
    refine X.fieldAddr_l fld28_1 (by rfl) (by rfl) ?_
    refine X.ld shp23 ?_
    refine X.len_s elt23 (by rfl) (by exact List.length_map ..) (by rfl) ?_
    refine X.mn ?_
    obtain ⟨o3, ho3, h⟩ := bindE h
    refine R.join2 (β := (List Int) × (List Int) × (List (List Int))) [(2, .lptr 128 0), (3, .lptr 192 0)] [(128, .blk true [.nils, .nils, .nils])] (fun p21 S => S) (fun p21 M => (192, .blk true [.own 1344 (p21.1.map int).length, .own 1792 (p21.2.1.map int).length, .own 2176 (p21.2.2.map l_int).length]) :: (1344, .obj false 3 1 (p21.1.map int)) :: (1792, .obj false 3 1 (p21.2.1.map int)) :: (2176, .obj false 26 1 (p21.2.2.map l_int)) :: M) (fun p21 => p21 = o3) ?_ ?_
    · intro JJ6 hmeet5
      have hup4 := h; clear h; have h := ho3; clear ho3
      refine Run.block ?_
      refine R.nilOwnB (m := 192) 0 1344 false 3 1 (by rfl) (by rfl) (by rfl) (by rfl) (by rfl) ?_
      refine R.nilOwnB (m := 192) 1 1792 false 3 1 (by rfl) (by rfl) (by rfl) (by rfl) (by rfl) ?_
      refine R.nilOwnB (m := 192) 2 2176 false 26 1 (by rfl) (by rfl) (by rfl) (by rfl) (by rfl) ?_
      refine R.bndS (t := 12) (by rfl) (fun hbd9 => ?_)
      replace hbd9 : b0.Activities.length ≤ 9223372036854775807 := by first | (rw [List.length_map] at hbd9; exact hbd9) | simp
      refine R.loop2 (β := Int × (List Int) × (List Int) × (List (List Int))) [(1, .lptr 64 0), (2, .lptr 128 0), (3, .lptr 192 0), (12, .slice (b0.Activities.map eTActivity)), (13, int (b0.Activities.length : Int))] [(64, .blk true [int b0.Deadline, .slice (b0.Activities.map eTActivity), .slice (b0.Links.map eTLink), .slice (b0.Resources.map eTResource), .slice (b0.Stocks.map int)]), (128, .blk true [.nils, .nils, .nils])] (fun bb S => (14, int bb.1) :: S) (fun bb M => (192, .blk true [.own 1344 (bb.2.1.map int).length, .own 1792 (bb.2.2.1.map int).length, .own 2176 (bb.2.2.2.map l_int).length]) :: (1344, .obj false 3 1 (bb.2.1.map int)) :: (1792, .obj false 3 1 (bb.2.2.1.map int)) :: (2176, .obj false 26 1 (bb.2.2.2.map l_int)) :: M) (fun n bb => 0 ≤ bb.1 ∧ bb.1 + n = (b0.Activities.length : Int) ∧ i_InitialDomain_L1 b0 (b0.Activities.drop bb.1.toNat) bb.1 bb.2.1 bb.2.2.1 bb.2.2.2 = some o3) b0.Activities.length (0, ([] : List Int), ([] : List Int), ([] : List (List Int))) (by repeat (first | trivial | refine ⟨by first | rfl | simp [setL], ?_⟩)) (by repeat (first | trivial | refine ⟨by first | rfl | simp [setL], ?_⟩)) (by rfl) (by rfl) ⟨Int.le_refl _, by simp, h⟩ ?_
      clear h
      rintro JJ9 n9 ⟨z10, a11, a12, a13⟩ hag9 ⟨hza9, hzb9, h⟩
      dsimp only at hza9 hzb9 h
      refine Run.sr ?_
      refine X.bi ?_
      refine X.nil ?_
      refine Run.seq ?_
      refine R.cond (by rfl) (fun hc16 => ?_) (fun hc16 => ?_)
      · obtain ⟨x14, xs15, hd9, hx9, hds9, hlt9⟩ := drop_atI hza9 hc16
        rw [hd9] at h
        rw [i_InitialDomain_L1] at h
        refine Run.skip ?_
        refine Run.seq ?_
        refine Run.block ?_
        refine Run.sr ?_
        refine X.index_s elt23 (by rfl) (by rfl) (idxL_spec hx9).1 (idxL_map eTActivity hx9) (by rfl) (by rfl) (by rfl) ?_
        refine X.load_c shp50 (by rfl) (by rfl) (by rfl) (by rfl) ?_
        refine X.alloc zer50 (by rfl) (by rfl) (by rfl) ?_
        refine X.store_l shp50 (by rfl) (by rfl) (by rfl) (by rfl) (by repeat (first | trivial | refine ⟨by first | rfl | simp [setL], ?_⟩)) (by rfl) (by rfl) (by rfl) ?_
        refine X.nil ?_
        refine Run.draw (footOf [(1, ([192], [], [], [])), (2, ([1280], [1280], [], [])), (3, ([1280, 1344], [1344], [], [])), (5, ([192], [], [], [])), (7, ([64], [], [], [])), (9, ([1728], [1728], [], [])), (10, ([1728, 1792], [1792], [], [])), (12, ([192], [], [], [])), (13, ([320], [], [], [])), (14, ([], [2048], [], [])), (15, ([2048, 2112], [2112], [], [])), (16, ([2112, 2176], [2176], [], [])), (18, ([192, 1344], [192], [], [])), (20, ([192, 1792], [192], [], [])), (22, ([192, 2176], [192], [], []))]) mixed (by kernel_rfl) (by kernel_rfl) ?_
        refine X.fieldAddr_l fld32_0 (by rfl) (by rfl) ?_
        refine X.ld shp26 ?_
        refine X.buildSlice false elt26 zer3 (by rfl) (by rfl) (by rfl) (by rfl) (by rfl) (by rfl) (by repeat (first | trivial | refine ⟨by first | rfl | simp [setL], ?_⟩)) (allSz_spec (by rfl)) (by rfl) (by rfl) (by rfl) ?_
        obtain ⟨v17, hv17, h⟩ := bindE h
        refine X.append elt26 zer3 (by rfl) (by rfl) (by first | rfl | simp [setL] | omega) (by rfl) (.own _ _ _ _ _ _ (look_mem (by rfl)) (by first | rfl | simp [setL] | omega)) (allSz_spec (by rfl)) (appL_len int hv17) (appL_map int hv17) (by rfl) (by rfl) (by rfl) (by rfl) ?_
        refine X.fieldAddr_l fld32_1 (by rfl) (by rfl) ?_
        refine X.ld shp26 ?_
        refine X.fieldAddr_l fld28_0 (by rfl) (by rfl) ?_
        refine X.ld shp3 ?_
        refine X.subW (by rfl) (by rfl) (by rfl) ?_
        refine X.buildSlice false elt26 zer3 (by rfl) (by rfl) (by rfl) (by rfl) (by rfl) (by rfl) (by repeat (first | trivial | refine ⟨by first | rfl | simp [setL], ?_⟩)) (allSz_spec (by rfl)) (by rfl) (by rfl) (by rfl) ?_
        obtain ⟨v18, hv18, h⟩ := bindE h
        refine X.append elt26 zer3 (by rfl) (by rfl) (by first | rfl | simp [setL] | omega) (by rfl) (.own _ _ _ _ _ _ (look_mem (by rfl)) (by first | rfl | simp [setL] | omega)) (allSz_spec (by rfl)) (appL_len int hv18) (appL_map int hv18) (by rfl) (by rfl) (by rfl) (by rfl) ?_
        refine X.fieldAddr_l fld32_2 (by rfl) (by rfl) ?_
        refine X.ld shp30 ?_
        refine X.ld shp50 ?_
        obtain ⟨v19, hv19, h⟩ := bindE h
        refine X.callF (i_ModeIndexes_pc _ _ hv19) (by rfl) (by rfl) (by rfl) (by trivial) (by rfl) (by rfl) (by rfl) (by rfl) ?_
        refine X.buildSlice false elt30 zer26 (by rfl) (by rfl) (by rfl) (by rfl) (by rfl) (by rfl) (by repeat (first | trivial | refine ⟨by first | rfl | simp [setL], ?_⟩)) (allSz_spec (by rfl)) (by rfl) (by rfl) (by rfl) ?_
        obtain ⟨v20, hv20, h⟩ := bindE h
        refine X.append elt30 zer26 (by rfl) (by rfl) (by first | rfl | simp [setL] | omega) (by rfl) (.own _ _ _ _ _ _ (look_mem (by rfl)) (by first | rfl | simp [setL] | omega)) (allSz_spec (by rfl)) (appL_len l_int hv20) (appL_map l_int hv20) (by rfl) (by rfl) (by rfl) (by rfl) ?_
        refine X.fieldAddr_l fld32_0 (by rfl) (by rfl) ?_
        refine X.store_l shp26 (by rfl) (by rfl) (by rfl) (by rfl) (by repeat (first | trivial | refine ⟨by first | rfl | simp [setL], ?_⟩)) (by rfl) (by rfl) (by rfl) ?_
        refine X.fieldAddr_l fld32_1 (by rfl) (by rfl) ?_
        refine X.store_l shp26 (by rfl) (by rfl) (by rfl) (by rfl) (by repeat (first | trivial | refine ⟨by first | rfl | simp [setL], ?_⟩)) (by rfl) (by rfl) (by rfl) ?_
        refine X.fieldAddr_l fld32_2 (by rfl) (by rfl) ?_
        refine X.store_l shp30 (by rfl) (by rfl) (by rfl) (by rfl) (by repeat (first | trivial | refine ⟨by first | rfl | simp [setL], ?_⟩)) (by rfl) (by rfl) (by rfl) ?_
        refine X.nil ?_
        refine Run.blk ?_
        refine Run.reg ?_
        refine X.add (by rfl) (by rfl) (by omega) (by rfl) ?_
        refine X.mn ?_
        exact hag9 (n9 - 1) (z10 + 1, v17, v18, v20) _ _ (by omega) ⟨by first | omega | (dsimp only; omega), by first | omega | (dsimp only; omega), by first | (rw [hds9]; exact h) | (dsimp only; rw [hds9]; exact h)⟩ (by repeat (first | trivial | refine ⟨by first | rfl | simp [setL], ?_⟩)) (by repeat (first | trivial | refine ⟨by first | rfl | simp [setL], ?_⟩)) (by rfl) (by rfl)
      · rw [drop_endI hza9 hc16] at h
        rw [i_InitialDomain_L1] at h
        refine Run.exit (by rfl) ?_
        exact hmeet5 (a11, a12, a13) _ _ (Option.some.inj h) (by repeat (first | trivial | refine ⟨by first | rfl | simp [setL], ?_⟩)) (by repeat (first | trivial | refine ⟨by first | rfl | simp [setL], ?_⟩)) (by rfl) (by rfl)
    rintro p21 rfl
    refine Run.sr ?_
    refine X.ld shp32 ?_
    refine X.store_l shp32 (by rfl) (by rfl) (by rfl) (by rfl) (by repeat (first | trivial | refine ⟨by first | rfl | simp [setL], ?_⟩)) (by rfl) (by rfl) (by rfl) ?_
    refine X.nil ?_
    cases h
    refine R.finC Tryz.results171 shp32 (by rfl) (by rfl) (by rfl) (by rfl) (by repeat (first | trivial | refine ⟨by first | rfl | simp [setL], ?_⟩)) ?_
    rfl
theorem i_MachineLowerBound_pc (b0 : TProject) (r : Int) (h : i_MachineLowerBound b0 = some r) : PC Tryz.prog 74 [eTProject b0] (int r) := by
  unfold i_MachineLowerBound at h
  refine PC.start Tryz.func74 Tryz.ntmps74 rfl ok74 rfl ?_
  refine Run.sr ?_
  refine X.box (by rfl) (by rfl) (by repeat (first | trivial | refine ⟨by first | rfl | simp [setL], ?_⟩)) (by rfl) (by rfl) (by rfl) (by rfl) ?_
  refine X.an ?_
  refine Run.seq ?_
  refine Run.sr ?_
  refine X.ld shp28 ?_
  obtain ⟨v1, hv1, h⟩ := bindE h
  refine X.callP (i_ProjectOk_pc _ _ hv1) (by rfl) (by rfl) (by rfl) (by trivial) (by rfl) (by rfl) (by rfl) (by rfl) ?_
  refine X.un (by rfl) (by rfl) (by rfl) ?_
  refine X.nil ?_
  refine R.cond (by rfl) (fun hc2 => ?_) (fun hc2 => ?_)
  · replace h := condT hc2 h
    refine Run.sr ?_
    refine X.an ?_
    cases h
    refine R.fin1 Tryz.results74 (by rfl) (by rfl) ?_
    rfl
  · replace h := condF hc2 h
    refine Run.skip ?_
    refine Run.sr ?_
    refine X.an ?_
    refine Run.seq ?_
    refine Run.sr ?_
    refine X.fieldAddr_l fld28_3 (by rfl) (by rfl) ?_
    refine X.ld shp25 ?_
    refine X.len_s elt25 (by rfl) (by exact List.length_map ..) (by rfl) ?_
    refine X.mn ?_
    obtain ⟨o3, ho3, h⟩ := bindE h
    refine R.join2 (β := Int) [] [] (fun p17 S => (3, int p17) :: S) (fun p17 M => M) (fun p17 => p17 = o3) ?_ ?_
    · intro JJ6 hmeet5
      have hup4 := h; clear h; have h := ho3; clear ho3
      refine Run.block ?_
      refine R.bndS (t := 9) (by rfl) (fun hbd9 => ?_)
      replace hbd9 : b0.Resources.length ≤ 9223372036854775807 := by first | (rw [List.length_map] at hbd9; exact hbd9) | simp
      refine R.loop2 (β := Int × Int) [(1, .lptr 64 0), (10, int (b0.Resources.length : Int))] [(64, .blk true [int b0.Deadline, .slice (b0.Activities.map eTActivity), .slice (b0.Links.map eTLink), .slice (b0.Resources.map eTResource), .slice (b0.Stocks.map int)])] (fun bb S => (3, int bb.2) :: (11, int bb.1) :: S) (fun bb M => M) (fun n bb => 0 ≤ bb.1 ∧ bb.1 + n = (b0.Resources.length : Int) ∧ i_MachineLowerBound_L1 b0 (b0.Resources.drop bb.1.toNat) bb.1 bb.2 = some o3) b0.Resources.length (0, 0) (by repeat (first | trivial | refine ⟨by first | rfl | simp [setL], ?_⟩)) (by repeat (first | trivial | refine ⟨by first | rfl | simp [setL], ?_⟩)) (by rfl) (by rfl) ⟨Int.le_refl _, by simp, h⟩ ?_
      clear h
      rintro JJ9 n9 ⟨z10, a11⟩ hag9 ⟨hza9, hzb9, h⟩
      dsimp only at hza9 hzb9 h
      refine Run.sr ?_
      refine X.bi ?_
      refine X.nil ?_
      refine Run.seq ?_
      refine R.cond (by rfl) (fun hc14 => ?_) (fun hc14 => ?_)
      · obtain ⟨x12, xs13, hd9, hx9, hds9, hlt9⟩ := drop_atI hza9 hc14
        rw [hd9] at h
        rw [i_MachineLowerBound_L1] at h
        refine Run.skip ?_
        refine Run.seq ?_
        refine Run.block ?_
        refine Run.sr ?_
        refine X.mv ?_
        refine X.an ?_
        refine Run.draw (footOf [(1, ([64], [], [], [])), (2, ([64], [], [], [])), (3, ([], [1088, 1089, 1090], [], [])), (5, ([1088, 1089, 1090], [], [], []))]) mixed (by kernel_rfl) (by kernel_rfl) ?_
        refine X.mv ?_
        refine X.ld shp28 ?_
        refine X.ld shp28 ?_
        obtain ⟨v15, hv15, h⟩ := bindE h
        refine X.callA (i_InitialDomain_pc _ _ hv15) (by rfl) (by rfl) (by rfl) (by trivial) (by rfl) (by rfl) (by rfl) (by rfl) (by rfl) (by rfl) ?_
        refine X.mv ?_
        obtain ⟨v16, hv16, h⟩ := bindE h
        refine X.callP (i_MachineBound_pc _ _ _ _ hv16) (by rfl) (by rfl) (by rfl) (by repeat (first | trivial | refine ⟨by first | rfl | simp [setL], ?_⟩)) (by rfl) (by rfl) (by rfl) (by rfl) ?_
        refine X.max2 (by rfl) (by rfl) (by rfl) ?_
        refine X.an ?_
        refine Run.blk ?_
        refine Run.reg ?_
        refine X.add (by rfl) (by rfl) (by omega) (by rfl) ?_
        refine X.mn ?_
        exact hag9 (n9 - 1) (z10 + 1, (max a11 v16)) _ _ (by omega) ⟨by first | omega | (dsimp only; omega), by first | omega | (dsimp only; omega), by first | (rw [hds9]; exact h) | (dsimp only; rw [hds9]; exact h)⟩ (by repeat (first | trivial | refine ⟨by first | rfl | simp [setL], ?_⟩)) (by repeat (first | trivial | refine ⟨by first | rfl | simp [setL], ?_⟩)) (by rfl) (by rfl)
      · rw [drop_endI hza9 hc14] at h
        rw [i_MachineLowerBound_L1] at h
        refine Run.exit (by rfl) ?_
        exact hmeet5 a11 _ _ (Option.some.inj h) (by trivial) (by trivial) (by rfl) (by rfl)
    rintro p17 rfl
    refine Run.sr ?_
    refine X.mv ?_
    refine X.an ?_
    cases h
    refine R.fin1 Tryz.results74 (by rfl) (by rfl) ?_
    rfl
theorem w_FnExactMachineLowerBound_pc (b0 : TProject) (r : Bool) (h : w_FnExactMachineLowerBound b0 = some r) : PC Tryz.prog 17 [eTProject b0] (bool r) := by
  unfold w_FnExactMachineLowerBound at h
  refine PC.start Tryz.func17 Tryz.ntmps17 rfl ok17 rfl ?_
  refine Run.sr ?_
  refine X.box (by rfl) (by rfl) (by repeat (first | trivial | refine ⟨by first | rfl | simp [setL], ?_⟩)) (by rfl) (by rfl) (by rfl) (by rfl) ?_
  refine X.an ?_
  refine Run.sr ?_
  refine X.an ?_
  refine Run.sr ?_
  refine X.ld shp69 ?_
  refine X.mv ?_
  obtain ⟨v1, hv1, h⟩ := bindE h
  refine X.callP (w_szProject_pc _ _ _ hv1) (by rfl) (by rfl) (by rfl) (by trivial) (by rfl) (by rfl) (by rfl) (by rfl) ?_
  refine X.an ?_
  refine Run.seq ?_
  refine Run.sr ?_
  refine X.mv ?_
  refine X.bi ?_
  refine X.nil ?_
  refine R.cond (by rfl) (fun hc2 => ?_) (fun hc2 => ?_)
  · replace h := condT hc2 h
    refine Run.sr ?_
    refine X.an ?_
    cases h
    refine R.fin1 Tryz.results17 (by rfl) (by rfl) ?_
    rfl
  · replace h := condF hc2 h
    refine Run.skip ?_
    refine Run.sr ?_
    refine X.ld shp69 ?_
    obtain ⟨v3, hv3, h⟩ := bindE h
    refine X.callA (PC.ofY (ps := [eTProject b0]) (w_toProject_pc _ _ hv3) (by rfl) (by rfl)) (by rfl) (by rfl) (by rfl) (by trivial) (by rfl) (by rfl) (by rfl) (by rfl) (by rfl) (by rfl) ?_
    obtain ⟨v4, hv4, h⟩ := bindE h
    refine X.callP (s_MachineLowerBound_pc _ _ hv4) (by rfl) (by rfl) (by rfl) (by repeat (first | trivial | refine ⟨by first | rfl | simp [setL], ?_⟩)) (by rfl) (by rfl) (by rfl) (by rfl) ?_
    refine X.an ?_
    refine Run.sr ?_
    refine X.ld shp69 ?_
    obtain ⟨v5, hv5, h⟩ := bindE h
    refine X.callA (PC.ofY (ps := [eTProject b0]) (w_toProject_pc _ _ hv5) (by rfl) (by rfl)) (by rfl) (by rfl) (by rfl) (by trivial) (by rfl) (by rfl) (by rfl) (by rfl) (by rfl) (by rfl) ?_
    refine X.alloc zer28 (by rfl) (by rfl) (by rfl) ?_
    refine X.store_l shp28 (by rfl) (by rfl) (by rfl) (by rfl) (by repeat (first | trivial | refine ⟨by first | rfl | simp [setL], ?_⟩)) (by rfl) (by rfl) (by rfl) ?_
    refine X.nil ?_
    refine Run.sr ?_
    refine X.ld shp28 ?_
    obtain ⟨v6, hv6, h⟩ := bindE h
    refine X.callP (i_MachineLowerBound_pc _ _ hv6) (by rfl) (by rfl) (by rfl) (by repeat (first | trivial | refine ⟨by first | rfl | simp [setL], ?_⟩)) (by rfl) (by rfl) (by rfl) (by rfl) ?_
    refine X.an ?_
    refine Run.seq ?_
    refine Run.sr ?_
    refine X.mv ?_
    refine X.mv ?_
    refine X.bi ?_
    refine X.nil ?_
    refine R.cond (by rfl) (fun hc7 => ?_) (fun hc7 => ?_)
    · replace h := condT hc7 h
      refine Run.sr ?_
      refine X.an ?_
      cases h
      refine R.fin1 Tryz.results17 (by rfl) (by rfl) ?_
      rfl
    · replace h := condF hc7 h
      refine Run.skip ?_
      refine Run.seq ?_
      refine Run.seq ?_
      refine Run.draw (footOf [(0, ([320], [], [], [])), (1, ([64], [], [], [])), (2, ([], [1536, 1537, 1538, 1539], [], [])), (3, ([1024, 1025, 1026, 1027, 1536, 1537, 1538, 1539], [], [], []))]) mixed (by kernel_rfl) (by kernel_rfl) ?_
      refine X.ld shp28 ?_
      refine X.ld shp69 ?_
      obtain ⟨v8, hv8, h⟩ := bindE h
      refine X.callA (PC.ofY (ps := [eTProject b0]) (w_toProject_pc _ _ hv8) (by rfl) (by rfl)) (by rfl) (by rfl) (by rfl) (by trivial) (by rfl) (by rfl) (by rfl) (by rfl) (by rfl) (by rfl) ?_
      obtain ⟨v9, hv9, h⟩ := bindE h
      refine X.callP (w_eqProject_pc _ _ _ hv9) (by rfl) (by rfl) (by rfl) (by repeat (first | trivial | refine ⟨by first | rfl | simp [setL], ?_⟩)) (by rfl) (by rfl) (by rfl) (by rfl) ?_
      refine X.un (by rfl) (by rfl) (by rfl) ?_
      refine X.nil ?_
      refine R.cond (by rfl) (fun hc10 => ?_) (fun hc10 => ?_)
      · replace h := condT hc10 h
        refine Run.sr ?_
        refine X.an ?_
        cases h
        refine R.fin1 Tryz.results17 (by rfl) (by rfl) ?_
        rfl
      · replace h := condF hc10 h
        refine Run.skip ?_
        refine Run.sr ?_
        refine X.an ?_
        cases h
        refine R.fin1 Tryz.results17 (by rfl) (by rfl) ?_
        rfl
end Go.Px.YtjncefleglnnjaaGreat
