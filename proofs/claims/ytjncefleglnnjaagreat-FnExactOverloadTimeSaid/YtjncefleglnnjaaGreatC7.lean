/-
  PROVED: contracts of functions of the program over pure values. No condition beyond those that each theorem names.
-/
import Derived.Test.YtjncefleglnnjaaGreatProg
import Derived.Test.YtjncefleglnnjaaGreatD1
import Derived.Test.YtjncefleglnnjaaGreatC3
import Derived.Test.YtjncefleglnnjaaGreatC5
namespace Go.Px.YtjncefleglnnjaaGreat
set_option linter.unusedSimpArgs false
set_option linter.unusedVariables false
open Go.Px Go.Proofs
theorem ok271 : okFn Tryz.prog 271 = true := by kernel_rfl
theorem ok167 : okFn Tryz.prog 167 = true := by kernel_rfl
theorem ok234 : okFn Tryz.prog 234 = true := by kernel_rfl
theorem ok123 : okFn Tryz.prog 123 = true := by kernel_rfl
theorem s_MinDuration_pc (b0 : TActivity) (b1 : List Int) (r : Int) (h : s_MinDuration b0 b1 = some r) : PC Tryz.prog 271 [eTActivity b0, .slice (b1.map int)] (int r) := by
  unfold s_MinDuration at h
  refine PC.start Tryz.func271 Tryz.ntmps271 rfl ok271 rfl ?_
  refine Run.seq ?_
  refine Run.reg ?_
  refine X.box (by rfl) (by rfl) (by repeat (first | exact trivial | refine ⟨by rfl, ?_⟩ | refine ⟨by simp [setL], ?_⟩)) (by rfl) (by rfl) (by rfl) (by rfl) ?_
  refine X.assign (by rfl) (by rfl) ?_
  refine X.nil ?_
  refine Run.seq ?_
  refine Run.reg ?_
  refine X.assign (by rfl) (by rfl) ?_
  refine X.nil ?_
  refine Run.seq ?_
  refine Run.reg ?_
  refine X.assign (by rfl) (by rfl) ?_
  refine X.nil ?_
  refine Run.seq ?_
  refine Run.seq ?_
  refine Run.reg ?_
  refine X.fieldAddr_l fld50_2 (by rfl) (by rfl) ?_
  refine X.load_l shp48 (by rfl) (by rfl) (by rfl) (by rfl) (by rfl) (by rfl) ?_
  refine X.len_s elt48 (by rfl) (by exact List.length_map ..) (by rfl) ?_
  refine X.move (by rfl) (by rfl) ?_
  refine X.nil ?_
  obtain ⟨o1, ho1, h⟩ := bindE h
  refine R.join2 (β := Int) [] [] (fun p19 S => (5, int p19) :: S) (fun p19 M => M) (fun p19 => p19 = o1) ?_ ?_
  · intro JJ4 hmeet3
    have hup2 := h; clear h; have h := ho1; clear ho1
    refine Run.block ?_
    refine R.bndS (t := 10) (by rfl) (fun hbd7 => ?_)
    replace hbd7 : b0.Modes.length ≤ 9223372036854775807 := by first | (rw [List.length_map] at hbd7; exact hbd7) | simp
    refine R.loop2 (β := Int × Int × Bool) [(1, .slice (b1.map int)), (10, .slice (b0.Modes.map eTMode)), (11, int (b0.Modes.length : Int))] [] (fun bb S => (5, int bb.2.1) :: (6, bool bb.2.2) :: (12, int bb.1) :: S) (fun bb M => M) (fun n bb => 0 ≤ bb.1 ∧ bb.1 + n = (b0.Modes.length : Int) ∧ s_MinDuration_L1 b1 (b0.Modes.drop bb.1.toNat) bb.1 bb.2.1 bb.2.2 = some o1) b0.Modes.length (0, 0, false) (by repeat (first | exact trivial | refine ⟨by rfl, ?_⟩ | refine ⟨by simp [setL], ?_⟩)) (by repeat (first | exact trivial | refine ⟨by rfl, ?_⟩ | refine ⟨by simp [setL], ?_⟩)) (by rfl) (by rfl) ⟨Int.le_refl _, by simp, h⟩ ?_
    clear h
    rintro JJ7 n7 ⟨z8, a9, a10⟩ hag7 ⟨hza7, hzb7, h⟩
    dsimp only at hza7 hzb7 h
    refine Run.seq ?_
    refine Run.reg ?_
    refine X.bin (by rfl) (by rfl) (by rfl) (by rfl) (by intro h; cases h) (by rfl) ?_
    refine X.nil ?_
    refine Run.seq ?_
    refine R.cond (by rfl) (fun hc13 => ?_) (fun hc13 => ?_)
    · obtain ⟨x11, xs12, hd7, hx7, hds7, hlt7⟩ := drop_atI hza7 hc13
      rw [hd7] at h
      rw [s_MinDuration_L1] at h
      refine Run.skip ?_
      refine Run.seq ?_
      refine Run.block ?_
      refine Run.seq ?_
      refine Run.reg ?_
      refine X.move (by rfl) (by rfl) ?_
      refine X.index_s elt48 (by rfl) (by rfl) (idxL_spec hx7).1 (idxL_map eTMode hx7) (by rfl) (by rfl) (by rfl) ?_
      refine X.load_c shp47 (by rfl) (by rfl) (by rfl) (by rfl) ?_
      refine X.alloc zer47 (by rfl) (by rfl) (by rfl) ?_
      refine X.assign (by rfl) (by rfl) ?_
      refine X.store_l shp47 (by rfl) (by rfl) (by rfl) (by rfl) (by repeat (first | exact trivial | refine ⟨by rfl, ?_⟩ | refine ⟨by simp [setL], ?_⟩)) (by rfl) (by rfl) (by rfl) ?_
      refine X.nil ?_
      refine Run.seq ?_
      obtain ⟨v14, hv14, h⟩ := bindE h
      obtain ⟨e15, he15, h2⟩ := bindE h
      refine R.regG [(1, .slice (b1.map int)), (5, int a9), (6, bool a10), (8, .lptr 512 0), (10, .slice (b0.Modes.map eTMode)), (11, int (b0.Modes.length : Int)), (12, int z8), (29, bool e15)] [(512, .blk true [int x11.Duration, .slice (x11.Usage.map int), .slice (x11.Consumption.map int)])] ?_ ?_
      · clear h; have h := he15; clear he15 h2
        refine X.move (by rfl) (by rfl) ?_
        refine X.move (by rfl) (by rfl) ?_
        refine X.callP (s_SetHas_pc _ _ _ hv14) (by rfl) (by rfl) (by rfl) (by repeat (first | exact trivial | refine ⟨by rfl, ?_⟩ | refine ⟨by simp [setL], ?_⟩)) (by rfl) (by rfl) (by rfl) (by rfl) ?_
        refine X.move (by rfl) (by rfl) ?_
        refine X.ifG (by rfl) (by rfl) (by rfl) (fun hb16 => ?_) (fun hb16 => ?_)
        · replace h := condT hb16 h
          refine X.move (by rfl) (by rfl) ?_
          refine X.gyes (by rfl) (by rfl) (by first | rfl | assumption | simp_all) ?_
          refine X.un (by rfl) (by rfl) (by rfl) ?_
          refine X.gyes (by rfl) (by rfl) (by first | rfl | assumption | simp_all) ?_
          refine X.move (by rfl) (by rfl) ?_
          refine X.ifG (by rfl) (by rfl) (by rfl) (fun hb17 => ?_) (fun hb17 => ?_)
          · replace h := condF hb17 h
            refine X.fieldAddr_l fld47_0 (by rfl) (by rfl) ?_
            refine X.gyes (by rfl) (by rfl) (by first | rfl | assumption | simp_all) ?_
            refine X.load_l shp3 (by rfl) (by rfl) (by rfl) (by rfl) (by rfl) (by rfl) ?_
            refine X.gyes (by rfl) (by rfl) (by first | rfl | assumption | simp_all) ?_
            refine X.move (by rfl) (by rfl) ?_
            refine X.gyes (by rfl) (by rfl) (by first | rfl | assumption | simp_all) ?_
            refine X.bin (by rfl) (by rfl) (by rfl) (by rfl) (by intro h; cases h) (by rfl) ?_
            refine X.gyes (by rfl) (by rfl) (by first | rfl | assumption | simp_all) ?_
            refine X.pickF (by rfl) (by first | rfl | assumption | simp_all) (by rfl) (by rfl) ?_
            refine X.pickT (by rfl) (by first | rfl | assumption | simp_all) (by rfl) (by rfl) ?_
            cases h
            exact X.endG (by repeat (first | exact trivial | refine ⟨by rfl, ?_⟩ | refine ⟨by simp [setL], ?_⟩)) (by repeat (first | exact trivial | refine ⟨by rfl, ?_⟩ | refine ⟨by simp [setL], ?_⟩)) (by rfl) (by rfl)
          · replace h := condT hb17 h
            refine X.gno (by rfl) (by rfl) (by first | rfl | assumption | simp_all) (by rfl) ?_
            refine X.gno (by rfl) (by rfl) (by first | rfl | assumption | simp_all) (by rfl) ?_
            refine X.gno (by rfl) (by rfl) (by first | rfl | assumption | simp_all) (by rfl) ?_
            refine X.gyes (by rfl) (by rfl) (by first | rfl | assumption | simp_all) ?_
            refine X.pickT (by rfl) (by first | rfl | assumption | simp_all) (by rfl) (by rfl) ?_
            refine X.pickT (by rfl) (by first | rfl | assumption | simp_all) (by rfl) (by rfl) ?_
            cases h
            exact X.endG (by repeat (first | exact trivial | refine ⟨by rfl, ?_⟩ | refine ⟨by simp [setL], ?_⟩)) (by repeat (first | exact trivial | refine ⟨by rfl, ?_⟩ | refine ⟨by simp [setL], ?_⟩)) (by rfl) (by rfl)
        · replace h := condF hb16 h
          refine X.gno (by rfl) (by rfl) (by first | rfl | assumption | simp_all) (by rfl) ?_
          refine X.gno (by rfl) (by rfl) (by first | rfl | assumption | simp_all) (by rfl) ?_
          refine X.gU (by rfl) (by rfl) (by rfl) ?_
          refine X.gU (by rfl) (by rfl) (by rfl) ?_
          refine X.gU (by rfl) (by rfl) (by rfl) ?_
          refine X.gU (by rfl) (by rfl) (by rfl) ?_
          refine X.gno (by rfl) (by rfl) (by first | rfl | assumption | simp_all) (by rfl) ?_
          refine X.pickF (by rfl) (by first | rfl | assumption | simp_all) (by rfl) (by rfl) ?_
          cases h
          exact X.endG (by repeat (first | exact trivial | refine ⟨by rfl, ?_⟩ | refine ⟨by simp [setL], ?_⟩)) (by repeat (first | exact trivial | refine ⟨by rfl, ?_⟩ | refine ⟨by simp [setL], ?_⟩)) (by rfl) (by rfl)
      replace h := h2; clear h2
      refine R.cond (by rfl) (fun hc18 => ?_) (fun hc18 => ?_)
      · replace h := condT hc18 h
        refine Run.seq ?_
        refine Run.reg ?_
        refine X.fieldAddr_l fld47_0 (by rfl) (by rfl) ?_
        refine X.load_l shp3 (by rfl) (by rfl) (by rfl) (by rfl) (by rfl) (by rfl) ?_
        refine X.assign (by rfl) (by rfl) ?_
        refine X.nil ?_
        refine Run.reg ?_
        refine X.assign (by rfl) (by rfl) ?_
        refine X.nil ?_
        refine Run.blk ?_
        refine Run.reg ?_
        refine X.add (by rfl) (by rfl) (by omega) (by rfl) ?_
        refine X.move (by rfl) (by rfl) ?_
        refine X.nil ?_
        exact hag7 (n7 - 1) (z8 + 1, x11.Duration, true) _ _ (by omega) ⟨by first | omega | (dsimp only; omega), by first | omega | (dsimp only; omega), by first | (rw [hds7]; exact h) | (dsimp only; rw [hds7]; exact h)⟩ (by repeat (first | exact trivial | refine ⟨by rfl, ?_⟩ | refine ⟨by simp [setL], ?_⟩)) (by repeat (first | exact trivial | refine ⟨by rfl, ?_⟩ | refine ⟨by simp [setL], ?_⟩)) (by rfl) (by rfl)
      · replace h := condF hc18 h
        refine Run.skip ?_
        refine Run.blk ?_
        refine Run.reg ?_
        refine X.add (by rfl) (by rfl) (by omega) (by rfl) ?_
        refine X.move (by rfl) (by rfl) ?_
        refine X.nil ?_
        exact hag7 (n7 - 1) (z8 + 1, a9, a10) _ _ (by omega) ⟨by first | omega | (dsimp only; omega), by first | omega | (dsimp only; omega), by first | (rw [hds7]; exact h) | (dsimp only; rw [hds7]; exact h)⟩ (by repeat (first | exact trivial | refine ⟨by rfl, ?_⟩ | refine ⟨by simp [setL], ?_⟩)) (by repeat (first | exact trivial | refine ⟨by rfl, ?_⟩ | refine ⟨by simp [setL], ?_⟩)) (by rfl) (by rfl)
    · rw [drop_endI hza7 hc13] at h
      rw [s_MinDuration_L1] at h
      refine Run.exit (by rfl) ?_
      exact hmeet3 a9 _ _ (Option.some.inj h) (by repeat (first | exact trivial | refine ⟨by rfl, ?_⟩ | refine ⟨by simp [setL], ?_⟩)) (by repeat (first | exact trivial | refine ⟨by rfl, ?_⟩ | refine ⟨by simp [setL], ?_⟩)) (by rfl) (by rfl)
  rintro p19 rfl
  refine Run.seq ?_
  refine Run.reg ?_
  refine X.move (by rfl) (by rfl) ?_
  refine X.assign (by rfl) (by rfl) ?_
  refine X.nil ?_
  cases h
  refine R.fin1 Tryz.results271 (by rfl) (by rfl) ?_
  rfl
theorem s_l14Short_pc (b0 : TProject) (b1 : TDomain) (b2 : Int) (r : Int) (h : s_l14Short b0 b1 b2 = some r) : PC Tryz.prog 167 [eTProject b0, eTDomain b1, int b2] (int r) := by
  unfold s_l14Short at h
  refine PC.start Tryz.func167 Tryz.ntmps167 rfl ok167 rfl ?_
  refine Run.seq ?_
  refine Run.reg ?_
  refine X.box (by rfl) (by rfl) (by repeat (first | exact trivial | refine ⟨by rfl, ?_⟩ | refine ⟨by simp [setL], ?_⟩)) (by rfl) (by rfl) (by rfl) (by rfl) ?_
  refine X.box (by rfl) (by rfl) (by repeat (first | exact trivial | refine ⟨by rfl, ?_⟩ | refine ⟨by simp [setL], ?_⟩)) (by rfl) (by rfl) (by rfl) (by rfl) ?_
  refine X.assign (by rfl) (by rfl) ?_
  refine X.nil ?_
  refine Run.seq ?_
  refine Run.draw (footOf [(1, ([192], [])), (6, ([256], []))]) mixed (by kernel_rfl) (by kernel_rfl) ?_
  refine X.fieldAddr_l fld28_1 (by rfl) (by rfl) ?_
  refine X.load_l shp23 (by rfl) (by rfl) (by rfl) (by rfl) (by rfl) (by rfl) ?_
  refine X.move (by rfl) (by rfl) ?_
  obtain ⟨v1, hv1, h⟩ := bindE h
  refine X.index_s elt23 (by rfl) (by rfl) (idxL_spec hv1).1 (idxL_map eTActivity hv1) (by rfl) (by rfl) (by rfl) ?_
  refine X.load_c shp50 (by rfl) (by rfl) (by rfl) (by rfl) ?_
  refine X.fieldAddr_l fld32_2 (by rfl) (by rfl) ?_
  refine X.load_l shp30 (by rfl) (by rfl) (by rfl) (by rfl) (by rfl) (by rfl) ?_
  refine X.move (by rfl) (by rfl) ?_
  obtain ⟨v2, hv2, h⟩ := bindE h
  refine X.index_s elt30 (by rfl) (by rfl) (idxL_spec hv2).1 (idxL_map l_int hv2) (by rfl) (by rfl) (by rfl) ?_
  refine X.load_c shp26 (by rfl) (by rfl) (by rfl) (by rfl) ?_
  obtain ⟨v3, hv3, h⟩ := bindE h
  refine X.callP (s_MinDuration_pc _ _ _ hv3) (by rfl) (by rfl) (by rfl) (by repeat (first | exact trivial | refine ⟨by rfl, ?_⟩ | refine ⟨by simp [setL], ?_⟩)) (by rfl) (by rfl) (by rfl) (by rfl) ?_
  refine X.assign (by rfl) (by rfl) ?_
  refine X.nil ?_
  cases h
  refine R.fin1 Tryz.results167 (by rfl) (by rfl) ?_
  rfl
theorem i_MinDuration_pc (b0 : TActivity) (b1 : List Int) (r : Int) (h : i_MinDuration b0 b1 = some r) : PC Tryz.prog 234 [eTActivity b0, .slice (b1.map int)] (int r) := by
  unfold i_MinDuration at h
  refine PC.start Tryz.func234 Tryz.ntmps234 rfl ok234 rfl ?_
  refine Run.seq ?_
  refine Run.reg ?_
  refine X.box (by rfl) (by rfl) (by repeat (first | exact trivial | refine ⟨by rfl, ?_⟩ | refine ⟨by simp [setL], ?_⟩)) (by rfl) (by rfl) (by rfl) (by rfl) ?_
  refine X.assign (by rfl) (by rfl) ?_
  refine X.nil ?_
  refine Run.seq ?_
  refine Run.reg ?_
  refine X.assign (by rfl) (by rfl) ?_
  refine X.nil ?_
  refine Run.seq ?_
  refine Run.seq ?_
  refine Run.reg ?_
  refine X.load_l shp50 (by rfl) (by rfl) (by rfl) (by rfl) (by rfl) (by rfl) ?_
  refine X.move (by rfl) (by rfl) ?_
  obtain ⟨v1, hv1, h⟩ := bindE h
  refine X.callF (i_chosen_pc _ _ _ hv1) (by rfl) (by rfl) (by rfl) (by repeat (first | exact trivial | refine ⟨by rfl, ?_⟩ | refine ⟨by simp [setL], ?_⟩)) (by rfl) (by rfl) (by rfl) (by rfl) ?_
  refine X.len_o elt48 (by rfl) (by rfl) (by first | rfl | simp [setL] | omega) (by first | exact List.length_map .. | rfl) (by rfl) (by rfl) ?_
  refine X.move (by rfl) (by rfl) ?_
  refine X.nil ?_
  obtain ⟨o2, ho2, h⟩ := bindE h
  refine R.join2 (β := Int) [] [] (fun p17 S => (5, int p17) :: S) (fun p17 M => M) (fun p17 => p17 = o2) ?_ ?_
  · intro JJ5 hmeet4
    have hup3 := h; clear h; have h := ho2; clear ho2
    refine Run.block ?_
    refine R.bndO (n := 640) (by rfl) (fun hbd8 => ?_)
    replace hbd8 : v1.length ≤ 9223372036854775807 := by first | (rw [List.length_map] at hbd8; exact hbd8) | simp
    refine R.loop2 (β := Int × Int) [(11, int (v1.length : Int))] [(640, .obj false 47 3 (v1.map eTMode))] (fun bb S => (5, int bb.2) :: (10, .own 640 (v1.map eTMode).length) :: (12, int bb.1) :: S) (fun bb M => M) (fun n bb => 0 ≤ bb.1 ∧ bb.1 + n = (v1.length : Int) ∧ i_MinDuration_L1 (v1.drop bb.1.toNat) bb.1 bb.2 = some o2) v1.length (0, 0) (by repeat (first | exact trivial | refine ⟨by rfl, ?_⟩ | refine ⟨by simp [setL], ?_⟩)) (by repeat (first | exact trivial | refine ⟨by rfl, ?_⟩ | refine ⟨by simp [setL], ?_⟩)) (by rfl) (by rfl) ⟨Int.le_refl _, by simp, h⟩ ?_
    clear h
    rintro JJ8 n8 ⟨z9, a10⟩ hag8 ⟨hza8, hzb8, h⟩
    dsimp only at hza8 hzb8 h
    refine Run.seq ?_
    refine Run.reg ?_
    refine X.bin (by rfl) (by rfl) (by rfl) (by rfl) (by intro h; cases h) (by rfl) ?_
    refine X.nil ?_
    refine Run.seq ?_
    refine R.cond (by rfl) (fun hc13 => ?_) (fun hc13 => ?_)
    · obtain ⟨x11, xs12, hd8, hx8, hds8, hlt8⟩ := drop_atI hza8 hc13
      rw [hd8] at h
      rw [i_MinDuration_L1] at h
      refine Run.skip ?_
      refine Run.seq ?_
      refine Run.block ?_
      refine Run.seq ?_
      refine Run.reg ?_
      refine X.move (by rfl) (by rfl) ?_
      refine X.index_o elt48 (by rfl) (by rfl) (by first | rfl | simp [setL] | omega) (by rfl) (idxL_spec hx8).1 (idxL_map eTMode hx8) (by rfl) (by rfl) (by rfl) ?_
      refine X.load_c shp47 (by rfl) (by rfl) (by rfl) (by rfl) ?_
      refine X.alloc zer47 (by rfl) (by rfl) (by rfl) ?_
      refine X.assign (by rfl) (by rfl) ?_
      refine X.store_l shp47 (by rfl) (by rfl) (by rfl) (by rfl) (by repeat (first | exact trivial | refine ⟨by rfl, ?_⟩ | refine ⟨by simp [setL], ?_⟩)) (by rfl) (by rfl) (by rfl) ?_
      refine X.nil ?_
      refine Run.seq ?_
      obtain ⟨e14, he14, h2⟩ := bindE h
      refine R.regG [(5, int a10), (7, .lptr 448 0), (10, .own 640 (v1.map eTMode).length), (11, int (v1.length : Int)), (12, int z9), (24, bool e14)] [(448, .blk true [int x11.Duration, .slice (x11.Usage.map int), .slice (x11.Consumption.map int)]), (640, .obj false 47 3 (v1.map eTMode))] ?_ ?_
      · clear h; have h := he14; clear he14 h2
        refine X.move (by rfl) (by rfl) ?_
        refine X.bin (by rfl) (by rfl) (by rfl) (by rfl) (by intro h; cases h) (by rfl) ?_
        refine X.move (by rfl) (by rfl) ?_
        refine X.ifG (by rfl) (by rfl) (by rfl) (fun hb15 => ?_) (fun hb15 => ?_)
        · replace h := condF hb15 h
          refine X.fieldAddr_l fld47_0 (by rfl) (by rfl) ?_
          refine X.gyes (by rfl) (by rfl) (by first | rfl | assumption | simp_all) ?_
          refine X.load_l shp3 (by rfl) (by rfl) (by rfl) (by rfl) (by rfl) (by rfl) ?_
          refine X.gyes (by rfl) (by rfl) (by first | rfl | assumption | simp_all) ?_
          refine X.move (by rfl) (by rfl) ?_
          refine X.gyes (by rfl) (by rfl) (by first | rfl | assumption | simp_all) ?_
          refine X.bin (by rfl) (by rfl) (by rfl) (by rfl) (by intro h; cases h) (by rfl) ?_
          refine X.pickF (by rfl) (by first | rfl | assumption | simp_all) (by rfl) (by rfl) ?_
          cases h
          exact X.endG (by repeat (first | exact trivial | refine ⟨by rfl, ?_⟩ | refine ⟨by simp [setL], ?_⟩)) (by repeat (first | exact trivial | refine ⟨by rfl, ?_⟩ | refine ⟨by simp [setL], ?_⟩)) (by rfl) (by rfl)
        · replace h := condT hb15 h
          refine X.gno (by rfl) (by rfl) (by first | rfl | assumption | simp_all) (by rfl) ?_
          refine X.gno (by rfl) (by rfl) (by first | rfl | assumption | simp_all) (by rfl) ?_
          refine X.gno (by rfl) (by rfl) (by first | rfl | assumption | simp_all) (by rfl) ?_
          refine X.pickT (by rfl) (by first | rfl | assumption | simp_all) (by rfl) (by rfl) ?_
          cases h
          exact X.endG (by repeat (first | exact trivial | refine ⟨by rfl, ?_⟩ | refine ⟨by simp [setL], ?_⟩)) (by repeat (first | exact trivial | refine ⟨by rfl, ?_⟩ | refine ⟨by simp [setL], ?_⟩)) (by rfl) (by rfl)
      replace h := h2; clear h2
      refine R.cond (by rfl) (fun hc16 => ?_) (fun hc16 => ?_)
      · replace h := condT hc16 h
        refine Run.reg ?_
        refine X.fieldAddr_l fld47_0 (by rfl) (by rfl) ?_
        refine X.load_l shp3 (by rfl) (by rfl) (by rfl) (by rfl) (by rfl) (by rfl) ?_
        refine X.assign (by rfl) (by rfl) ?_
        refine X.nil ?_
        refine Run.blk ?_
        refine Run.reg ?_
        refine X.add (by rfl) (by rfl) (by omega) (by rfl) ?_
        refine X.move (by rfl) (by rfl) ?_
        refine X.nil ?_
        exact hag8 (n8 - 1) (z9 + 1, x11.Duration) _ _ (by omega) ⟨by first | omega | (dsimp only; omega), by first | omega | (dsimp only; omega), by first | (rw [hds8]; exact h) | (dsimp only; rw [hds8]; exact h)⟩ (by repeat (first | exact trivial | refine ⟨by rfl, ?_⟩ | refine ⟨by simp [setL], ?_⟩)) (by repeat (first | exact trivial | refine ⟨by rfl, ?_⟩ | refine ⟨by simp [setL], ?_⟩)) (by rfl) (by rfl)
      · replace h := condF hc16 h
        refine Run.skip ?_
        refine Run.blk ?_
        refine Run.reg ?_
        refine X.add (by rfl) (by rfl) (by omega) (by rfl) ?_
        refine X.move (by rfl) (by rfl) ?_
        refine X.nil ?_
        exact hag8 (n8 - 1) (z9 + 1, a10) _ _ (by omega) ⟨by first | omega | (dsimp only; omega), by first | omega | (dsimp only; omega), by first | (rw [hds8]; exact h) | (dsimp only; rw [hds8]; exact h)⟩ (by repeat (first | exact trivial | refine ⟨by rfl, ?_⟩ | refine ⟨by simp [setL], ?_⟩)) (by repeat (first | exact trivial | refine ⟨by rfl, ?_⟩ | refine ⟨by simp [setL], ?_⟩)) (by rfl) (by rfl)
    · rw [drop_endI hza8 hc13] at h
      rw [i_MinDuration_L1] at h
      refine Run.exit (by rfl) ?_
      exact hmeet4 a10 _ _ (Option.some.inj h) (by repeat (first | exact trivial | refine ⟨by rfl, ?_⟩ | refine ⟨by simp [setL], ?_⟩)) (by repeat (first | exact trivial | refine ⟨by rfl, ?_⟩ | refine ⟨by simp [setL], ?_⟩)) (by rfl) (by rfl)
  rintro p17 rfl
  refine Run.seq ?_
  refine Run.reg ?_
  refine X.move (by rfl) (by rfl) ?_
  refine X.assign (by rfl) (by rfl) ?_
  refine X.nil ?_
  cases h
  refine R.fin1 Tryz.results234 (by rfl) (by rfl) ?_
  rfl
theorem i_Project_duration_pc (b0 : TProject) (b1 : TDomain) (b2 : Int) (r : Int) (h : i_Project_duration b0 b1 b2 = some r) : PC Tryz.prog 123 [eTProject b0, eTDomain b1, int b2] (int r) := by
  unfold i_Project_duration at h
  refine PC.start Tryz.func123 Tryz.ntmps123 rfl ok123 rfl ?_
  refine Run.seq ?_
  refine Run.reg ?_
  refine X.box (by rfl) (by rfl) (by repeat (first | exact trivial | refine ⟨by rfl, ?_⟩ | refine ⟨by simp [setL], ?_⟩)) (by rfl) (by rfl) (by rfl) (by rfl) ?_
  refine X.box (by rfl) (by rfl) (by repeat (first | exact trivial | refine ⟨by rfl, ?_⟩ | refine ⟨by simp [setL], ?_⟩)) (by rfl) (by rfl) (by rfl) (by rfl) ?_
  refine X.assign (by rfl) (by rfl) ?_
  refine X.nil ?_
  refine Run.seq ?_
  refine Run.draw (footOf [(1, ([192], [])), (6, ([256], []))]) mixed (by kernel_rfl) (by kernel_rfl) ?_
  refine X.fieldAddr_l fld28_1 (by rfl) (by rfl) ?_
  refine X.load_l shp23 (by rfl) (by rfl) (by rfl) (by rfl) (by rfl) (by rfl) ?_
  refine X.move (by rfl) (by rfl) ?_
  obtain ⟨v1, hv1, h⟩ := bindE h
  refine X.index_s elt23 (by rfl) (by rfl) (idxL_spec hv1).1 (idxL_map eTActivity hv1) (by rfl) (by rfl) (by rfl) ?_
  refine X.load_c shp50 (by rfl) (by rfl) (by rfl) (by rfl) ?_
  refine X.fieldAddr_l fld32_2 (by rfl) (by rfl) ?_
  refine X.load_l shp30 (by rfl) (by rfl) (by rfl) (by rfl) (by rfl) (by rfl) ?_
  refine X.move (by rfl) (by rfl) ?_
  obtain ⟨v2, hv2, h⟩ := bindE h
  refine X.index_s elt30 (by rfl) (by rfl) (idxL_spec hv2).1 (idxL_map l_int hv2) (by rfl) (by rfl) (by rfl) ?_
  refine X.load_c shp26 (by rfl) (by rfl) (by rfl) (by rfl) ?_
  obtain ⟨v3, hv3, h⟩ := bindE h
  refine X.callP (i_MinDuration_pc _ _ _ hv3) (by rfl) (by rfl) (by rfl) (by repeat (first | exact trivial | refine ⟨by rfl, ?_⟩ | refine ⟨by simp [setL], ?_⟩)) (by rfl) (by rfl) (by rfl) (by rfl) ?_
  refine X.assign (by rfl) (by rfl) ?_
  refine X.nil ?_
  cases h
  refine R.fin1 Tryz.results123 (by rfl) (by rfl) ?_
  rfl
end Go.Px.YtjncefleglnnjaaGreat
