/-
  PROVED: contracts of functions of the program over pure values. No condition beyond those that each theorem names.
-/
import Derived.Test.YtjncefleglnnjaaGreatProg
import Derived.Test.YtjncefleglnnjaaGreatD1
import Derived.Test.YtjncefleglnnjaaGreatC2
import Derived.Test.YtjncefleglnnjaaGreatC3
namespace Go.Px.YtjncefleglnnjaaGreat
set_option linter.unusedSimpArgs false
set_option linter.unusedVariables false
open Go.Px Go.Proofs
theorem elt22 : eltOf Tryz.prog 22 = some (5, 1, 1) := by kernel_rfl
theorem zer5 : zeroPV Tryz.prog 5 = some [.lit (.int .u8 0)] := by kernel_rfl
theorem ok274 : okFn Tryz.prog 274 = true := by kernel_rfl
theorem ok80 : okFn Tryz.prog 80 = true := by kernel_rfl
theorem ok275 : okFn Tryz.prog 275 = true := by kernel_rfl
theorem ok180 : okFn Tryz.prog 180 = true := by kernel_rfl
theorem ok181 : okFn Tryz.prog 181 = true := by kernel_rfl
theorem ok276 : okFn Tryz.prog 276 = true := by kernel_rfl
theorem ok98 : okFn Tryz.prog 98 = true := by kernel_rfl
theorem ok182 : okFn Tryz.prog 182 = true := by kernel_rfl
theorem ok78 : okFn Tryz.prog 78 = true := by kernel_rfl
theorem ok79 : okFn Tryz.prog 79 = true := by kernel_rfl
theorem ok81 : okFn Tryz.prog 81 = true := by kernel_rfl
theorem ok18 : okFn Tryz.prog 18 = true := by kernel_rfl
theorem w_markText_pc (b0 : Int) (r : ByteArray) (h : w_markText b0 = some r) : PC Tryz.prog 274 [int b0] (str r) := by
  unfold w_markText at h
  refine PC.start Tryz.func274 Tryz.ntmps274 rfl ok274 rfl ?_
  refine Run.sr ?_
  refine X.an ?_
  refine Run.seq ?_
  refine Run.sr ?_
  refine X.mv ?_
  refine X.bi ?_
  refine X.nil ?_
  refine R.cond (by rfl) (fun hc1 => ?_) (fun hc1 => ?_)
  · replace h := condT hc1 h
    refine Run.sr ?_
    refine X.an ?_
    cases h
    refine R.fin1 Tryz.results274 (by rfl) (by rfl) ?_
    rfl
  · replace h := condF hc1 h
    refine Run.skip ?_
    refine Run.sr ?_
    refine X.an ?_
    refine Run.seq ?_
    obtain ⟨o2, ho2, h⟩ := bindE h
    refine R.join2 (β := ByteArray) [] [] (fun p13 S => (3, str p13) :: S) (fun p13 M => M) (fun p13 => p13 = o2) ?_ ?_
    · intro JJ5 hmeet4
      have hup3 := h; clear h; have h := ho2; clear ho2
      refine Run.block ?_
      refine R.loop2 (β := Int × ByteArray) [] [] (fun bb S => (0, int bb.1) :: (3, str bb.2) :: S) (fun bb M => M) (fun n bb => w_markText_L1 n bb.1 bb.2 = some o2) F0 (b0, ByteArray.empty) (by repeat (first | trivial | refine ⟨by first | rfl | simp [setL], ?_⟩)) (by repeat (first | trivial | refine ⟨by first | rfl | simp [setL], ?_⟩)) (by rfl) (by rfl) h ?_
      clear h
      rintro JJ5 n5 ⟨a7, a8⟩ hag5 h
      dsimp only at h
      obtain _ | n5 := n5
      · exact absurd h (by simp [w_markText_L1])
      rw [w_markText_L1] at h
      refine Run.seq ?_
      refine Run.sr ?_
      refine X.mv ?_
      refine X.bi ?_
      refine X.nil ?_
      refine R.cond (by rfl) (fun hc11 => ?_) (fun hc11 => ?_)
      · replace h := condT hc11 h
        refine Run.skip ?_
        refine Run.block ?_
        refine Run.sr ?_
        refine X.mv ?_
        refine X.bi ?_
        refine X.addW (by rfl) (by rfl) (by rfl) ?_
        refine X.conv Tryz.underlying5 (by rw [Tryz.underlying3]; rfl) (by rfl) (by rfl) ?_
        refine X.buildSlice false elt22 zer5 (by rfl) (by rfl) (by rfl) (by rfl) (by rfl) (by rfl) (by repeat (first | trivial | refine ⟨by first | rfl | simp [setL], ?_⟩)) (allSz_spec (by rfl)) (by rfl) (by rfl) (by rfl) ?_
        refine X.convBS ([(IntKind.u8.wrap (W (48 + (a7.tmod 10))))] : List Int) Tryz.underlying22 Tryz.underlying5 Tryz.underlying9 (by rfl) (.own _ _ _ _ _ _ (look_mem (by rfl)) (by first | rfl | simp [setL] | omega)) (by rfl) (by rfl) (by rfl) ?_
        refine X.mv ?_
        obtain ⟨v12, hv12, h⟩ := bindE h
        refine X.cat2 hv12 (by rfl) (by rfl) (by rfl) ?_
        refine X.an ?_
        refine Run.reg ?_
        refine X.mv ?_
        refine X.bi ?_
        refine X.an ?_
        refine Run.blk ?_
        exact hag5 n5 ((W (a7.tdiv 10)), v12) _ _ (by omega) h (by repeat (first | trivial | refine ⟨by first | rfl | simp [setL], ?_⟩)) (by repeat (first | trivial | refine ⟨by first | rfl | simp [setL], ?_⟩)) (by rfl) (by rfl)
      · replace h := condF hc11 h
        refine Run.exit (by rfl) ?_
        exact hmeet4 a8 _ _ (Option.some.inj h) (by trivial) (by trivial) (by rfl) (by rfl)
    rintro p13 rfl
    refine Run.sr ?_
    refine X.mv ?_
    obtain ⟨v14, hv14, h⟩ := bindE h
    refine X.cat2 hv14 (by rfl) (by rfl) (by rfl) ?_
    refine X.an ?_
    cases h
    refine R.fin1 Tryz.results274 (by rfl) (by rfl) ?_
    rfl
theorem w_markIntS_k_pc (b0 : List Int) (b1 : Int) (r : Int) (h : w_markIntS_k b0 b1 = some r) : PCM Tryz.prog 80 [.ysk 63 (.slice (b0.map int)), int b1] [(63, .yreg true true)] (int r) [(63, .yreg true true)] := by
  unfold w_markIntS_k at h
  refine PCM.start Tryz.func80 Tryz.ntmps80 rfl ok80 rfl (by rfl) (by rfl) (by rfl) (by rfl) (by rfl) ?_
  refine Run.sr ?_
  refine X.an ?_
  refine Run.seq ?_
  refine Run.sr ?_
  refine X.an ?_
  obtain ⟨o1, ho1, h⟩ := bindE h
  refine R.join2 (β := Int) [] [(63, .yreg true true)] (fun p13 S => (1, int p13) :: S) (fun p13 M => M) (fun p13 => p13 = o1) ?_ ?_
  · intro JJ4 hmeet3
    have hup2 := h; clear h; have h := ho1; clear ho1
    refine Run.block ?_
    refine R.bndY true 63 (t := 0) (by rfl) (fun hbd7 => ?_)
    replace hbd7 : b0.length ≤ 9223372036854775807 := by first | (rw [List.length_map] at hbd7; exact hbd7) | simp
    refine R.loop2 (β := Int × Int) [(0, .ysk 63 (.slice (b0.map int)))] [(63, .yreg true true)] (fun bb S => (1, int bb.2) :: (5, int bb.1) :: S) (fun bb M => M) (fun n bb => 0 ≤ bb.1 ∧ bb.1 + n = (b0.length : Int) ∧ w_markIntS_k_L1 (b0.drop bb.1.toNat) bb.1 bb.2 = some o1) b0.length (0, b1) (by repeat (first | trivial | refine ⟨by first | rfl | simp [setL], ?_⟩)) (by repeat (first | trivial | refine ⟨by first | rfl | simp [setL], ?_⟩)) (by rfl) (by rfl) ⟨Int.le_refl _, by simp, h⟩ ?_
    clear h
    rintro JJ7 n7 ⟨z8, a9⟩ hag7 ⟨hza7, hzb7, h⟩
    dsimp only at hza7 hzb7 h
    refine Run.seq ?_
    refine Run.sr ?_
    refine X.mv ?_
    refine X.mv ?_
    refine X.lenY true 63 elt26 (by rfl) (by exact List.length_map ..) (by rfl) ?_
    refine X.bi ?_
    refine X.nil ?_
    refine R.cond (by rfl) (fun hc12 => ?_) (fun hc12 => ?_)
    · obtain ⟨x10, xs11, hd7, hx7, hds7, hlt7⟩ := drop_atI hza7 hc12
      rw [hd7] at h
      rw [w_markIntS_k_L1] at h
      refine Run.skip ?_
      refine Run.seq ?_
      refine Run.block ?_
      refine Run.sr ?_
      refine X.mv ?_
      refine X.mv ?_
      refine X.mv ?_
      refine X.indexY true 63 elt26 (by rfl) (by rfl) (idxL_spec hx7).1 (idxL_map int hx7) (by rfl) (by rfl) ?_
      refine X.storeY 63 shp3 (by rfl) (by rfl) (by rfl) (by rfl) (by rfl) (by rfl) (by rfl) ?_
      refine X.nil ?_
      refine Run.reg ?_
      refine X.mv ?_
      refine X.addW (by rfl) (by rfl) (by rfl) ?_
      refine X.an ?_
      refine Run.blk ?_
      refine Run.reg ?_
      refine X.mv ?_
      refine X.add (by rfl) (by rfl) (by omega) (by rfl) ?_
      refine X.an ?_
      exact hag7 (n7 - 1) (z8 + 1, (W (a9 + 1))) _ _ (by omega) ⟨by first | omega | (dsimp only; omega), by first | omega | (dsimp only; omega), by first | (rw [hds7]; exact h) | (dsimp only; rw [hds7]; exact h)⟩ (by trivial) (by trivial) (by rfl) (by rfl)
    · rw [drop_endI hza7 hc12] at h
      rw [w_markIntS_k_L1] at h
      refine Run.exit (by rfl) ?_
      exact hmeet3 a9 _ _ (Option.some.inj h) (by trivial) (by trivial) (by rfl) (by rfl)
  rintro p13 rfl
  refine Run.sr ?_
  refine X.mv ?_
  refine X.an ?_
  cases h
  exact R.finM1 Tryz.results80 (by rfl) (by rfl) (by repeat (first | exact trivial | refine ⟨by rfl, ?_⟩)) rfl
theorem w_markModeS_k_pc (b0 : List TMode) (b1 : Int) (r : Int) (h : w_markModeS_k b0 b1 = some r) : PCM Tryz.prog 275 [.ysk 63 (.slice (b0.map eTMode)), int b1] [(63, .yreg true true)] (int r) [(63, .yreg true true)] := by
  unfold w_markModeS_k at h
  refine PCM.start Tryz.func275 Tryz.ntmps275 rfl ok275 rfl (by rfl) (by rfl) (by rfl) (by rfl) (by rfl) ?_
  refine Run.sr ?_
  refine X.an ?_
  refine Run.seq ?_
  refine Run.sr ?_
  refine X.an ?_
  obtain ⟨o1, ho1, h⟩ := bindE h
  refine R.join2 (β := Int) [] [(63, .yreg true true)] (fun p15 S => (1, int p15) :: S) (fun p15 M => M) (fun p15 => p15 = o1) ?_ ?_
  · intro JJ4 hmeet3
    have hup2 := h; clear h; have h := ho1; clear ho1
    refine Run.block ?_
    refine R.bndY true 63 (t := 0) (by rfl) (fun hbd7 => ?_)
    replace hbd7 : b0.length ≤ 9223372036854775807 := by first | (rw [List.length_map] at hbd7; exact hbd7) | simp
    refine R.loop2 (β := Int × Int) [(0, .ysk 63 (.slice (b0.map eTMode)))] [(63, .yreg true true)] (fun bb S => (1, int bb.2) :: (5, int bb.1) :: S) (fun bb M => M) (fun n bb => 0 ≤ bb.1 ∧ bb.1 + n = (b0.length : Int) ∧ w_markModeS_k_L1 (b0.drop bb.1.toNat) bb.1 bb.2 = some o1) b0.length (0, b1) (by repeat (first | trivial | refine ⟨by first | rfl | simp [setL], ?_⟩)) (by repeat (first | trivial | refine ⟨by first | rfl | simp [setL], ?_⟩)) (by rfl) (by rfl) ⟨Int.le_refl _, by simp, h⟩ ?_
    clear h
    rintro JJ7 n7 ⟨z8, a9⟩ hag7 ⟨hza7, hzb7, h⟩
    dsimp only at hza7 hzb7 h
    refine Run.seq ?_
    refine Run.sr ?_
    refine X.mv ?_
    refine X.mv ?_
    refine X.lenY true 63 elt48 (by rfl) (by exact List.length_map ..) (by rfl) ?_
    refine X.bi ?_
    refine X.nil ?_
    refine R.cond (by rfl) (fun hc12 => ?_) (fun hc12 => ?_)
    · obtain ⟨x10, xs11, hd7, hx7, hds7, hlt7⟩ := drop_atI hza7 hc12
      rw [hd7] at h
      rw [w_markModeS_k_L1] at h
      refine Run.skip ?_
      refine Run.seq ?_
      refine Run.block ?_
      refine Run.sr ?_
      refine X.mv ?_
      refine X.mv ?_
      refine X.mv ?_
      refine X.indexY true 63 elt48 (by rfl) (by rfl) (idxL_spec hx7).1 (idxL_map eTMode hx7) (by rfl) (by rfl) ?_
      refine X.fieldY true 63 fld47_0 (by rfl) (by rfl) ?_
      refine X.storeY 63 shp3 (by rfl) (by rfl) (by rfl) (by rfl) (by rfl) (by rfl) (by rfl) ?_
      refine X.nil ?_
      refine Run.sr ?_
      refine X.mv ?_
      refine X.addW (by rfl) (by rfl) (by rfl) ?_
      refine X.an ?_
      refine Run.sr ?_
      refine X.mv ?_
      refine X.mv ?_
      refine X.indexY true 63 elt48 (by rfl) (by rfl) (idxL_spec hx7).1 (idxL_map eTMode hx7) (by rfl) (by rfl) ?_
      refine X.fieldY true 63 fld47_1 (by rfl) (by rfl) ?_
      refine X.loadY true 63 shp26 (by rfl) (by rfl) (by rfl) (by rfl) ?_
      refine X.mv ?_
      obtain ⟨v13, hv13, h⟩ := bindE h
      refine X.callM [(63, 63)] (w_markIntS_k_pc _ _ _ hv13) (by rfl) (by rfl) (.yskB 63 (by rfl) (by rfl) (.pureB (by rfl) (by repeat (first | trivial | refine ⟨by first | rfl | simp [setL], ?_⟩)) .nil)) (by rfl) ⟨rfl, rfl, ⟨_, by rfl, by constructor⟩, by constructor, trivial⟩ (by rfl) (by rfl) (by rfl) (by rfl) (by rfl) (by rfl) (by rfl) (by rfl) (by rfl) ?_
      refine X.an ?_
      refine Run.reg ?_
      refine X.mv ?_
      refine X.mv ?_
      refine X.indexY true 63 elt48 (by rfl) (by rfl) (idxL_spec hx7).1 (idxL_map eTMode hx7) (by rfl) (by rfl) ?_
      refine X.fieldY true 63 fld47_2 (by rfl) (by rfl) ?_
      refine X.loadY true 63 shp26 (by rfl) (by rfl) (by rfl) (by rfl) ?_
      refine X.mv ?_
      obtain ⟨v14, hv14, h⟩ := bindE h
      refine X.callM [(63, 63)] (w_markIntS_k_pc _ _ _ hv14) (by rfl) (by rfl) (.yskB 63 (by rfl) (by rfl) (.pureB (by rfl) (by repeat (first | trivial | refine ⟨by first | rfl | simp [setL], ?_⟩)) .nil)) (by rfl) ⟨rfl, rfl, ⟨_, by rfl, by constructor⟩, by constructor, trivial⟩ (by rfl) (by rfl) (by rfl) (by rfl) (by rfl) (by rfl) (by rfl) (by rfl) (by rfl) ?_
      refine X.an ?_
      refine Run.blk ?_
      refine Run.reg ?_
      refine X.mv ?_
      refine X.add (by rfl) (by rfl) (by omega) (by rfl) ?_
      refine X.an ?_
      exact hag7 (n7 - 1) (z8 + 1, v14) _ _ (by omega) ⟨by first | omega | (dsimp only; omega), by first | omega | (dsimp only; omega), by first | (rw [hds7]; exact h) | (dsimp only; rw [hds7]; exact h)⟩ (by trivial) (by trivial) (by rfl) (by rfl)
    · rw [drop_endI hza7 hc12] at h
      rw [w_markModeS_k_L1] at h
      refine Run.exit (by rfl) ?_
      exact hmeet3 a9 _ _ (Option.some.inj h) (by trivial) (by trivial) (by rfl) (by rfl)
  rintro p15 rfl
  refine Run.sr ?_
  refine X.mv ?_
  refine X.an ?_
  cases h
  exact R.finM1 Tryz.results275 (by rfl) (by rfl) (by repeat (first | exact trivial | refine ⟨by rfl, ?_⟩)) rfl
theorem w_markActivityS_k_pc (b0 : List TActivity) (b1 : Int) (r : Int) (h : w_markActivityS_k b0 b1 = some r) : PCM Tryz.prog 180 [.ysk 63 (.slice (b0.map eTActivity)), int b1] [(63, .yreg true true)] (int r) [(63, .yreg true true)] := by
  unfold w_markActivityS_k at h
  refine PCM.start Tryz.func180 Tryz.ntmps180 rfl ok180 rfl (by rfl) (by rfl) (by rfl) (by rfl) (by rfl) ?_
  refine Run.sr ?_
  refine X.an ?_
  refine Run.seq ?_
  refine Run.sr ?_
  refine X.an ?_
  obtain ⟨o1, ho1, h⟩ := bindE h
  refine R.join2 (β := Int) [] [(63, .yreg true true)] (fun p15 S => (1, int p15) :: S) (fun p15 M => M) (fun p15 => p15 = o1) ?_ ?_
  · intro JJ4 hmeet3
    have hup2 := h; clear h; have h := ho1; clear ho1
    refine Run.block ?_
    refine R.bndY true 63 (t := 0) (by rfl) (fun hbd7 => ?_)
    replace hbd7 : b0.length ≤ 9223372036854775807 := by first | (rw [List.length_map] at hbd7; exact hbd7) | simp
    refine R.loop2 (β := Int × Int) [(0, .ysk 63 (.slice (b0.map eTActivity)))] [(63, .yreg true true)] (fun bb S => (1, int bb.2) :: (5, int bb.1) :: S) (fun bb M => M) (fun n bb => 0 ≤ bb.1 ∧ bb.1 + n = (b0.length : Int) ∧ w_markActivityS_k_L1 (b0.drop bb.1.toNat) bb.1 bb.2 = some o1) b0.length (0, b1) (by repeat (first | trivial | refine ⟨by first | rfl | simp [setL], ?_⟩)) (by repeat (first | trivial | refine ⟨by first | rfl | simp [setL], ?_⟩)) (by rfl) (by rfl) ⟨Int.le_refl _, by simp, h⟩ ?_
    clear h
    rintro JJ7 n7 ⟨z8, a9⟩ hag7 ⟨hza7, hzb7, h⟩
    dsimp only at hza7 hzb7 h
    refine Run.seq ?_
    refine Run.sr ?_
    refine X.mv ?_
    refine X.mv ?_
    refine X.lenY true 63 elt23 (by rfl) (by exact List.length_map ..) (by rfl) ?_
    refine X.bi ?_
    refine X.nil ?_
    refine R.cond (by rfl) (fun hc12 => ?_) (fun hc12 => ?_)
    · obtain ⟨x10, xs11, hd7, hx7, hds7, hlt7⟩ := drop_atI hza7 hc12
      rw [hd7] at h
      rw [w_markActivityS_k_L1] at h
      refine Run.skip ?_
      refine Run.seq ?_
      refine Run.block ?_
      refine Run.sr ?_
      refine X.mv ?_
      refine X.mv ?_
      refine X.mv ?_
      obtain ⟨v13, hv13, h⟩ := bindE h
      refine X.callP (w_markText_pc _ _ hv13) (by rfl) (by rfl) (by rfl) (by trivial) (by rfl) (by rfl) (by rfl) (by rfl) ?_
      refine X.indexY true 63 elt23 (by rfl) (by rfl) (idxL_spec hx7).1 (idxL_map eTActivity hx7) (by rfl) (by rfl) ?_
      refine X.fieldY true 63 fld50_0 (by rfl) (by rfl) ?_
      refine X.storeY 63 shp9 (by rfl) (by rfl) (by rfl) (by rfl) (by rfl) (by rfl) (by rfl) ?_
      refine X.nil ?_
      refine Run.sr ?_
      refine X.mv ?_
      refine X.addW (by rfl) (by rfl) (by rfl) ?_
      refine X.an ?_
      refine Run.sr ?_
      refine X.mv ?_
      refine X.mv ?_
      refine X.mv ?_
      refine X.indexY true 63 elt23 (by rfl) (by rfl) (idxL_spec hx7).1 (idxL_map eTActivity hx7) (by rfl) (by rfl) ?_
      refine X.fieldY true 63 fld50_1 (by rfl) (by rfl) ?_
      refine X.storeY 63 shp3 (by rfl) (by rfl) (by rfl) (by rfl) (by rfl) (by rfl) (by rfl) ?_
      refine X.nil ?_
      refine Run.sr ?_
      refine X.mv ?_
      refine X.addW (by rfl) (by rfl) (by rfl) ?_
      refine X.an ?_
      refine Run.reg ?_
      refine X.mv ?_
      refine X.mv ?_
      refine X.indexY true 63 elt23 (by rfl) (by rfl) (idxL_spec hx7).1 (idxL_map eTActivity hx7) (by rfl) (by rfl) ?_
      refine X.fieldY true 63 fld50_2 (by rfl) (by rfl) ?_
      refine X.loadY true 63 shp48 (by rfl) (by rfl) (by rfl) (by rfl) ?_
      refine X.mv ?_
      obtain ⟨v14, hv14, h⟩ := bindE h
      refine X.callM [(63, 63)] (w_markModeS_k_pc _ _ _ hv14) (by rfl) (by rfl) (.yskB 63 (by rfl) (by rfl) (.pureB (by rfl) (by repeat (first | trivial | refine ⟨by first | rfl | simp [setL], ?_⟩)) .nil)) (by rfl) ⟨rfl, rfl, ⟨_, by rfl, by constructor⟩, by constructor, trivial⟩ (by rfl) (by rfl) (by rfl) (by rfl) (by rfl) (by rfl) (by rfl) (by rfl) (by rfl) ?_
      refine X.an ?_
      refine Run.blk ?_
      refine Run.reg ?_
      refine X.mv ?_
      refine X.add (by rfl) (by rfl) (by omega) (by rfl) ?_
      refine X.an ?_
      exact hag7 (n7 - 1) (z8 + 1, v14) _ _ (by omega) ⟨by first | omega | (dsimp only; omega), by first | omega | (dsimp only; omega), by first | (rw [hds7]; exact h) | (dsimp only; rw [hds7]; exact h)⟩ (by trivial) (by trivial) (by rfl) (by rfl)
    · rw [drop_endI hza7 hc12] at h
      rw [w_markActivityS_k_L1] at h
      refine Run.exit (by rfl) ?_
      exact hmeet3 a9 _ _ (Option.some.inj h) (by trivial) (by trivial) (by rfl) (by rfl)
  rintro p15 rfl
  refine Run.sr ?_
  refine X.mv ?_
  refine X.an ?_
  cases h
  exact R.finM1 Tryz.results180 (by rfl) (by rfl) (by repeat (first | exact trivial | refine ⟨by rfl, ?_⟩)) rfl
theorem w_markLinkS_k_pc (b0 : List TLink) (b1 : Int) (r : Int) (h : w_markLinkS_k b0 b1 = some r) : PCM Tryz.prog 181 [.ysk 63 (.slice (b0.map eTLink)), int b1] [(63, .yreg true true)] (int r) [(63, .yreg true true)] := by
  unfold w_markLinkS_k at h
  refine PCM.start Tryz.func181 Tryz.ntmps181 rfl ok181 rfl (by rfl) (by rfl) (by rfl) (by rfl) (by rfl) ?_
  refine Run.sr ?_
  refine X.an ?_
  refine Run.seq ?_
  refine Run.sr ?_
  refine X.an ?_
  obtain ⟨o1, ho1, h⟩ := bindE h
  refine R.join2 (β := Int) [] [(63, .yreg true true)] (fun p13 S => (1, int p13) :: S) (fun p13 M => M) (fun p13 => p13 = o1) ?_ ?_
  · intro JJ4 hmeet3
    have hup2 := h; clear h; have h := ho1; clear ho1
    refine Run.block ?_
    refine R.bndY true 63 (t := 0) (by rfl) (fun hbd7 => ?_)
    replace hbd7 : b0.length ≤ 9223372036854775807 := by first | (rw [List.length_map] at hbd7; exact hbd7) | simp
    refine R.loop2 (β := Int × Int) [(0, .ysk 63 (.slice (b0.map eTLink)))] [(63, .yreg true true)] (fun bb S => (1, int bb.2) :: (5, int bb.1) :: S) (fun bb M => M) (fun n bb => 0 ≤ bb.1 ∧ bb.1 + n = (b0.length : Int) ∧ w_markLinkS_k_L1 (b0.drop bb.1.toNat) bb.1 bb.2 = some o1) b0.length (0, b1) (by repeat (first | trivial | refine ⟨by first | rfl | simp [setL], ?_⟩)) (by repeat (first | trivial | refine ⟨by first | rfl | simp [setL], ?_⟩)) (by rfl) (by rfl) ⟨Int.le_refl _, by simp, h⟩ ?_
    clear h
    rintro JJ7 n7 ⟨z8, a9⟩ hag7 ⟨hza7, hzb7, h⟩
    dsimp only at hza7 hzb7 h
    refine Run.seq ?_
    refine Run.sr ?_
    refine X.mv ?_
    refine X.mv ?_
    refine X.lenY true 63 elt24 (by rfl) (by exact List.length_map ..) (by rfl) ?_
    refine X.bi ?_
    refine X.nil ?_
    refine R.cond (by rfl) (fun hc12 => ?_) (fun hc12 => ?_)
    · obtain ⟨x10, xs11, hd7, hx7, hds7, hlt7⟩ := drop_atI hza7 hc12
      rw [hd7] at h
      rw [w_markLinkS_k_L1] at h
      refine Run.skip ?_
      refine Run.seq ?_
      refine Run.block ?_
      refine Run.sr ?_
      refine X.mv ?_
      refine X.mv ?_
      refine X.mv ?_
      refine X.indexY true 63 elt24 (by rfl) (by rfl) (idxL_spec hx7).1 (idxL_map eTLink hx7) (by rfl) (by rfl) ?_
      refine X.fieldY true 63 fld167_0 (by rfl) (by rfl) ?_
      refine X.storeY 63 shp3 (by rfl) (by rfl) (by rfl) (by rfl) (by rfl) (by rfl) (by rfl) ?_
      refine X.nil ?_
      refine Run.sr ?_
      refine X.mv ?_
      refine X.addW (by rfl) (by rfl) (by rfl) ?_
      refine X.an ?_
      refine Run.sr ?_
      refine X.mv ?_
      refine X.mv ?_
      refine X.mv ?_
      refine X.indexY true 63 elt24 (by rfl) (by rfl) (idxL_spec hx7).1 (idxL_map eTLink hx7) (by rfl) (by rfl) ?_
      refine X.fieldY true 63 fld167_1 (by rfl) (by rfl) ?_
      refine X.storeY 63 shp3 (by rfl) (by rfl) (by rfl) (by rfl) (by rfl) (by rfl) (by rfl) ?_
      refine X.nil ?_
      refine Run.sr ?_
      refine X.mv ?_
      refine X.addW (by rfl) (by rfl) (by rfl) ?_
      refine X.an ?_
      refine Run.sr ?_
      refine X.mv ?_
      refine X.mv ?_
      refine X.mv ?_
      refine X.bi ?_
      refine X.bi ?_
      refine X.indexY true 63 elt24 (by rfl) (by rfl) (idxL_spec hx7).1 (idxL_map eTLink hx7) (by rfl) (by rfl) ?_
      refine X.fieldY true 63 fld167_2 (by rfl) (by rfl) ?_
      refine X.storeY 63 shp4 (by rfl) (by rfl) (by rfl) (by rfl) (by rfl) (by rfl) (by rfl) ?_
      refine X.nil ?_
      refine Run.sr ?_
      refine X.mv ?_
      refine X.addW (by rfl) (by rfl) (by rfl) ?_
      refine X.an ?_
      refine Run.sr ?_
      refine X.mv ?_
      refine X.mv ?_
      refine X.mv ?_
      refine X.indexY true 63 elt24 (by rfl) (by rfl) (idxL_spec hx7).1 (idxL_map eTLink hx7) (by rfl) (by rfl) ?_
      refine X.fieldY true 63 fld167_3 (by rfl) (by rfl) ?_
      refine X.storeY 63 shp3 (by rfl) (by rfl) (by rfl) (by rfl) (by rfl) (by rfl) (by rfl) ?_
      refine X.nil ?_
      refine Run.reg ?_
      refine X.mv ?_
      refine X.addW (by rfl) (by rfl) (by rfl) ?_
      refine X.an ?_
      refine Run.blk ?_
      refine Run.reg ?_
      refine X.mv ?_
      refine X.add (by rfl) (by rfl) (by omega) (by rfl) ?_
      refine X.an ?_
      exact hag7 (n7 - 1) (z8 + 1, (W ((W ((W ((W (a9 + 1)) + 1)) + 1)) + 1))) _ _ (by omega) ⟨by first | omega | (dsimp only; omega), by first | omega | (dsimp only; omega), by first | (rw [hds7]; exact h) | (dsimp only; rw [hds7]; exact h)⟩ (by trivial) (by trivial) (by rfl) (by rfl)
    · rw [drop_endI hza7 hc12] at h
      rw [w_markLinkS_k_L1] at h
      refine Run.exit (by rfl) ?_
      exact hmeet3 a9 _ _ (Option.some.inj h) (by trivial) (by trivial) (by rfl) (by rfl)
  rintro p13 rfl
  refine Run.sr ?_
  refine X.mv ?_
  refine X.an ?_
  cases h
  exact R.finM1 Tryz.results181 (by rfl) (by rfl) (by repeat (first | exact trivial | refine ⟨by rfl, ?_⟩)) rfl
theorem w_markStepS_k_pc (b0 : List TStep) (b1 : Int) (r : Int) (h : w_markStepS_k b0 b1 = some r) : PCM Tryz.prog 276 [.ysk 63 (.slice (b0.map eTStep)), int b1] [(63, .yreg true true)] (int r) [(63, .yreg true true)] := by
  unfold w_markStepS_k at h
  refine PCM.start Tryz.func276 Tryz.ntmps276 rfl ok276 rfl (by rfl) (by rfl) (by rfl) (by rfl) (by rfl) ?_
  refine Run.sr ?_
  refine X.an ?_
  refine Run.seq ?_
  refine Run.sr ?_
  refine X.an ?_
  obtain ⟨o1, ho1, h⟩ := bindE h
  refine R.join2 (β := Int) [] [(63, .yreg true true)] (fun p13 S => (1, int p13) :: S) (fun p13 M => M) (fun p13 => p13 = o1) ?_ ?_
  · intro JJ4 hmeet3
    have hup2 := h; clear h; have h := ho1; clear ho1
    refine Run.block ?_
    refine R.bndY true 63 (t := 0) (by rfl) (fun hbd7 => ?_)
    replace hbd7 : b0.length ≤ 9223372036854775807 := by first | (rw [List.length_map] at hbd7; exact hbd7) | simp
    refine R.loop2 (β := Int × Int) [(0, .ysk 63 (.slice (b0.map eTStep)))] [(63, .yreg true true)] (fun bb S => (1, int bb.2) :: (5, int bb.1) :: S) (fun bb M => M) (fun n bb => 0 ≤ bb.1 ∧ bb.1 + n = (b0.length : Int) ∧ w_markStepS_k_L1 (b0.drop bb.1.toNat) bb.1 bb.2 = some o1) b0.length (0, b1) (by repeat (first | trivial | refine ⟨by first | rfl | simp [setL], ?_⟩)) (by repeat (first | trivial | refine ⟨by first | rfl | simp [setL], ?_⟩)) (by rfl) (by rfl) ⟨Int.le_refl _, by simp, h⟩ ?_
    clear h
    rintro JJ7 n7 ⟨z8, a9⟩ hag7 ⟨hza7, hzb7, h⟩
    dsimp only at hza7 hzb7 h
    refine Run.seq ?_
    refine Run.sr ?_
    refine X.mv ?_
    refine X.mv ?_
    refine X.lenY true 63 elt62 (by rfl) (by exact List.length_map ..) (by rfl) ?_
    refine X.bi ?_
    refine X.nil ?_
    refine R.cond (by rfl) (fun hc12 => ?_) (fun hc12 => ?_)
    · obtain ⟨x10, xs11, hd7, hx7, hds7, hlt7⟩ := drop_atI hza7 hc12
      rw [hd7] at h
      rw [w_markStepS_k_L1] at h
      refine Run.skip ?_
      refine Run.seq ?_
      refine Run.block ?_
      refine Run.sr ?_
      refine X.mv ?_
      refine X.mv ?_
      refine X.mv ?_
      refine X.indexY true 63 elt62 (by rfl) (by rfl) (idxL_spec hx7).1 (idxL_map eTStep hx7) (by rfl) (by rfl) ?_
      refine X.fieldY true 63 fld183_0 (by rfl) (by rfl) ?_
      refine X.storeY 63 shp3 (by rfl) (by rfl) (by rfl) (by rfl) (by rfl) (by rfl) (by rfl) ?_
      refine X.nil ?_
      refine Run.sr ?_
      refine X.mv ?_
      refine X.addW (by rfl) (by rfl) (by rfl) ?_
      refine X.an ?_
      refine Run.sr ?_
      refine X.mv ?_
      refine X.mv ?_
      refine X.mv ?_
      refine X.indexY true 63 elt62 (by rfl) (by rfl) (idxL_spec hx7).1 (idxL_map eTStep hx7) (by rfl) (by rfl) ?_
      refine X.fieldY true 63 fld183_1 (by rfl) (by rfl) ?_
      refine X.storeY 63 shp3 (by rfl) (by rfl) (by rfl) (by rfl) (by rfl) (by rfl) (by rfl) ?_
      refine X.nil ?_
      refine Run.reg ?_
      refine X.mv ?_
      refine X.addW (by rfl) (by rfl) (by rfl) ?_
      refine X.an ?_
      refine Run.blk ?_
      refine Run.reg ?_
      refine X.mv ?_
      refine X.add (by rfl) (by rfl) (by omega) (by rfl) ?_
      refine X.an ?_
      exact hag7 (n7 - 1) (z8 + 1, (W ((W (a9 + 1)) + 1))) _ _ (by omega) ⟨by first | omega | (dsimp only; omega), by first | omega | (dsimp only; omega), by first | (rw [hds7]; exact h) | (dsimp only; rw [hds7]; exact h)⟩ (by trivial) (by trivial) (by rfl) (by rfl)
    · rw [drop_endI hza7 hc12] at h
      rw [w_markStepS_k_L1] at h
      refine Run.exit (by rfl) ?_
      exact hmeet3 a9 _ _ (Option.some.inj h) (by trivial) (by trivial) (by rfl) (by rfl)
  rintro p13 rfl
  refine Run.sr ?_
  refine X.mv ?_
  refine X.an ?_
  cases h
  exact R.finM1 Tryz.results276 (by rfl) (by rfl) (by repeat (first | exact trivial | refine ⟨by rfl, ?_⟩)) rfl
theorem w_markIntSS_k_pc (b0 : List (List Int)) (b1 : Int) (r : Int) (h : w_markIntSS_k b0 b1 = some r) : PCM Tryz.prog 98 [.ysk 63 (.slice (b0.map l_int)), int b1] [(63, .yreg true true)] (int r) [(63, .yreg true true)] := by
  unfold w_markIntSS_k at h
  refine PCM.start Tryz.func98 Tryz.ntmps98 rfl ok98 rfl (by rfl) (by rfl) (by rfl) (by rfl) (by rfl) ?_
  refine Run.sr ?_
  refine X.an ?_
  refine Run.seq ?_
  refine Run.sr ?_
  refine X.an ?_
  obtain ⟨o1, ho1, h⟩ := bindE h
  refine R.join2 (β := Int) [] [(63, .yreg true true)] (fun p14 S => (1, int p14) :: S) (fun p14 M => M) (fun p14 => p14 = o1) ?_ ?_
  · intro JJ4 hmeet3
    have hup2 := h; clear h; have h := ho1; clear ho1
    refine Run.block ?_
    refine R.bndY true 63 (t := 0) (by rfl) (fun hbd7 => ?_)
    replace hbd7 : b0.length ≤ 9223372036854775807 := by first | (rw [List.length_map] at hbd7; exact hbd7) | simp
    refine R.loop2 (β := Int × Int) [(0, .ysk 63 (.slice (b0.map l_int)))] [(63, .yreg true true)] (fun bb S => (1, int bb.2) :: (5, int bb.1) :: S) (fun bb M => M) (fun n bb => 0 ≤ bb.1 ∧ bb.1 + n = (b0.length : Int) ∧ w_markIntSS_k_L1 (b0.drop bb.1.toNat) bb.1 bb.2 = some o1) b0.length (0, b1) (by repeat (first | trivial | refine ⟨by first | rfl | simp [setL], ?_⟩)) (by repeat (first | trivial | refine ⟨by first | rfl | simp [setL], ?_⟩)) (by rfl) (by rfl) ⟨Int.le_refl _, by simp, h⟩ ?_
    clear h
    rintro JJ7 n7 ⟨z8, a9⟩ hag7 ⟨hza7, hzb7, h⟩
    dsimp only at hza7 hzb7 h
    refine Run.seq ?_
    refine Run.sr ?_
    refine X.mv ?_
    refine X.mv ?_
    refine X.lenY true 63 elt30 (by rfl) (by exact List.length_map ..) (by rfl) ?_
    refine X.bi ?_
    refine X.nil ?_
    refine R.cond (by rfl) (fun hc12 => ?_) (fun hc12 => ?_)
    · obtain ⟨x10, xs11, hd7, hx7, hds7, hlt7⟩ := drop_atI hza7 hc12
      rw [hd7] at h
      rw [w_markIntSS_k_L1] at h
      refine Run.skip ?_
      refine Run.seq ?_
      refine Run.block ?_
      refine Run.reg ?_
      refine X.mv ?_
      refine X.mv ?_
      refine X.indexY true 63 elt30 (by rfl) (by rfl) (idxL_spec hx7).1 (idxL_map l_int hx7) (by rfl) (by rfl) ?_
      refine X.loadY true 63 shp26 (by rfl) (by rfl) (by rfl) (by rfl) ?_
      refine X.mv ?_
      obtain ⟨v13, hv13, h⟩ := bindE h
      refine X.callM [(63, 63)] (w_markIntS_k_pc _ _ _ hv13) (by rfl) (by rfl) (.yskB 63 (by rfl) (by rfl) (.pureB (by rfl) (by repeat (first | trivial | refine ⟨by first | rfl | simp [setL], ?_⟩)) .nil)) (by rfl) ⟨rfl, rfl, ⟨_, by rfl, by constructor⟩, by constructor, trivial⟩ (by rfl) (by rfl) (by rfl) (by rfl) (by rfl) (by rfl) (by rfl) (by rfl) (by rfl) ?_
      refine X.an ?_
      refine Run.blk ?_
      refine Run.reg ?_
      refine X.mv ?_
      refine X.add (by rfl) (by rfl) (by omega) (by rfl) ?_
      refine X.an ?_
      exact hag7 (n7 - 1) (z8 + 1, v13) _ _ (by omega) ⟨by first | omega | (dsimp only; omega), by first | omega | (dsimp only; omega), by first | (rw [hds7]; exact h) | (dsimp only; rw [hds7]; exact h)⟩ (by trivial) (by trivial) (by rfl) (by rfl)
    · rw [drop_endI hza7 hc12] at h
      rw [w_markIntSS_k_L1] at h
      refine Run.exit (by rfl) ?_
      exact hmeet3 a9 _ _ (Option.some.inj h) (by trivial) (by trivial) (by rfl) (by rfl)
  rintro p14 rfl
  refine Run.sr ?_
  refine X.mv ?_
  refine X.an ?_
  cases h
  exact R.finM1 Tryz.results98 (by rfl) (by rfl) (by repeat (first | exact trivial | refine ⟨by rfl, ?_⟩)) rfl
theorem w_markResourceS_k_pc (b0 : List TResource) (b1 : Int) (r : Int) (h : w_markResourceS_k b0 b1 = some r) : PCM Tryz.prog 182 [.ysk 63 (.slice (b0.map eTResource)), int b1] [(63, .yreg true true)] (int r) [(63, .yreg true true)] := by
  unfold w_markResourceS_k at h
  refine PCM.start Tryz.func182 Tryz.ntmps182 rfl ok182 rfl (by rfl) (by rfl) (by rfl) (by rfl) (by rfl) ?_
  refine Run.sr ?_
  refine X.an ?_
  refine Run.seq ?_
  refine Run.sr ?_
  refine X.an ?_
  obtain ⟨o1, ho1, h⟩ := bindE h
  refine R.join2 (β := Int) [] [(63, .yreg true true)] (fun p15 S => (1, int p15) :: S) (fun p15 M => M) (fun p15 => p15 = o1) ?_ ?_
  · intro JJ4 hmeet3
    have hup2 := h; clear h; have h := ho1; clear ho1
    refine Run.block ?_
    refine R.bndY true 63 (t := 0) (by rfl) (fun hbd7 => ?_)
    replace hbd7 : b0.length ≤ 9223372036854775807 := by first | (rw [List.length_map] at hbd7; exact hbd7) | simp
    refine R.loop2 (β := Int × Int) [(0, .ysk 63 (.slice (b0.map eTResource)))] [(63, .yreg true true)] (fun bb S => (1, int bb.2) :: (5, int bb.1) :: S) (fun bb M => M) (fun n bb => 0 ≤ bb.1 ∧ bb.1 + n = (b0.length : Int) ∧ w_markResourceS_k_L1 (b0.drop bb.1.toNat) bb.1 bb.2 = some o1) b0.length (0, b1) (by repeat (first | trivial | refine ⟨by first | rfl | simp [setL], ?_⟩)) (by repeat (first | trivial | refine ⟨by first | rfl | simp [setL], ?_⟩)) (by rfl) (by rfl) ⟨Int.le_refl _, by simp, h⟩ ?_
    clear h
    rintro JJ7 n7 ⟨z8, a9⟩ hag7 ⟨hza7, hzb7, h⟩
    dsimp only at hza7 hzb7 h
    refine Run.seq ?_
    refine Run.sr ?_
    refine X.mv ?_
    refine X.mv ?_
    refine X.lenY true 63 elt25 (by rfl) (by exact List.length_map ..) (by rfl) ?_
    refine X.bi ?_
    refine X.nil ?_
    refine R.cond (by rfl) (fun hc12 => ?_) (fun hc12 => ?_)
    · obtain ⟨x10, xs11, hd7, hx7, hds7, hlt7⟩ := drop_atI hza7 hc12
      rw [hd7] at h
      rw [w_markResourceS_k_L1] at h
      refine Run.skip ?_
      refine Run.seq ?_
      refine Run.block ?_
      refine Run.sr ?_
      refine X.mv ?_
      refine X.mv ?_
      refine X.indexY true 63 elt25 (by rfl) (by rfl) (idxL_spec hx7).1 (idxL_map eTResource hx7) (by rfl) (by rfl) ?_
      refine X.fieldY true 63 fld64_0 (by rfl) (by rfl) ?_
      refine X.loadY true 63 shp62 (by rfl) (by rfl) (by rfl) (by rfl) ?_
      refine X.mv ?_
      obtain ⟨v13, hv13, h⟩ := bindE h
      refine X.callM [(63, 63)] (w_markStepS_k_pc _ _ _ hv13) (by rfl) (by rfl) (.yskB 63 (by rfl) (by rfl) (.pureB (by rfl) (by repeat (first | trivial | refine ⟨by first | rfl | simp [setL], ?_⟩)) .nil)) (by rfl) ⟨rfl, rfl, ⟨_, by rfl, by constructor⟩, by constructor, trivial⟩ (by rfl) (by rfl) (by rfl) (by rfl) (by rfl) (by rfl) (by rfl) (by rfl) (by rfl) ?_
      refine X.an ?_
      refine Run.reg ?_
      refine X.mv ?_
      refine X.mv ?_
      refine X.indexY true 63 elt25 (by rfl) (by rfl) (idxL_spec hx7).1 (idxL_map eTResource hx7) (by rfl) (by rfl) ?_
      refine X.fieldY true 63 fld64_1 (by rfl) (by rfl) ?_
      refine X.loadY true 63 shp30 (by rfl) (by rfl) (by rfl) (by rfl) ?_
      refine X.mv ?_
      obtain ⟨v14, hv14, h⟩ := bindE h
      refine X.callM [(63, 63)] (w_markIntSS_k_pc _ _ _ hv14) (by rfl) (by rfl) (.yskB 63 (by rfl) (by rfl) (.pureB (by rfl) (by repeat (first | trivial | refine ⟨by first | rfl | simp [setL], ?_⟩)) .nil)) (by rfl) ⟨rfl, rfl, ⟨_, by rfl, by constructor⟩, by constructor, trivial⟩ (by rfl) (by rfl) (by rfl) (by rfl) (by rfl) (by rfl) (by rfl) (by rfl) (by rfl) ?_
      refine X.an ?_
      refine Run.blk ?_
      refine Run.reg ?_
      refine X.mv ?_
      refine X.add (by rfl) (by rfl) (by omega) (by rfl) ?_
      refine X.an ?_
      exact hag7 (n7 - 1) (z8 + 1, v14) _ _ (by omega) ⟨by first | omega | (dsimp only; omega), by first | omega | (dsimp only; omega), by first | (rw [hds7]; exact h) | (dsimp only; rw [hds7]; exact h)⟩ (by trivial) (by trivial) (by rfl) (by rfl)
    · rw [drop_endI hza7 hc12] at h
      rw [w_markResourceS_k_L1] at h
      refine Run.exit (by rfl) ?_
      exact hmeet3 a9 _ _ (Option.some.inj h) (by trivial) (by trivial) (by rfl) (by rfl)
  rintro p15 rfl
  refine Run.sr ?_
  refine X.mv ?_
  refine X.an ?_
  cases h
  exact R.finM1 Tryz.results182 (by rfl) (by rfl) (by repeat (first | exact trivial | refine ⟨by rfl, ?_⟩)) rfl
theorem w_markProject_k_pc (b0 : TProject) (b1 : Int) (r : Int) (h : w_markProject_k b0 b1 = some r) : PCM Tryz.prog 78 [.agg [int b0.Deadline, .ysk 63 (.slice (b0.Activities.map eTActivity)), .ysk 63 (.slice (b0.Links.map eTLink)), .ysk 63 (.slice (b0.Resources.map eTResource)), .ysk 63 (.slice (b0.Stocks.map int))], int b1] [(63, .yreg true true)] (int r) [(63, .yreg true true)] := by
  unfold w_markProject_k at h
  refine PCM.start Tryz.func78 Tryz.ntmps78 rfl ok78 rfl (by rfl) (by rfl) (by rfl) (by rfl) (by rfl) ?_
  refine Run.sr ?_
  refine X.box (by rfl) (by rfl) (by repeat (first | trivial | refine ⟨by first | rfl | simp [setL], ?_⟩)) (by rfl) (by rfl) (by rfl) (by rfl) ?_
  refine X.an ?_
  refine Run.sr ?_
  refine X.fieldAddr_l fld28_1 (by rfl) (by rfl) ?_
  refine X.ld shp23 ?_
  refine X.mv ?_
  obtain ⟨v1, hv1, h⟩ := bindE h
  refine X.callM [(63, 63)] (w_markActivityS_k_pc _ _ _ hv1) (by rfl) (by rfl) (.yskB 63 (by rfl) (by rfl) (.pureB (by rfl) (by repeat (first | trivial | refine ⟨by first | rfl | simp [setL], ?_⟩)) .nil)) (by rfl) ⟨rfl, rfl, ⟨_, by rfl, by constructor⟩, by constructor, trivial⟩ (by rfl) (by rfl) (by rfl) (by rfl) (by rfl) (by rfl) (by rfl) (by rfl) (by rfl) ?_
  refine X.an ?_
  refine Run.sr ?_
  refine X.fieldAddr_l fld28_2 (by rfl) (by rfl) ?_
  refine X.ld shp24 ?_
  refine X.mv ?_
  obtain ⟨v2, hv2, h⟩ := bindE h
  refine X.callM [(63, 63)] (w_markLinkS_k_pc _ _ _ hv2) (by rfl) (by rfl) (.yskB 63 (by rfl) (by rfl) (.pureB (by rfl) (by repeat (first | trivial | refine ⟨by first | rfl | simp [setL], ?_⟩)) .nil)) (by rfl) ⟨rfl, rfl, ⟨_, by rfl, by constructor⟩, by constructor, trivial⟩ (by rfl) (by rfl) (by rfl) (by rfl) (by rfl) (by rfl) (by rfl) (by rfl) (by rfl) ?_
  refine X.an ?_
  refine Run.sr ?_
  refine X.fieldAddr_l fld28_3 (by rfl) (by rfl) ?_
  refine X.ld shp25 ?_
  refine X.mv ?_
  obtain ⟨v3, hv3, h⟩ := bindE h
  refine X.callM [(63, 63)] (w_markResourceS_k_pc _ _ _ hv3) (by rfl) (by rfl) (.yskB 63 (by rfl) (by rfl) (.pureB (by rfl) (by repeat (first | trivial | refine ⟨by first | rfl | simp [setL], ?_⟩)) .nil)) (by rfl) ⟨rfl, rfl, ⟨_, by rfl, by constructor⟩, by constructor, trivial⟩ (by rfl) (by rfl) (by rfl) (by rfl) (by rfl) (by rfl) (by rfl) (by rfl) (by rfl) ?_
  refine X.an ?_
  refine Run.sr ?_
  refine X.fieldAddr_l fld28_4 (by rfl) (by rfl) ?_
  refine X.ld shp26 ?_
  refine X.mv ?_
  obtain ⟨v4, hv4, h⟩ := bindE h
  refine X.callM [(63, 63)] (w_markIntS_k_pc _ _ _ hv4) (by rfl) (by rfl) (.yskB 63 (by rfl) (by rfl) (.pureB (by rfl) (by repeat (first | trivial | refine ⟨by first | rfl | simp [setL], ?_⟩)) .nil)) (by rfl) ⟨rfl, rfl, ⟨_, by rfl, by constructor⟩, by constructor, trivial⟩ (by rfl) (by rfl) (by rfl) (by rfl) (by rfl) (by rfl) (by rfl) (by rfl) (by rfl) ?_
  refine X.an ?_
  refine Run.sr ?_
  refine X.mv ?_
  refine X.an ?_
  cases h
  exact R.finM1 Tryz.results78 (by rfl) (by rfl) (by repeat (first | exact trivial | refine ⟨by rfl, ?_⟩)) rfl
theorem w_markDomain_k_pc (b0 : TDomain) (b1 : Int) (r : Int) (h : w_markDomain_k b0 b1 = some r) : PCM Tryz.prog 79 [.agg [.ysk 63 (.slice (b0.MinStart.map int)), .ysk 63 (.slice (b0.MaxStart.map int)), .ysk 63 (.slice (b0.Modes.map l_int))], int b1] [(63, .yreg true true)] (int r) [(63, .yreg true true)] := by
  unfold w_markDomain_k at h
  refine PCM.start Tryz.func79 Tryz.ntmps79 rfl ok79 rfl (by rfl) (by rfl) (by rfl) (by rfl) (by rfl) ?_
  refine Run.sr ?_
  refine X.box (by rfl) (by rfl) (by repeat (first | trivial | refine ⟨by first | rfl | simp [setL], ?_⟩)) (by rfl) (by rfl) (by rfl) (by rfl) ?_
  refine X.an ?_
  refine Run.sr ?_
  refine X.fieldAddr_l fld32_0 (by rfl) (by rfl) ?_
  refine X.ld shp26 ?_
  refine X.mv ?_
  obtain ⟨v1, hv1, h⟩ := bindE h
  refine X.callM [(63, 63)] (w_markIntS_k_pc _ _ _ hv1) (by rfl) (by rfl) (.yskB 63 (by rfl) (by rfl) (.pureB (by rfl) (by repeat (first | trivial | refine ⟨by first | rfl | simp [setL], ?_⟩)) .nil)) (by rfl) ⟨rfl, rfl, ⟨_, by rfl, by constructor⟩, by constructor, trivial⟩ (by rfl) (by rfl) (by rfl) (by rfl) (by rfl) (by rfl) (by rfl) (by rfl) (by rfl) ?_
  refine X.an ?_
  refine Run.sr ?_
  refine X.fieldAddr_l fld32_1 (by rfl) (by rfl) ?_
  refine X.ld shp26 ?_
  refine X.mv ?_
  obtain ⟨v2, hv2, h⟩ := bindE h
  refine X.callM [(63, 63)] (w_markIntS_k_pc _ _ _ hv2) (by rfl) (by rfl) (.yskB 63 (by rfl) (by rfl) (.pureB (by rfl) (by repeat (first | trivial | refine ⟨by first | rfl | simp [setL], ?_⟩)) .nil)) (by rfl) ⟨rfl, rfl, ⟨_, by rfl, by constructor⟩, by constructor, trivial⟩ (by rfl) (by rfl) (by rfl) (by rfl) (by rfl) (by rfl) (by rfl) (by rfl) (by rfl) ?_
  refine X.an ?_
  refine Run.sr ?_
  refine X.fieldAddr_l fld32_2 (by rfl) (by rfl) ?_
  refine X.ld shp30 ?_
  refine X.mv ?_
  obtain ⟨v3, hv3, h⟩ := bindE h
  refine X.callM [(63, 63)] (w_markIntSS_k_pc _ _ _ hv3) (by rfl) (by rfl) (.yskB 63 (by rfl) (by rfl) (.pureB (by rfl) (by repeat (first | trivial | refine ⟨by first | rfl | simp [setL], ?_⟩)) .nil)) (by rfl) ⟨rfl, rfl, ⟨_, by rfl, by constructor⟩, by constructor, trivial⟩ (by rfl) (by rfl) (by rfl) (by rfl) (by rfl) (by rfl) (by rfl) (by rfl) (by rfl) ?_
  refine X.an ?_
  refine Run.sr ?_
  refine X.mv ?_
  refine X.an ?_
  cases h
  exact R.finM1 Tryz.results79 (by rfl) (by rfl) (by repeat (first | exact trivial | refine ⟨by rfl, ?_⟩)) rfl
theorem w_markIntS_pc (b0 : List Int) (b1 : Int) (r : Int × (List Int)) (h : w_markIntS b0 b1 = some r) : PCM Tryz.prog 80 [.own 63 (b0.map int).length, int b1] [(63, .obj true 3 1 (b0.map int))] (int r.1) [(63, .obj true 3 1 (r.2.map int))] := by
  unfold w_markIntS at h
  refine PCM.start Tryz.func80 Tryz.ntmps80 rfl ok80 rfl (by rfl) (by rfl) (by rfl) (by rfl) (by rfl) ?_
  refine Run.sr ?_
  refine X.an ?_
  refine Run.seq ?_
  refine Run.sr ?_
  refine X.an ?_
  obtain ⟨o1, ho1, h⟩ := bindE h
  refine R.join2 (β := Int × (List Int)) [] [] (fun p14 S => (1, int p14.1) :: S) (fun p14 M => (63, .obj true 3 1 (p14.2.map int)) :: M) (fun p14 => p14 = o1) ?_ ?_
  · intro JJ4 hmeet3
    have hup2 := h; clear h; have h := ho1; clear ho1
    refine Run.block ?_
    refine R.loop2 (β := Int × Int × (List Int)) [] [] (fun bb S => (0, .own 63 (bb.2.2.map int).length) :: (1, int bb.1) :: (5, int bb.2.1) :: S) (fun bb M => (63, .obj true 3 1 (bb.2.2.map int)) :: M) (fun n bb => w_markIntS_L1 n bb.1 bb.2.1 bb.2.2 = some o1) F0 (b1, 0, b0) (by repeat (first | trivial | refine ⟨by first | rfl | simp [setL], ?_⟩)) (by repeat (first | trivial | refine ⟨by first | rfl | simp [setL], ?_⟩)) (by rfl) (by rfl) h ?_
    clear h
    rintro JJ5 n5 ⟨a7, a8, a9⟩ hag5 h
    dsimp only at h
    obtain _ | n5 := n5
    · exact absurd h (by simp [w_markIntS_L1])
    rw [w_markIntS_L1] at h
    refine Run.seq ?_
    refine Run.sr ?_
    refine X.mv ?_
    refine X.mv ?_
    refine X.len_o elt26 (by rfl) (by rfl) (by first | rfl | simp [setL] | omega) (by first | exact List.length_map .. | rfl) (by rfl) (by rfl) ?_
    refine X.bi ?_
    refine X.nil ?_
    refine R.cond (by rfl) (fun hc12 => ?_) (fun hc12 => ?_)
    · replace h := condT hc12 h
      refine Run.skip ?_
      refine Run.seq ?_
      refine Run.block ?_
      refine Run.sr ?_
      refine X.mv ?_
      refine X.mv ?_
      refine X.mv ?_
      obtain ⟨v13, hv13, h⟩ := bindE h
      refine X.index_xs elt26 (by rfl) (by rfl) (by first | rfl | simp [setL] | omega) (by rfl) (by exact (Int.toNat_of_nonneg (idxL_spec hv13).1).symm) (by have := idxL_lt hv13; simpa using this) (by rfl) (by rfl) ?_
      refine X.store_es shp3 (by rfl) (by rfl) (by first | rfl | simp [setL] | omega) (idxL_map _ hv13) (by rfl) (by rfl) (by repeat (first | trivial | refine ⟨by first | rfl | simp [setL], ?_⟩)) (by rfl) (by rfl) (by rfl) (by rfl) (by exact setL_map _ _ _ a7) ?_
      refine X.nil ?_
      refine Run.reg ?_
      refine X.mv ?_
      refine X.addW (by rfl) (by rfl) (by rfl) ?_
      refine X.an ?_
      refine Run.blk ?_
      refine Run.reg ?_
      refine X.mv ?_
      refine X.addW (by rfl) (by rfl) (by rfl) ?_
      refine X.an ?_
      refine R.castS (t := 0) (.own 63 ((setL a9 a8 a7).map int).length) (by rfl) (.inl (by first | rfl | simp [setL])) ?_
      exact hag5 n5 ((W (a7 + 1)), (W (a8 + 1)), (setL a9 a8 a7)) _ _ (by omega) h (by repeat (first | trivial | refine ⟨by first | rfl | simp [setL], ?_⟩)) (by repeat (first | trivial | refine ⟨by first | rfl | simp [setL], ?_⟩)) (by rfl) (by rfl)
    · replace h := condF hc12 h
      refine Run.exit (by rfl) ?_
      exact hmeet3 (a7, a9) _ _ (Option.some.inj h) (by repeat (first | trivial | refine ⟨by first | rfl | simp [setL], ?_⟩)) (by repeat (first | trivial | refine ⟨by first | rfl | simp [setL], ?_⟩)) (by rfl) (by rfl)
  rintro p14 rfl
  refine Run.sr ?_
  refine X.mv ?_
  refine X.an ?_
  cases h
  exact R.finM1 Tryz.results80 (by rfl) (by rfl) (by repeat (first | exact trivial | refine ⟨by rfl, ?_⟩)) rfl
theorem w_heldIntS_pc (b0 : List Int) (b1 : Int) (r : Int) (h : w_heldIntS b0 b1 = some r) : PC Tryz.prog 81 [.slice (b0.map int), int b1] (int r) := by
  unfold w_heldIntS at h
  refine PC.start Tryz.func81 Tryz.ntmps81 rfl ok81 rfl ?_
  refine Run.sr ?_
  refine X.an ?_
  refine Run.seq ?_
  refine Run.sr ?_
  refine X.an ?_
  obtain ⟨o1, ho1, h⟩ := bindE h
  refine R.join2 (β := Int) [] [] (fun p14 S => (1, int p14) :: S) (fun p14 M => M) (fun p14 => (Sum.inl p14) = o1) ?_ ?_
  · intro JJ4 hmeet3
    have hup2 := h; clear h; have h := ho1; clear ho1
    refine Run.block ?_
    refine R.bndS (t := 0) (by rfl) (fun hbd7 => ?_)
    replace hbd7 : b0.length ≤ 9223372036854775807 := by first | (rw [List.length_map] at hbd7; exact hbd7) | simp
    refine R.loop2 (β := Int × Int) [(0, .slice (b0.map int))] [] (fun bb S => (1, int bb.2) :: (5, int bb.1) :: S) (fun bb M => M) (fun n bb => 0 ≤ bb.1 ∧ bb.1 + n = (b0.length : Int) ∧ w_heldIntS_L1 (b0.drop bb.1.toNat) bb.1 bb.2 = some o1) b0.length (0, b1) (by repeat (first | trivial | refine ⟨by first | rfl | simp [setL], ?_⟩)) (by repeat (first | trivial | refine ⟨by first | rfl | simp [setL], ?_⟩)) (by rfl) (by rfl) ⟨Int.le_refl _, by simp, h⟩ ?_
    clear h
    rintro JJ7 n7 ⟨z8, a9⟩ hag7 ⟨hza7, hzb7, h⟩
    dsimp only at hza7 hzb7 h
    refine Run.seq ?_
    refine Run.sr ?_
    refine X.mv ?_
    refine X.mv ?_
    refine X.len_s elt26 (by rfl) (by exact List.length_map ..) (by rfl) ?_
    refine X.bi ?_
    refine X.nil ?_
    refine R.cond (by rfl) (fun hc12 => ?_) (fun hc12 => ?_)
    · obtain ⟨x10, xs11, hd7, hx7, hds7, hlt7⟩ := drop_atI hza7 hc12
      rw [hd7] at h
      rw [w_heldIntS_L1] at h
      refine Run.skip ?_
      refine Run.seq ?_
      refine Run.block ?_
      refine Run.seq ?_
      refine Run.sr ?_
      refine X.mv ?_
      refine X.mv ?_
      refine X.index_s elt26 (by rfl) (by rfl) (idxL_spec hx7).1 (idxL_map int hx7) (by rfl) (by rfl) (by rfl) ?_
      refine X.load_c shp3 (by rfl) (by rfl) (by rfl) (by rfl) ?_
      refine X.mv ?_
      refine X.bi ?_
      refine X.nil ?_
      refine R.cond (by rfl) (fun hc13 => ?_) (fun hc13 => ?_)
      · replace h := condT hc13 h
        refine Run.sr ?_
        refine X.an ?_
        cases h
        have h := hup2
        replace h := elimR h
        cases h
        refine R.fin1 Tryz.results81 (by rfl) (by rfl) ?_
        rfl
      · replace h := condF hc13 h
        refine Run.skip ?_
        refine Run.reg ?_
        refine X.mv ?_
        refine X.addW (by rfl) (by rfl) (by rfl) ?_
        refine X.an ?_
        refine Run.blk ?_
        refine Run.reg ?_
        refine X.mv ?_
        refine X.add (by rfl) (by rfl) (by omega) (by rfl) ?_
        refine X.an ?_
        exact hag7 (n7 - 1) (z8 + 1, (W (a9 + 1))) _ _ (by omega) ⟨by first | omega | (dsimp only; omega), by first | omega | (dsimp only; omega), by first | (rw [hds7]; exact h) | (dsimp only; rw [hds7]; exact h)⟩ (by trivial) (by trivial) (by rfl) (by rfl)
    · rw [drop_endI hza7 hc12] at h
      rw [w_heldIntS_L1] at h
      refine Run.exit (by rfl) ?_
      exact hmeet3 a9 _ _ (Option.some.inj h) (by trivial) (by trivial) (by rfl) (by rfl)
  rintro p14 rfl
  replace h := elimL h
  refine Run.sr ?_
  refine X.mv ?_
  refine X.an ?_
  cases h
  refine R.fin1 Tryz.results81 (by rfl) (by rfl) ?_
  rfl
theorem w_FnExactMachineChain_pc (b0 : TProject) (b1 : TDomain) (b2 : Int) (r : Bool) (h : w_FnExactMachineChain b0 b1 b2 = some r) : PC Tryz.prog 18 [eTProject b0, eTDomain b1, int b2] (bool r) := by
  unfold w_FnExactMachineChain at h
  refine PC.start Tryz.func18 Tryz.ntmps18 rfl ok18 rfl ?_
  refine Run.sr ?_
  refine X.box (by rfl) (by rfl) (by repeat (first | trivial | refine ⟨by first | rfl | simp [setL], ?_⟩)) (by rfl) (by rfl) (by rfl) (by rfl) ?_
  refine X.box (by rfl) (by rfl) (by repeat (first | trivial | refine ⟨by first | rfl | simp [setL], ?_⟩)) (by rfl) (by rfl) (by rfl) (by rfl) ?_
  refine X.an ?_
  refine Run.sr ?_
  refine X.an ?_
  refine Run.sr ?_
  refine X.ld shp69 ?_
  refine X.mv ?_
  obtain ⟨v1, hv1, h⟩ := bindE h
  refine X.callP (w_szProject_pc _ _ _ hv1) (by rfl) (by rfl) (by rfl) (by trivial) (by rfl) (by rfl) (by rfl) (by rfl) ?_
  refine X.an ?_
  refine Run.seq ?_
  refine Run.sr ?_
  refine X.mv ?_
  refine X.bi ?_
  refine X.nil ?_
  refine R.cond (by rfl) (fun hc2 => ?_) (fun hc2 => ?_)
  · replace h := condT hc2 h
    refine Run.sr ?_
    refine X.an ?_
    cases h
    refine R.fin1 Tryz.results18 (by rfl) (by rfl) ?_
    rfl
  · replace h := condF hc2 h
    refine Run.skip ?_
    refine Run.sr ?_
    refine X.ld shp70 ?_
    refine X.mv ?_
    obtain ⟨v3, hv3, h⟩ := bindE h
    refine X.callP (w_szDomain_pc _ _ _ hv3) (by rfl) (by rfl) (by rfl) (by trivial) (by rfl) (by rfl) (by rfl) (by rfl) ?_
    refine X.an ?_
    refine Run.seq ?_
    refine Run.sr ?_
    refine X.mv ?_
    refine X.bi ?_
    refine X.nil ?_
    refine R.cond (by rfl) (fun hc4 => ?_) (fun hc4 => ?_)
    · replace h := condT hc4 h
      refine Run.sr ?_
      refine X.an ?_
      cases h
      refine R.fin1 Tryz.results18 (by rfl) (by rfl) ?_
      rfl
    · replace h := condF hc4 h
      refine Run.skip ?_
      refine Run.seq ?_
      refine Run.draw (footOf [(0, ([192], [], [], [])), (1, ([], [1728, 1729, 1730, 1731], [], [])), (2, ([256], [], [], [])), (3, ([], [1856, 1857, 1858], [], [])), (5, ([1728, 1729, 1730, 1731, 1856, 1857, 1858], [], [], []))]) mixed (by kernel_rfl) (by kernel_rfl) ?_
      refine X.ld shp69 ?_
      obtain ⟨v5, hv5, h⟩ := bindE h
      refine X.callA (PC.ofY (ps := [eTProject b0]) (w_toProject_pc _ _ hv5) (by rfl) (by rfl)) (by rfl) (by rfl) (by rfl) (by trivial) (by rfl) (by rfl) (by rfl) (by rfl) (by rfl) (by rfl) ?_
      refine X.ld shp70 ?_
      obtain ⟨v6, hv6, h⟩ := bindE h
      refine X.callA (PC.ofY (ps := [eTDomain b1]) (w_toDomain_pc _ _ hv6) (by rfl) (by rfl)) (by rfl) (by rfl) (by rfl) (by trivial) (by rfl) (by rfl) (by rfl) (by rfl) (by rfl) (by rfl) ?_
      refine X.mv ?_
      obtain ⟨v7, hv7, h⟩ := bindE h
      refine X.callP (s_MachineChain_pc _ _ _ _ hv7) (by rfl) (by rfl) (by rfl) (by repeat (first | trivial | refine ⟨by first | rfl | simp [setL], ?_⟩)) (by rfl) (by rfl) (by rfl) (by rfl) ?_
      refine X.an ?_
      refine Run.sr ?_
      refine X.ld shp69 ?_
      obtain ⟨v8, hv8, h⟩ := bindE h
      refine X.callY (w_toProject_pc _ _ hv8) (by rfl) (by rfl) (by rfl) (by trivial) (by rfl) (by rfl) (by rfl) (by rfl) (by rfl) (by rfl) (by rfl) ?_
      refine X.alloc zer28 (by rfl) (by rfl) (by rfl) ?_
      refine X.store_l shp28 (by rfl) (by rfl) (by rfl) (by rfl) (by repeat (first | trivial | refine ⟨by first | rfl | simp [setL], ?_⟩)) (by rfl) (by rfl) (by rfl) ?_
      refine X.nil ?_
      refine Run.sr ?_
      refine X.ld shp70 ?_
      obtain ⟨v9, hv9, h⟩ := bindE h
      refine X.callY (w_toDomain_pc _ _ hv9) (by rfl) (by rfl) (by rfl) (by trivial) (by rfl) (by rfl) (by rfl) (by rfl) (by rfl) (by rfl) (by rfl) ?_
      refine X.alloc zer32 (by rfl) (by rfl) (by rfl) ?_
      refine X.store_l shp32 (by rfl) (by rfl) (by rfl) (by rfl) (by repeat (first | trivial | refine ⟨by first | rfl | simp [setL], ?_⟩)) (by rfl) (by rfl) (by rfl) ?_
      refine X.nil ?_
      refine Run.sr ?_
      refine X.ld shp28 ?_
      refine X.ld shp32 ?_
      refine X.mv ?_
      obtain ⟨v10, hv10, h⟩ := bindE h
      refine X.callM [(6527, 2112), (12863, 2240)] (PC.lend (M0 := [(6527, .yreg false false), (12863, .yreg false false)]) (i_MachineChain_pc _ _ _ _ hv10) (FlatR.freshM (fun _ => (by repeat (first | exact trivial | refine ⟨trivial, ?_⟩)))) (by rfl) (.agg _ _ _ _ (.same _ _ _ (by rfl) (.yng 6527 _ _ _ _ (by rfl) (.yng 6527 _ _ _ _ (by rfl) (.yng 6527 _ _ _ _ (by rfl) (.yng 6527 _ _ _ _ (by rfl) .nil))))) (.agg _ _ _ _ (.yng 12863 _ _ _ _ (by rfl) (.yng 12863 _ _ _ _ (by rfl) (.yng 12863 _ _ _ _ (by rfl) .nil))) (.same _ _ _ (by rfl) .nil)))) (by rfl) (by rfl) (.agg _ _ _ _ _ _ (.pureB (by rfl) (by repeat (first | trivial | refine ⟨by first | rfl | simp [setL], ?_⟩)) (.yngB 6527 (by rfl) (by rfl) (.yngB 6527 (by rfl) (by rfl) (.yngB 6527 (by rfl) (by rfl) (.yngB 6527 (by rfl) (by rfl) .nil))))) (.agg _ _ _ _ _ _ (.yngB 12863 (by rfl) (by rfl) (.yngB 12863 (by rfl) (by rfl) (.yngB 12863 (by rfl) (by rfl) .nil))) (.pureB (by rfl) (by repeat (first | trivial | refine ⟨by first | rfl | simp [setL], ?_⟩)) .nil))) (by rfl) ⟨rfl, rfl, ⟨_, by rfl, by constructor⟩, by constructor, ⟨rfl, rfl, ⟨_, by rfl, by constructor⟩, by constructor, trivial⟩⟩ (by rfl) (by rfl) (by rfl) (by rfl) (by rfl) (by rfl) (by rfl) (by rfl) (by rfl) ?_
      refine X.an ?_
      refine Run.seq ?_
      refine Run.sr ?_
      refine X.mv ?_
      refine X.mv ?_
      obtain ⟨v11, hv11, h⟩ := bindE h
      refine X.callM [(63, 2496)] (PC.lend (M0 := [(63, .obj true 3 1 (v10.map int))]) (w_eqIntS_pc _ _ _ hv11) (.lit _) (by rfl) (.own 63 _ _ _ _ _ _ _ (by rfl) (by first | rfl | simp [setL] | omega) (.same _ _ _ (by rfl) .nil))) (by rfl) (by rfl) (.ownB 63 (by rfl) (by first | rfl | simp [setL] | omega) (by rfl) (.pureB (by rfl) (by repeat (first | trivial | refine ⟨by first | rfl | simp [setL], ?_⟩)) .nil)) (by rfl) ⟨rfl, rfl, ⟨_, by rfl, by constructor⟩, by constructor, trivial⟩ (by rfl) (by rfl) (by rfl) (by rfl) (by rfl) (by rfl) (by rfl) (by rfl) (by rfl) ?_
      refine X.un (by rfl) (by rfl) (by rfl) ?_
      refine X.nil ?_
      refine R.cond (by rfl) (fun hc12 => ?_) (fun hc12 => ?_)
      · replace h := condT hc12 h
        refine Run.sr ?_
        refine X.an ?_
        cases h
        refine R.fin1 Tryz.results18 (by rfl) (by rfl) ?_
        rfl
      · replace h := condF hc12 h
        refine Run.skip ?_
        refine Run.seq ?_
        refine Run.seq ?_
        refine Run.draw (footOf [(0, ([576], [], [], [])), (1, ([192], [], [], [])), (2, ([], [2944, 2945, 2946, 2947], [], [])), (3, ([2112, 2944, 2945, 2946, 2947], [2112], [], []))]) mixed (by kernel_rfl) (by kernel_rfl) ?_
        refine X.ld shp28 ?_
        refine X.ld shp69 ?_
        obtain ⟨v13, hv13, h⟩ := bindE h
        refine X.callA (PC.ofY (ps := [eTProject b0]) (w_toProject_pc _ _ hv13) (by rfl) (by rfl)) (by rfl) (by rfl) (by rfl) (by trivial) (by rfl) (by rfl) (by rfl) (by rfl) (by rfl) (by rfl) ?_
        obtain ⟨v14, hv14, h⟩ := bindE h
        refine X.callM [(6527, 2112)] (PC.lend (M0 := [(6527, .yreg false false)]) (w_eqProject_pc _ _ _ hv14) (.lit _) (by rfl) (.agg _ _ _ _ (.same _ _ _ (by rfl) (.yng 6527 _ _ _ _ (by rfl) (.yng 6527 _ _ _ _ (by rfl) (.yng 6527 _ _ _ _ (by rfl) (.yng 6527 _ _ _ _ (by rfl) .nil))))) (.agg _ _ _ _ (.same _ _ _ (by rfl) (.same _ _ _ (by rfl) (.same _ _ _ (by rfl) (.same _ _ _ (by rfl) (.same _ _ _ (by rfl) .nil))))) .nil))) (by rfl) (by rfl) (.agg _ _ _ _ _ _ (.pureB (by rfl) (by repeat (first | trivial | refine ⟨by first | rfl | simp [setL], ?_⟩)) (.yngB 6527 (by rfl) (by rfl) (.yngB 6527 (by rfl) (by rfl) (.yngB 6527 (by rfl) (by rfl) (.yngB 6527 (by rfl) (by rfl) .nil))))) (.pureB (by rfl) (by repeat (first | trivial | refine ⟨by first | rfl | simp [setL], ?_⟩)) .nil)) (by rfl) ⟨rfl, rfl, ⟨_, by rfl, by constructor⟩, by constructor, trivial⟩ (by rfl) (by rfl) (by rfl) (by rfl) (by rfl) (by rfl) (by rfl) (by rfl) (by rfl) ?_
        refine X.un (by rfl) (by rfl) (by rfl) ?_
        refine X.nil ?_
        refine R.cond (by rfl) (fun hc15 => ?_) (fun hc15 => ?_)
        · replace h := condT hc15 h
          refine Run.sr ?_
          refine X.an ?_
          cases h
          refine R.fin1 Tryz.results18 (by rfl) (by rfl) ?_
          rfl
        · replace h := condF hc15 h
          refine Run.skip ?_
          refine Run.seq ?_
          refine Run.seq ?_
          refine Run.draw (footOf [(0, ([640], [], [], [])), (1, ([256], [], [], [])), (2, ([], [3264, 3265, 3266], [], [])), (3, ([2240, 3264, 3265, 3266], [2240], [], []))]) mixed (by kernel_rfl) (by kernel_rfl) ?_
          refine X.ld shp32 ?_
          refine X.ld shp70 ?_
          obtain ⟨v16, hv16, h⟩ := bindE h
          refine X.callA (PC.ofY (ps := [eTDomain b1]) (w_toDomain_pc _ _ hv16) (by rfl) (by rfl)) (by rfl) (by rfl) (by rfl) (by trivial) (by rfl) (by rfl) (by rfl) (by rfl) (by rfl) (by rfl) ?_
          obtain ⟨v17, hv17, h⟩ := bindE h
          refine X.callM [(6463, 2240)] (PC.lend (M0 := [(6463, .yreg false false)]) (w_eqDomain_pc _ _ _ hv17) (.lit _) (by rfl) (.agg _ _ _ _ (.yng 6463 _ _ _ _ (by rfl) (.yng 6463 _ _ _ _ (by rfl) (.yng 6463 _ _ _ _ (by rfl) .nil))) (.agg _ _ _ _ (.same _ _ _ (by rfl) (.same _ _ _ (by rfl) (.same _ _ _ (by rfl) .nil))) .nil))) (by rfl) (by rfl) (.agg _ _ _ _ _ _ (.yngB 6463 (by rfl) (by rfl) (.yngB 6463 (by rfl) (by rfl) (.yngB 6463 (by rfl) (by rfl) .nil))) (.pureB (by rfl) (by repeat (first | trivial | refine ⟨by first | rfl | simp [setL], ?_⟩)) .nil)) (by rfl) ⟨rfl, rfl, ⟨_, by rfl, by constructor⟩, by constructor, trivial⟩ (by rfl) (by rfl) (by rfl) (by rfl) (by rfl) (by rfl) (by rfl) (by rfl) (by rfl) ?_
          refine X.un (by rfl) (by rfl) (by rfl) ?_
          refine X.nil ?_
          refine R.cond (by rfl) (fun hc18 => ?_) (fun hc18 => ?_)
          · replace h := condT hc18 h
            refine Run.sr ?_
            refine X.an ?_
            cases h
            refine R.fin1 Tryz.results18 (by rfl) (by rfl) ?_
            rfl
          · replace h := condF hc18 h
            refine Run.skip ?_
            refine Run.sr ?_
            refine X.an ?_
            refine Run.seq ?_
            refine R.demote 2112 (by rfl) (by rfl) (by rfl) (by rfl) (by rfl) (by rfl) ?_
            refine Run.reg ?_
            refine X.ld shp28 ?_
            refine X.mv ?_
            obtain ⟨v19, hv19, h⟩ := bindE h
            refine X.callM [(63, 2112)] (w_markProject_k_pc _ _ _ hv19) (by rfl) (by rfl) (.agg _ _ _ _ _ _ (.pureB (by rfl) (by repeat (first | trivial | refine ⟨by first | rfl | simp [setL], ?_⟩)) (.yskB 63 (by rfl) (by rfl) (.yskB 63 (by rfl) (by rfl) (.yskB 63 (by rfl) (by rfl) (.yskB 63 (by rfl) (by rfl) .nil))))) (.pureB (by rfl) (by repeat (first | trivial | refine ⟨by first | rfl | simp [setL], ?_⟩)) .nil)) (by rfl) ⟨rfl, rfl, ⟨_, by rfl, by constructor⟩, by constructor, trivial⟩ (by rfl) (by rfl) (by rfl) (by rfl) (by rfl) (by rfl) (by rfl) (by rfl) (by rfl) ?_
            refine X.an ?_
            refine Run.seq ?_
            refine R.demote 2240 (by rfl) (by rfl) (by rfl) (by rfl) (by rfl) (by rfl) ?_
            refine Run.reg ?_
            refine X.ld shp32 ?_
            refine X.mv ?_
            obtain ⟨v20, hv20, h⟩ := bindE h
            refine X.callM [(63, 2240)] (w_markDomain_k_pc _ _ _ hv20) (by rfl) (by rfl) (.agg _ _ _ _ _ _ (.yskB 63 (by rfl) (by rfl) (.yskB 63 (by rfl) (by rfl) (.yskB 63 (by rfl) (by rfl) .nil))) (.pureB (by rfl) (by repeat (first | trivial | refine ⟨by first | rfl | simp [setL], ?_⟩)) .nil)) (by rfl) ⟨rfl, rfl, ⟨_, by rfl, by constructor⟩, by constructor, trivial⟩ (by rfl) (by rfl) (by rfl) (by rfl) (by rfl) (by rfl) (by rfl) (by rfl) (by rfl) ?_
            refine X.an ?_
            refine Run.seq ?_
            refine Run.seq ?_
            obtain ⟨e21, he21, h2⟩ := bindE h
            refine R.regG [(2, int b2), (3, .lptr 192 0), (4, .lptr 256 0), (8, .slice (v7.map int)), (11, .own 2496 (v10.map int).length), (67, bool e21)] [(192, .blk true [int b0.Deadline, .slice (b0.Activities.map eTActivity), .slice (b0.Links.map eTLink), .slice (b0.Resources.map eTResource), .slice (b0.Stocks.map int)]), (256, .blk true [.slice (b1.MinStart.map int), .slice (b1.MaxStart.map int), .slice (b1.Modes.map l_int)]), (2496, .obj true 3 1 (v10.map int))] ?_ ?_
            · clear h; have h := he21; clear he21 h2
              refine X.mv ?_
              refine X.bi ?_
              refine X.mv ?_
              refine X.ifG (by rfl) (by rfl) (by rfl) (fun hb22 => ?_) (fun hb22 => ?_)
              · replace h := condF hb22 h
                refine X.mv ?_
                refine X.gy ?_
                refine X.mv ?_
                refine X.gy ?_
                obtain ⟨v23, hv23, h⟩ := bindE h
                refine X.callM [(63, 2496)] (PC.lend (M0 := [(63, .obj true 3 1 (v10.map int))]) (w_eqIntS_pc _ _ _ hv23) (.lit _) (by rfl) (.own 63 _ _ _ _ _ _ _ (by rfl) (by first | rfl | simp [setL] | omega) (.same _ _ _ (by rfl) .nil))) (by rfl) (by rfl) (.ownB 63 (by rfl) (by first | rfl | simp [setL] | omega) (by rfl) (.pureB (by rfl) (by repeat (first | trivial | refine ⟨by first | rfl | simp [setL], ?_⟩)) .nil)) (by rfl) ⟨rfl, rfl, ⟨_, by rfl, by constructor⟩, by constructor, trivial⟩ (by rfl) (by rfl) (by rfl) (by rfl) (by rfl) (by rfl) (by rfl) (by rfl) (by rfl) ?_
                refine X.gy ?_
                refine X.un (by rfl) (by rfl) (by rfl) ?_
                refine X.pickF (by rfl) (by first | rfl | assumption) (by rfl) (by rfl) ?_
                cases h
                exact X.endG (by repeat (first | trivial | refine ⟨by first | rfl | simp [setL], ?_⟩)) (by repeat (first | trivial | refine ⟨by first | rfl | simp [setL], ?_⟩)) (by rfl) (by rfl)
              · replace h := condT hb22 h
                refine X.gn ?_
                refine X.gn ?_
                refine X.gn ?_
                refine X.pickT (by rfl) (by first | rfl | assumption) (by rfl) (by rfl) ?_
                cases h
                exact X.endG (by repeat (first | trivial | refine ⟨by first | rfl | simp [setL], ?_⟩)) (by repeat (first | trivial | refine ⟨by first | rfl | simp [setL], ?_⟩)) (by rfl) (by rfl)
            replace h := h2; clear h2
            refine R.cond (by rfl) (fun hc24 => ?_) (fun hc24 => ?_)
            · replace h := condT hc24 h
              refine Run.sr ?_
              refine X.an ?_
              cases h
              refine R.fin1 Tryz.results18 (by rfl) (by rfl) ?_
              rfl
            · replace h := condF hc24 h
              refine Run.skip ?_
              refine Run.sr ?_
              refine X.an ?_
              refine Run.sr ?_
              refine X.mv ?_
              refine X.mv ?_
              obtain ⟨v25, hv25, h⟩ := bindE h
              refine X.callR [(63, 2496)] [(2496, (v10.map int).length)] [(2496, (v25.2.map int).length)] (w_markIntS_pc _ _ _ hv25) (by rfl) (by rfl) (.ownB 63 (by rfl) (by first | rfl | simp [setL] | omega) (by rfl) (.pureB (by rfl) (by repeat (first | trivial | refine ⟨by first | rfl | simp [setL], ?_⟩)) .nil)) (by rfl) ⟨rfl, rfl, ⟨_, by rfl, by constructor⟩, by constructor, trivial⟩ (by rfl) (by rfl) (by rfl) (by rfl) ⟨rfl, ⟨_, _, _, _, by rfl, by rfl⟩, ⟨_, _, _, _, by rfl, by rfl⟩, trivial⟩ (by rfl) (by repeat (first | trivial | refine ⟨by first | rfl | simp [setL], ?_⟩)) (by rfl) (by rfl) (by rfl) (by rfl) (by rfl) ?_
              refine X.an ?_
              refine Run.sr ?_
              refine X.an ?_
              refine Run.sr ?_
              refine X.mv ?_
              refine X.mv ?_
              obtain ⟨v26, hv26, h⟩ := bindE h
              refine X.callM [(63, 2496)] (PC.lend (M0 := [(63, .obj true 3 1 (v25.2.map int))]) (w_heldIntS_pc _ _ _ hv26) (.lit _) (by rfl) (.own 63 _ _ _ _ _ _ _ (by rfl) (by first | rfl | simp [setL] | omega) (.same _ _ _ (by rfl) .nil))) (by rfl) (by rfl) (.ownB 63 (by rfl) (by first | rfl | simp [setL] | omega) (by rfl) (.pureB (by rfl) (by repeat (first | trivial | refine ⟨by first | rfl | simp [setL], ?_⟩)) .nil)) (by rfl) ⟨rfl, rfl, ⟨_, by rfl, by constructor⟩, by constructor, trivial⟩ (by rfl) (by rfl) (by rfl) (by rfl) (by rfl) (by rfl) (by rfl) (by rfl) (by rfl) ?_
              refine X.an ?_
              refine Run.seq ?_
              refine Run.sr ?_
              refine X.mv ?_
              refine X.bi ?_
              refine X.nil ?_
              refine R.cond (by rfl) (fun hc27 => ?_) (fun hc27 => ?_)
              · replace h := condT hc27 h
                refine Run.sr ?_
                refine X.an ?_
                cases h
                refine R.fin1 Tryz.results18 (by rfl) (by rfl) ?_
                rfl
              · replace h := condF hc27 h
                refine Run.skip ?_
                refine Run.seq ?_
                refine Run.sr ?_
                refine X.mv ?_
                refine X.mv ?_
                refine X.bi ?_
                refine X.nil ?_
                refine R.cond (by rfl) (fun hc28 => ?_) (fun hc28 => ?_)
                · replace h := condT hc28 h
                  refine Run.sr ?_
                  refine X.an ?_
                  cases h
                  refine R.fin1 Tryz.results18 (by rfl) (by rfl) ?_
                  rfl
                · replace h := condF hc28 h
                  refine Run.skip ?_
                  refine Run.seq ?_
                  refine Run.draw (footOf [(0, ([192], [], [], [])), (1, ([], [5120, 5121, 5122, 5123], [], [])), (2, ([256], [], [], [])), (3, ([], [5248, 5249, 5250], [], [])), (5, ([5120, 5121, 5122, 5123, 5248, 5249, 5250], [5376], [], []))]) mixed (by kernel_rfl) (by kernel_rfl) ?_
                  refine X.ld shp69 ?_
                  obtain ⟨v29, hv29, h⟩ := bindE h
                  refine X.callA (PC.ofY (ps := [eTProject b0]) (w_toProject_pc _ _ hv29) (by rfl) (by rfl)) (by rfl) (by rfl) (by rfl) (by trivial) (by rfl) (by rfl) (by rfl) (by rfl) (by rfl) (by rfl) ?_
                  refine X.ld shp70 ?_
                  obtain ⟨v30, hv30, h⟩ := bindE h
                  refine X.callA (PC.ofY (ps := [eTDomain b1]) (w_toDomain_pc _ _ hv30) (by rfl) (by rfl)) (by rfl) (by rfl) (by rfl) (by trivial) (by rfl) (by rfl) (by rfl) (by rfl) (by rfl) (by rfl) ?_
                  refine X.mv ?_
                  obtain ⟨v31, hv31, h⟩ := bindE h
                  refine X.callF (PC.pubF (i_MachineChain_pc _ _ _ _ hv31)) (by rfl) (by rfl) (by rfl) (by repeat (first | trivial | refine ⟨by first | rfl | simp [setL], ?_⟩)) (by rfl) (by rfl) (by rfl) (by rfl) ?_
                  refine X.an ?_
                  refine Run.seq ?_
                  refine Run.sr ?_
                  refine X.mv ?_
                  refine X.mv ?_
                  obtain ⟨v32, hv32, h⟩ := bindE h
                  refine X.callP (w_eqIntS_pc _ _ _ hv32) (by rfl) (by rfl) (by rfl) (by repeat (first | trivial | refine ⟨by first | rfl | simp [setL], ?_⟩)) (by rfl) (by rfl) (by rfl) (by rfl) ?_
                  refine X.un (by rfl) (by rfl) (by rfl) ?_
                  refine X.nil ?_
                  refine R.cond (by rfl) (fun hc33 => ?_) (fun hc33 => ?_)
                  · replace h := condT hc33 h
                    refine Run.sr ?_
                    refine X.an ?_
                    cases h
                    refine R.fin1 Tryz.results18 (by rfl) (by rfl) ?_
                    rfl
                  · replace h := condF hc33 h
                    refine Run.skip ?_
                    refine Run.sr ?_
                    refine X.an ?_
                    refine Run.sr ?_
                    refine X.mv ?_
                    refine X.mv ?_
                    obtain ⟨v34, hv34, h⟩ := bindE h
                    refine X.callM [(63, 2496)] (PC.lend (M0 := [(63, .obj true 3 1 (v25.2.map int))]) (w_heldIntS_pc _ _ _ hv34) (.lit _) (by rfl) (.own 63 _ _ _ _ _ _ _ (by rfl) (by first | rfl | simp [setL] | omega) (.same _ _ _ (by rfl) .nil))) (by rfl) (by rfl) (.ownB 63 (by rfl) (by first | rfl | simp [setL] | omega) (by rfl) (.pureB (by rfl) (by repeat (first | trivial | refine ⟨by first | rfl | simp [setL], ?_⟩)) .nil)) (by rfl) ⟨rfl, rfl, ⟨_, by rfl, by constructor⟩, by constructor, trivial⟩ (by rfl) (by rfl) (by rfl) (by rfl) (by rfl) (by rfl) (by rfl) (by rfl) (by rfl) ?_
                    refine X.an ?_
                    refine Run.seq ?_
                    refine Run.sr ?_
                    refine X.mv ?_
                    refine X.bi ?_
                    refine X.nil ?_
                    refine R.cond (by rfl) (fun hc35 => ?_) (fun hc35 => ?_)
                    · replace h := condT hc35 h
                      refine Run.sr ?_
                      refine X.an ?_
                      cases h
                      refine R.fin1 Tryz.results18 (by rfl) (by rfl) ?_
                      rfl
                    · replace h := condF hc35 h
                      refine Run.skip ?_
                      refine Run.seq ?_
                      refine Run.sr ?_
                      refine X.mv ?_
                      refine X.mv ?_
                      refine X.bi ?_
                      refine X.nil ?_
                      refine R.cond (by rfl) (fun hc36 => ?_) (fun hc36 => ?_)
                      · replace h := condT hc36 h
                        refine Run.sr ?_
                        refine X.an ?_
                        cases h
                        refine R.fin1 Tryz.results18 (by rfl) (by rfl) ?_
                        rfl
                      · replace h := condF hc36 h
                        refine Run.skip ?_
                        refine Run.sr ?_
                        refine X.an ?_
                        cases h
                        refine R.fin1 Tryz.results18 (by rfl) (by rfl) ?_
                        rfl
end Go.Px.YtjncefleglnnjaaGreat
