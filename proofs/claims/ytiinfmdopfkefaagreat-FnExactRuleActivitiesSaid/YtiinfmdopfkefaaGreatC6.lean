/-
  PROVED: contracts of functions of the program over pure values. No condition beyond those that each theorem names.
-/
import Derived.Test.YtiinfmdopfkefaaGreatProg
import Derived.Test.YtiinfmdopfkefaaGreatD2
import Derived.Test.YtiinfmdopfkefaaGreatS
import Derived.Test.YtiinfmdopfkefaaGreatC1
namespace Go.Px.YtiinfmdopfkefaaGreat
set_option linter.unusedSimpArgs false
set_option linter.unusedVariables false
open Go.Px Go.Proofs
theorem elt151 : eltOf Tryz.prog 151 = some (5, 1, 1) := by kernel_rfl
theorem zer5 : zeroPV Tryz.prog 5 = some [.lit (.int .u8 0)] := by kernel_rfl
theorem ok94 : okFn Tryz.prog 94 = true := by kernel_rfl
theorem ok15 : okFn Tryz.prog 15 = true := by kernel_rfl
theorem ok95 : okFn Tryz.prog 95 = true := by kernel_rfl
theorem ok50 : okFn Tryz.prog 50 = true := by kernel_rfl
theorem ok51 : okFn Tryz.prog 51 = true := by kernel_rfl
theorem ok96 : okFn Tryz.prog 96 = true := by kernel_rfl
theorem ok63 : okFn Tryz.prog 63 = true := by kernel_rfl
theorem ok52 : okFn Tryz.prog 52 = true := by kernel_rfl
theorem ok14 : okFn Tryz.prog 14 = true := by kernel_rfl
theorem w_markText_pc (b0 : Int) (r : ByteArray) (h : w_markText b0 = some r) : PC Tryz.prog 94 [int b0] (str r) := by
 unfold w_markText at h
 refine PC.start Tryz.func94 Tryz.ntmps94 rfl ok94 rfl ?_
 refine Run.sr ?_
 refine X.an ?_
 refine Run.seq ?_
 refine Run.sr ?_
 refine X.mv ?_
 refine X.bi ?_
 refine X.nil ?_
 refine R.cd (fun hc1 => ?_) (fun hc1 => ?_)
 ·replace h := condT hc1 h
  refine Run.sr ?_
  refine X.an ?_
  cases h
  refine R.f1 Tryz.results94 ?_
  rfl
 ·replace h := condF hc1 h
  refine Run.skip ?_
  refine Run.sr ?_
  refine X.an ?_
  refine Run.seq ?_
  obtain ⟨o2, ho2, h⟩ := bindE h
  refine R.join2 (β := ByteArray) [] [] (fun p13 S => (3, str p13) :: S) (fun p13 M => M) (fun p13 => p13 = o2) ?_ ?_
  ·intro JJ5 hmeet4
   have hup3 := h; clear h; have h := ho2; clear ho2
   refine Run.block ?_
   refine R.loop2 (β := Int × ByteArray) [] [] (fun bb S => (0, int bb.1) :: (3, str bb.2) :: S) (fun bb M => M) (fun n bb => w_markText_L1 n bb.1 bb.2 = some o2) F0 (b0, ByteArray.empty) (by repeat (first | trivial | refine ⟨by first | rfl | simp [setL], ?_⟩)) (by repeat (first | trivial | refine ⟨by first | rfl | simp [setL], ?_⟩)) (by rfl) (by rfl) h ?_
   clear h
   rintro JJ5 n5 ⟨a7, a8⟩ hag5 h
   dsimp only at h
   obtain _ | n5 := n5
   ·exact absurd h (by simp [w_markText_L1])
   rw [w_markText_L1] at h
   refine Run.seq ?_
   refine Run.sr ?_
   refine X.mv ?_
   refine X.bi ?_
   refine X.nil ?_
   refine R.cd (fun hc11 => ?_) (fun hc11 => ?_)
   ·replace h := condT hc11 h
    refine Run.skip ?_
    refine Run.block ?_
    refine Run.sr ?_
    refine X.mv ?_
    refine X.bi ?_
    refine X.addW (by rfl) (by rfl) (by rfl) ?_
    refine X.conv Tryz.underlying5 (by rw [Tryz.underlying3]; rfl) (by rfl) (by rfl) ?_
    refine X.buildSlice false elt151 zer5 (by rfl) (by rfl) (by rfl) (by rfl) (by rfl) (by rfl) (by repeat (first | trivial | refine ⟨by first | rfl | simp [setL], ?_⟩)) (allSz_spec (by rfl)) (by rfl) (by rfl) (by rfl) ?_
    refine X.convBS ([(IntKind.u8.wrap (W (48 + (a7.tmod 10))))] : List Int) Tryz.underlying151 Tryz.underlying5 Tryz.underlying9 (by rfl) (.own _ _ _ _ _ _ (look_mem (by rfl)) (by first | rfl | simp [setL] | omega)) (by rfl) (by rfl) (by rfl) ?_
    refine X.mv ?_
    obtain ⟨v12, hv12, h⟩ := bindE h
    refine X.cat2 hv12 (by rfl) (by rfl) (by rfl) ?_
    refine X.an ?_
    refine Run.reg ?_
    refine X.mv ?_
    refine X.bi ?_
    refine X.an ?_
    refine Run.blk ?_
    exact hag5 n5 ((W (a7.tdiv 10)), v12) _ _ (by omega) h (by repeat (first | trivial | refine ⟨by first | rfl | simp [setL], ?_⟩)) (by repeat (first | trivial | refine ⟨by first | rfl | simp [setL], ?_⟩)) (by rfl) (by rfl)
   ·replace h := condF hc11 h
    refine Run.exit (by rfl) ?_
    exact hmeet4 a8 _ _ (Option.some.inj h) (by trivial) (by trivial) (by rfl) (by rfl)
  rintro p13 rfl
  refine Run.sr ?_
  refine X.mv ?_
  obtain ⟨v14, hv14, h⟩ := bindE h
  refine X.cat2 hv14 (by rfl) (by rfl) (by rfl) ?_
  refine X.an ?_
  cases h
  refine R.f1 Tryz.results94 ?_
  rfl
theorem w_markIntS_k_pc (b0 : List Int) (b1 : Int) (r : Int) (h : w_markIntS_k b0 b1 = some r) : PCM Tryz.prog 15 [.ysk 63 (.slice (b0.map int)), int b1] [(63, .yreg true true)] (int r) [(63, .yreg true true)] := by
 unfold w_markIntS_k at h
 refine PCM.start Tryz.func15 Tryz.ntmps15 rfl ok15 rfl (by rfl) (by rfl) (by rfl) (by rfl) (by rfl) ?_
 refine Run.sr ?_
 refine X.an ?_
 refine Run.seq ?_
 refine Run.sr ?_
 refine X.an ?_
 obtain ⟨o1, ho1, h⟩ := bindE h
 refine R.join2 (β := Int) [] [(63, .yreg true true)] (fun p13 S => (1, int p13) :: S) (fun p13 M => M) (fun p13 => p13 = o1) ?_ ?_
 ·intro JJ4 hmeet3
  have hup2 := h; clear h; have h := ho1; clear ho1
  refine Run.block ?_
  refine R.bndY true 63 (t := 0) (by rfl) (fun hbd7 => ?_)
  replace hbd7 : b0.length ≤ 9223372036854775807 := by first | (rw [List.length_map] at hbd7; exact hbd7) | simp
  refine R.loop2 (β := Int × Int) [(0, .ysk 63 (.slice (b0.map int)))] [(63, .yreg true true)] (fun bb S => (1, int bb.2) :: (5, int bb.1) :: S) (fun bb M => M) (fun n bb => 0 ≤ bb.1 ∧ bb.1 + n = (b0.length : Int) ∧ w_markIntS_k_L1 (b0.drop bb.1.toNat) bb.1 bb.2 = some o1) b0.length (0, b1) (by repeat (first | trivial | refine ⟨by first | rfl | simp [setL], ?_⟩)) (by repeat (first | trivial | refine ⟨by first | rfl | simp [setL], ?_⟩)) (by rfl) (by rfl) ⟨Int.le_refl _, by simp, h⟩ ?_
  clear h
  rintro JJ7 n7 ⟨z8, a9⟩ hag7 ⟨hza7, hzb7, h⟩
  dsimp only at hza7 hzb7 h
  refine Run.seq ?_
  refine Run.sr ?_
  refine X.mv ?_
  refine X.mv ?_
  refine X.lenY true 63 elt25 (by rfl) (by exact List.length_map ..) (by rfl) ?_
  refine X.bi ?_
  refine X.nil ?_
  refine R.cd (fun hc12 => ?_) (fun hc12 => ?_)
  ·obtain ⟨x10, xs11, hd7, hx7, hds7, hlt7⟩ := drop_atI hza7 hc12
   rw [hd7] at h
   rw [w_markIntS_k_L1] at h
   refine Run.skip ?_
   refine Run.seq ?_
   refine Run.block ?_
   refine Run.sr ?_
   refine X.mv ?_
   refine X.mv ?_
   refine X.mv ?_
   refine X.indexY true 63 elt25 (by rfl) (by rfl) (idxL_spec hx7).1 (idxL_map int hx7) (by rfl) (by rfl) ?_
   refine X.storeY 63 shp3 (by rfl) (by rfl) (by rfl) (by rfl) (by rfl) (by rfl) (by rfl) ?_
   refine X.nil ?_
   refine Run.reg ?_
   refine X.mv ?_
   refine X.addW (by rfl) (by rfl) (by rfl) ?_
   refine X.an ?_
   refine Run.blk ?_
   refine Run.reg ?_
   refine X.mv ?_
   refine X.add (by rfl) (by rfl) (by omega) (by rfl) ?_
   refine X.an ?_
   exact hag7 (n7 - 1) (z8 + 1, (W (a9 + 1))) _ _ (by omega) ⟨by first | omega | (dsimp only; omega), by first | omega | (dsimp only; omega), by first | (rw [hds7]; exact h) | (dsimp only; rw [hds7]; exact h)⟩ (by trivial) (by trivial) (by rfl) (by rfl)
  ·rw [drop_endI hza7 hc12] at h
   rw [w_markIntS_k_L1] at h
   refine Run.exit (by rfl) ?_
   exact hmeet3 a9 _ _ (Option.some.inj h) (by trivial) (by trivial) (by rfl) (by rfl)
 rintro p13 rfl
 refine Run.sr ?_
 refine X.mv ?_
 refine X.an ?_
 cases h
 exact R.finM1 Tryz.results15 (by rfl) (by rfl) (by repeat (first | exact trivial | refine ⟨by rfl, ?_⟩)) rfl
theorem w_markModeS_k_pc (b0 : List TMode) (b1 : Int) (r : Int) (h : w_markModeS_k b0 b1 = some r) : PCM Tryz.prog 95 [.ysk 63 (.slice (b0.map eTMode)), int b1] [(63, .yreg true true)] (int r) [(63, .yreg true true)] := by
 unfold w_markModeS_k at h
 refine PCM.start Tryz.func95 Tryz.ntmps95 rfl ok95 rfl (by rfl) (by rfl) (by rfl) (by rfl) (by rfl) ?_
 refine Run.sr ?_
 refine X.an ?_
 refine Run.seq ?_
 refine Run.sr ?_
 refine X.an ?_
 obtain ⟨o1, ho1, h⟩ := bindE h
 refine R.join2 (β := Int) [] [(63, .yreg true true)] (fun p15 S => (1, int p15) :: S) (fun p15 M => M) (fun p15 => p15 = o1) ?_ ?_
 ·intro JJ4 hmeet3
  have hup2 := h; clear h; have h := ho1; clear ho1
  refine Run.block ?_
  refine R.bndY true 63 (t := 0) (by rfl) (fun hbd7 => ?_)
  replace hbd7 : b0.length ≤ 9223372036854775807 := by first | (rw [List.length_map] at hbd7; exact hbd7) | simp
  refine R.loop2 (β := Int × Int) [(0, .ysk 63 (.slice (b0.map eTMode)))] [(63, .yreg true true)] (fun bb S => (1, int bb.2) :: (5, int bb.1) :: S) (fun bb M => M) (fun n bb => 0 ≤ bb.1 ∧ bb.1 + n = (b0.length : Int) ∧ w_markModeS_k_L1 (b0.drop bb.1.toNat) bb.1 bb.2 = some o1) b0.length (0, b1) (by repeat (first | trivial | refine ⟨by first | rfl | simp [setL], ?_⟩)) (by repeat (first | trivial | refine ⟨by first | rfl | simp [setL], ?_⟩)) (by rfl) (by rfl) ⟨Int.le_refl _, by simp, h⟩ ?_
  clear h
  rintro JJ7 n7 ⟨z8, a9⟩ hag7 ⟨hza7, hzb7, h⟩
  dsimp only at hza7 hzb7 h
  refine Run.seq ?_
  refine Run.sr ?_
  refine X.mv ?_
  refine X.mv ?_
  refine X.lenY true 63 elt106 (by rfl) (by exact List.length_map ..) (by rfl) ?_
  refine X.bi ?_
  refine X.nil ?_
  refine R.cd (fun hc12 => ?_) (fun hc12 => ?_)
  ·obtain ⟨x10, xs11, hd7, hx7, hds7, hlt7⟩ := drop_atI hza7 hc12
   rw [hd7] at h
   rw [w_markModeS_k_L1] at h
   refine Run.skip ?_
   refine Run.seq ?_
   refine Run.block ?_
   refine Run.sr ?_
   refine X.mv ?_
   refine X.mv ?_
   refine X.mv ?_
   refine X.indexY true 63 elt106 (by rfl) (by rfl) (idxL_spec hx7).1 (idxL_map eTMode hx7) (by rfl) (by rfl) ?_
   refine X.fieldY true 63 fld110_0 (by rfl) (by rfl) ?_
   refine X.storeY 63 shp3 (by rfl) (by rfl) (by rfl) (by rfl) (by rfl) (by rfl) (by rfl) ?_
   refine X.nil ?_
   refine Run.sr ?_
   refine X.mv ?_
   refine X.addW (by rfl) (by rfl) (by rfl) ?_
   refine X.an ?_
   refine Run.sr ?_
   refine X.mv ?_
   refine X.mv ?_
   refine X.indexY true 63 elt106 (by rfl) (by rfl) (idxL_spec hx7).1 (idxL_map eTMode hx7) (by rfl) (by rfl) ?_
   refine X.fieldY true 63 fld110_1 (by rfl) (by rfl) ?_
   refine X.loadY true 63 shp25 (by rfl) (by rfl) (by rfl) (by rfl) ?_
   refine X.mv ?_
   obtain ⟨v13, hv13, h⟩ := bindE h
   refine X.callM [(63, 63)] (w_markIntS_k_pc _ _ _ hv13) (by rfl) (by rfl) (.yskB 63 (by rfl) (by rfl) (.pureB (by rfl) (by repeat (first | trivial | refine ⟨by first | rfl | simp [setL], ?_⟩)) .nil)) (by rfl) ⟨rfl, rfl, ⟨_, by rfl, by constructor⟩, by constructor, trivial⟩ (by rfl) (by rfl) (by rfl) (by rfl) (by rfl) (by rfl) (by rfl) (by rfl) (by rfl) ?_
   refine X.an ?_
   refine Run.reg ?_
   refine X.mv ?_
   refine X.mv ?_
   refine X.indexY true 63 elt106 (by rfl) (by rfl) (idxL_spec hx7).1 (idxL_map eTMode hx7) (by rfl) (by rfl) ?_
   refine X.fieldY true 63 fld110_2 (by rfl) (by rfl) ?_
   refine X.loadY true 63 shp25 (by rfl) (by rfl) (by rfl) (by rfl) ?_
   refine X.mv ?_
   obtain ⟨v14, hv14, h⟩ := bindE h
   refine X.callM [(63, 63)] (w_markIntS_k_pc _ _ _ hv14) (by rfl) (by rfl) (.yskB 63 (by rfl) (by rfl) (.pureB (by rfl) (by repeat (first | trivial | refine ⟨by first | rfl | simp [setL], ?_⟩)) .nil)) (by rfl) ⟨rfl, rfl, ⟨_, by rfl, by constructor⟩, by constructor, trivial⟩ (by rfl) (by rfl) (by rfl) (by rfl) (by rfl) (by rfl) (by rfl) (by rfl) (by rfl) ?_
   refine X.an ?_
   refine Run.blk ?_
   refine Run.reg ?_
   refine X.mv ?_
   refine X.add (by rfl) (by rfl) (by omega) (by rfl) ?_
   refine X.an ?_
   exact hag7 (n7 - 1) (z8 + 1, v14) _ _ (by omega) ⟨by first | omega | (dsimp only; omega), by first | omega | (dsimp only; omega), by first | (rw [hds7]; exact h) | (dsimp only; rw [hds7]; exact h)⟩ (by trivial) (by trivial) (by rfl) (by rfl)
  ·rw [drop_endI hza7 hc12] at h
   rw [w_markModeS_k_L1] at h
   refine Run.exit (by rfl) ?_
   exact hmeet3 a9 _ _ (Option.some.inj h) (by trivial) (by trivial) (by rfl) (by rfl)
 rintro p15 rfl
 refine Run.sr ?_
 refine X.mv ?_
 refine X.an ?_
 cases h
 exact R.finM1 Tryz.results95 (by rfl) (by rfl) (by repeat (first | exact trivial | refine ⟨by rfl, ?_⟩)) rfl
theorem w_markActivityS_k_pc (b0 : List TActivity) (b1 : Int) (r : Int) (h : w_markActivityS_k b0 b1 = some r) : PCM Tryz.prog 50 [.ysk 63 (.slice (b0.map eTActivity)), int b1] [(63, .yreg true true)] (int r) [(63, .yreg true true)] := by
 unfold w_markActivityS_k at h
 refine PCM.start Tryz.func50 Tryz.ntmps50 rfl ok50 rfl (by rfl) (by rfl) (by rfl) (by rfl) (by rfl) ?_
 refine Run.sr ?_
 refine X.an ?_
 refine Run.seq ?_
 refine Run.sr ?_
 refine X.an ?_
 obtain ⟨o1, ho1, h⟩ := bindE h
 refine R.join2 (β := Int) [] [(63, .yreg true true)] (fun p15 S => (1, int p15) :: S) (fun p15 M => M) (fun p15 => p15 = o1) ?_ ?_
 ·intro JJ4 hmeet3
  have hup2 := h; clear h; have h := ho1; clear ho1
  refine Run.block ?_
  refine R.bndY true 63 (t := 0) (by rfl) (fun hbd7 => ?_)
  replace hbd7 : b0.length ≤ 9223372036854775807 := by first | (rw [List.length_map] at hbd7; exact hbd7) | simp
  refine R.loop2 (β := Int × Int) [(0, .ysk 63 (.slice (b0.map eTActivity)))] [(63, .yreg true true)] (fun bb S => (1, int bb.2) :: (5, int bb.1) :: S) (fun bb M => M) (fun n bb => 0 ≤ bb.1 ∧ bb.1 + n = (b0.length : Int) ∧ w_markActivityS_k_L1 (b0.drop bb.1.toNat) bb.1 bb.2 = some o1) b0.length (0, b1) (by repeat (first | trivial | refine ⟨by first | rfl | simp [setL], ?_⟩)) (by repeat (first | trivial | refine ⟨by first | rfl | simp [setL], ?_⟩)) (by rfl) (by rfl) ⟨Int.le_refl _, by simp, h⟩ ?_
  clear h
  rintro JJ7 n7 ⟨z8, a9⟩ hag7 ⟨hza7, hzb7, h⟩
  dsimp only at hza7 hzb7 h
  refine Run.seq ?_
  refine Run.sr ?_
  refine X.mv ?_
  refine X.mv ?_
  refine X.lenY true 63 elt32 (by rfl) (by exact List.length_map ..) (by rfl) ?_
  refine X.bi ?_
  refine X.nil ?_
  refine R.cd (fun hc12 => ?_) (fun hc12 => ?_)
  ·obtain ⟨x10, xs11, hd7, hx7, hds7, hlt7⟩ := drop_atI hza7 hc12
   rw [hd7] at h
   rw [w_markActivityS_k_L1] at h
   refine Run.skip ?_
   refine Run.seq ?_
   refine Run.block ?_
   refine Run.sr ?_
   refine X.mv ?_
   refine X.mv ?_
   refine X.mv ?_
   obtain ⟨v13, hv13, h⟩ := bindE h
   refine X.callP (w_markText_pc _ _ hv13) (by rfl) (by rfl) (by rfl) (by trivial) (by rfl) (by rfl) (by rfl) (by rfl) ?_
   refine X.indexY true 63 elt32 (by rfl) (by rfl) (idxL_spec hx7).1 (idxL_map eTActivity hx7) (by rfl) (by rfl) ?_
   refine X.fieldY true 63 fld108_0 (by rfl) (by rfl) ?_
   refine X.storeY 63 shp9 (by rfl) (by rfl) (by rfl) (by rfl) (by rfl) (by rfl) (by rfl) ?_
   refine X.nil ?_
   refine Run.sr ?_
   refine X.mv ?_
   refine X.addW (by rfl) (by rfl) (by rfl) ?_
   refine X.an ?_
   refine Run.sr ?_
   refine X.mv ?_
   refine X.mv ?_
   refine X.mv ?_
   refine X.indexY true 63 elt32 (by rfl) (by rfl) (idxL_spec hx7).1 (idxL_map eTActivity hx7) (by rfl) (by rfl) ?_
   refine X.fieldY true 63 fld108_1 (by rfl) (by rfl) ?_
   refine X.storeY 63 shp3 (by rfl) (by rfl) (by rfl) (by rfl) (by rfl) (by rfl) (by rfl) ?_
   refine X.nil ?_
   refine Run.sr ?_
   refine X.mv ?_
   refine X.addW (by rfl) (by rfl) (by rfl) ?_
   refine X.an ?_
   refine Run.reg ?_
   refine X.mv ?_
   refine X.mv ?_
   refine X.indexY true 63 elt32 (by rfl) (by rfl) (idxL_spec hx7).1 (idxL_map eTActivity hx7) (by rfl) (by rfl) ?_
   refine X.fieldY true 63 fld108_2 (by rfl) (by rfl) ?_
   refine X.loadY true 63 shp106 (by rfl) (by rfl) (by rfl) (by rfl) ?_
   refine X.mv ?_
   obtain ⟨v14, hv14, h⟩ := bindE h
   refine X.callM [(63, 63)] (w_markModeS_k_pc _ _ _ hv14) (by rfl) (by rfl) (.yskB 63 (by rfl) (by rfl) (.pureB (by rfl) (by repeat (first | trivial | refine ⟨by first | rfl | simp [setL], ?_⟩)) .nil)) (by rfl) ⟨rfl, rfl, ⟨_, by rfl, by constructor⟩, by constructor, trivial⟩ (by rfl) (by rfl) (by rfl) (by rfl) (by rfl) (by rfl) (by rfl) (by rfl) (by rfl) ?_
   refine X.an ?_
   refine Run.blk ?_
   refine Run.reg ?_
   refine X.mv ?_
   refine X.add (by rfl) (by rfl) (by omega) (by rfl) ?_
   refine X.an ?_
   exact hag7 (n7 - 1) (z8 + 1, v14) _ _ (by omega) ⟨by first | omega | (dsimp only; omega), by first | omega | (dsimp only; omega), by first | (rw [hds7]; exact h) | (dsimp only; rw [hds7]; exact h)⟩ (by trivial) (by trivial) (by rfl) (by rfl)
  ·rw [drop_endI hza7 hc12] at h
   rw [w_markActivityS_k_L1] at h
   refine Run.exit (by rfl) ?_
   exact hmeet3 a9 _ _ (Option.some.inj h) (by trivial) (by trivial) (by rfl) (by rfl)
 rintro p15 rfl
 refine Run.sr ?_
 refine X.mv ?_
 refine X.an ?_
 cases h
 exact R.finM1 Tryz.results50 (by rfl) (by rfl) (by repeat (first | exact trivial | refine ⟨by rfl, ?_⟩)) rfl
theorem w_markLinkS_k_pc (b0 : List TLink) (b1 : Int) (r : Int) (h : w_markLinkS_k b0 b1 = some r) : PCM Tryz.prog 51 [.ysk 63 (.slice (b0.map eTLink)), int b1] [(63, .yreg true true)] (int r) [(63, .yreg true true)] := by
 unfold w_markLinkS_k at h
 refine PCM.start Tryz.func51 Tryz.ntmps51 rfl ok51 rfl (by rfl) (by rfl) (by rfl) (by rfl) (by rfl) ?_
 refine Run.sr ?_
 refine X.an ?_
 refine Run.seq ?_
 refine Run.sr ?_
 refine X.an ?_
 obtain ⟨o1, ho1, h⟩ := bindE h
 refine R.join2 (β := Int) [] [(63, .yreg true true)] (fun p13 S => (1, int p13) :: S) (fun p13 M => M) (fun p13 => p13 = o1) ?_ ?_
 ·intro JJ4 hmeet3
  have hup2 := h; clear h; have h := ho1; clear ho1
  refine Run.block ?_
  refine R.bndY true 63 (t := 0) (by rfl) (fun hbd7 => ?_)
  replace hbd7 : b0.length ≤ 9223372036854775807 := by first | (rw [List.length_map] at hbd7; exact hbd7) | simp
  refine R.loop2 (β := Int × Int) [(0, .ysk 63 (.slice (b0.map eTLink)))] [(63, .yreg true true)] (fun bb S => (1, int bb.2) :: (5, int bb.1) :: S) (fun bb M => M) (fun n bb => 0 ≤ bb.1 ∧ bb.1 + n = (b0.length : Int) ∧ w_markLinkS_k_L1 (b0.drop bb.1.toNat) bb.1 bb.2 = some o1) b0.length (0, b1) (by repeat (first | trivial | refine ⟨by first | rfl | simp [setL], ?_⟩)) (by repeat (first | trivial | refine ⟨by first | rfl | simp [setL], ?_⟩)) (by rfl) (by rfl) ⟨Int.le_refl _, by simp, h⟩ ?_
  clear h
  rintro JJ7 n7 ⟨z8, a9⟩ hag7 ⟨hza7, hzb7, h⟩
  dsimp only at hza7 hzb7 h
  refine Run.seq ?_
  refine Run.sr ?_
  refine X.mv ?_
  refine X.mv ?_
  refine X.lenY true 63 elt33 (by rfl) (by exact List.length_map ..) (by rfl) ?_
  refine X.bi ?_
  refine X.nil ?_
  refine R.cd (fun hc12 => ?_) (fun hc12 => ?_)
  ·obtain ⟨x10, xs11, hd7, hx7, hds7, hlt7⟩ := drop_atI hza7 hc12
   rw [hd7] at h
   rw [w_markLinkS_k_L1] at h
   refine Run.skip ?_
   refine Run.seq ?_
   refine Run.block ?_
   refine Run.sr ?_
   refine X.mv ?_
   refine X.mv ?_
   refine X.mv ?_
   refine X.indexY true 63 elt33 (by rfl) (by rfl) (idxL_spec hx7).1 (idxL_map eTLink hx7) (by rfl) (by rfl) ?_
   refine X.fieldY true 63 fld68_0 (by rfl) (by rfl) ?_
   refine X.storeY 63 shp3 (by rfl) (by rfl) (by rfl) (by rfl) (by rfl) (by rfl) (by rfl) ?_
   refine X.nil ?_
   refine Run.sr ?_
   refine X.mv ?_
   refine X.addW (by rfl) (by rfl) (by rfl) ?_
   refine X.an ?_
   refine Run.sr ?_
   refine X.mv ?_
   refine X.mv ?_
   refine X.mv ?_
   refine X.indexY true 63 elt33 (by rfl) (by rfl) (idxL_spec hx7).1 (idxL_map eTLink hx7) (by rfl) (by rfl) ?_
   refine X.fieldY true 63 fld68_1 (by rfl) (by rfl) ?_
   refine X.storeY 63 shp3 (by rfl) (by rfl) (by rfl) (by rfl) (by rfl) (by rfl) (by rfl) ?_
   refine X.nil ?_
   refine Run.sr ?_
   refine X.mv ?_
   refine X.addW (by rfl) (by rfl) (by rfl) ?_
   refine X.an ?_
   refine Run.sr ?_
   refine X.mv ?_
   refine X.mv ?_
   refine X.mv ?_
   refine X.bi ?_
   refine X.bi ?_
   refine X.indexY true 63 elt33 (by rfl) (by rfl) (idxL_spec hx7).1 (idxL_map eTLink hx7) (by rfl) (by rfl) ?_
   refine X.fieldY true 63 fld68_2 (by rfl) (by rfl) ?_
   refine X.storeY 63 shp4 (by rfl) (by rfl) (by rfl) (by rfl) (by rfl) (by rfl) (by rfl) ?_
   refine X.nil ?_
   refine Run.sr ?_
   refine X.mv ?_
   refine X.addW (by rfl) (by rfl) (by rfl) ?_
   refine X.an ?_
   refine Run.sr ?_
   refine X.mv ?_
   refine X.mv ?_
   refine X.mv ?_
   refine X.indexY true 63 elt33 (by rfl) (by rfl) (idxL_spec hx7).1 (idxL_map eTLink hx7) (by rfl) (by rfl) ?_
   refine X.fieldY true 63 fld68_3 (by rfl) (by rfl) ?_
   refine X.storeY 63 shp3 (by rfl) (by rfl) (by rfl) (by rfl) (by rfl) (by rfl) (by rfl) ?_
   refine X.nil ?_
   refine Run.reg ?_
   refine X.mv ?_
   refine X.addW (by rfl) (by rfl) (by rfl) ?_
   refine X.an ?_
   refine Run.blk ?_
   refine Run.reg ?_
   refine X.mv ?_
   refine X.add (by rfl) (by rfl) (by omega) (by rfl) ?_
   refine X.an ?_
   exact hag7 (n7 - 1) (z8 + 1, (W ((W ((W ((W (a9 + 1)) + 1)) + 1)) + 1))) _ _ (by omega) ⟨by first | omega | (dsimp only; omega), by first | omega | (dsimp only; omega), by first | (rw [hds7]; exact h) | (dsimp only; rw [hds7]; exact h)⟩ (by trivial) (by trivial) (by rfl) (by rfl)
  ·rw [drop_endI hza7 hc12] at h
   rw [w_markLinkS_k_L1] at h
   refine Run.exit (by rfl) ?_
   exact hmeet3 a9 _ _ (Option.some.inj h) (by trivial) (by trivial) (by rfl) (by rfl)
 rintro p13 rfl
 refine Run.sr ?_
 refine X.mv ?_
 refine X.an ?_
 cases h
 exact R.finM1 Tryz.results51 (by rfl) (by rfl) (by repeat (first | exact trivial | refine ⟨by rfl, ?_⟩)) rfl
theorem w_markStepS_k_pc (b0 : List TStep) (b1 : Int) (r : Int) (h : w_markStepS_k b0 b1 = some r) : PCM Tryz.prog 96 [.ysk 63 (.slice (b0.map eTStep)), int b1] [(63, .yreg true true)] (int r) [(63, .yreg true true)] := by
 unfold w_markStepS_k at h
 refine PCM.start Tryz.func96 Tryz.ntmps96 rfl ok96 rfl (by rfl) (by rfl) (by rfl) (by rfl) (by rfl) ?_
 refine Run.sr ?_
 refine X.an ?_
 refine Run.seq ?_
 refine Run.sr ?_
 refine X.an ?_
 obtain ⟨o1, ho1, h⟩ := bindE h
 refine R.join2 (β := Int) [] [(63, .yreg true true)] (fun p13 S => (1, int p13) :: S) (fun p13 M => M) (fun p13 => p13 = o1) ?_ ?_
 ·intro JJ4 hmeet3
  have hup2 := h; clear h; have h := ho1; clear ho1
  refine Run.block ?_
  refine R.bndY true 63 (t := 0) (by rfl) (fun hbd7 => ?_)
  replace hbd7 : b0.length ≤ 9223372036854775807 := by first | (rw [List.length_map] at hbd7; exact hbd7) | simp
  refine R.loop2 (β := Int × Int) [(0, .ysk 63 (.slice (b0.map eTStep)))] [(63, .yreg true true)] (fun bb S => (1, int bb.2) :: (5, int bb.1) :: S) (fun bb M => M) (fun n bb => 0 ≤ bb.1 ∧ bb.1 + n = (b0.length : Int) ∧ w_markStepS_k_L1 (b0.drop bb.1.toNat) bb.1 bb.2 = some o1) b0.length (0, b1) (by repeat (first | trivial | refine ⟨by first | rfl | simp [setL], ?_⟩)) (by repeat (first | trivial | refine ⟨by first | rfl | simp [setL], ?_⟩)) (by rfl) (by rfl) ⟨Int.le_refl _, by simp, h⟩ ?_
  clear h
  rintro JJ7 n7 ⟨z8, a9⟩ hag7 ⟨hza7, hzb7, h⟩
  dsimp only at hza7 hzb7 h
  refine Run.seq ?_
  refine Run.sr ?_
  refine X.mv ?_
  refine X.mv ?_
  refine X.lenY true 63 elt84 (by rfl) (by exact List.length_map ..) (by rfl) ?_
  refine X.bi ?_
  refine X.nil ?_
  refine R.cd (fun hc12 => ?_) (fun hc12 => ?_)
  ·obtain ⟨x10, xs11, hd7, hx7, hds7, hlt7⟩ := drop_atI hza7 hc12
   rw [hd7] at h
   rw [w_markStepS_k_L1] at h
   refine Run.skip ?_
   refine Run.seq ?_
   refine Run.block ?_
   refine Run.sr ?_
   refine X.mv ?_
   refine X.mv ?_
   refine X.mv ?_
   refine X.indexY true 63 elt84 (by rfl) (by rfl) (idxL_spec hx7).1 (idxL_map eTStep hx7) (by rfl) (by rfl) ?_
   refine X.fieldY true 63 fld88_0 (by rfl) (by rfl) ?_
   refine X.storeY 63 shp3 (by rfl) (by rfl) (by rfl) (by rfl) (by rfl) (by rfl) (by rfl) ?_
   refine X.nil ?_
   refine Run.sr ?_
   refine X.mv ?_
   refine X.addW (by rfl) (by rfl) (by rfl) ?_
   refine X.an ?_
   refine Run.sr ?_
   refine X.mv ?_
   refine X.mv ?_
   refine X.mv ?_
   refine X.indexY true 63 elt84 (by rfl) (by rfl) (idxL_spec hx7).1 (idxL_map eTStep hx7) (by rfl) (by rfl) ?_
   refine X.fieldY true 63 fld88_1 (by rfl) (by rfl) ?_
   refine X.storeY 63 shp3 (by rfl) (by rfl) (by rfl) (by rfl) (by rfl) (by rfl) (by rfl) ?_
   refine X.nil ?_
   refine Run.reg ?_
   refine X.mv ?_
   refine X.addW (by rfl) (by rfl) (by rfl) ?_
   refine X.an ?_
   refine Run.blk ?_
   refine Run.reg ?_
   refine X.mv ?_
   refine X.add (by rfl) (by rfl) (by omega) (by rfl) ?_
   refine X.an ?_
   exact hag7 (n7 - 1) (z8 + 1, (W ((W (a9 + 1)) + 1))) _ _ (by omega) ⟨by first | omega | (dsimp only; omega), by first | omega | (dsimp only; omega), by first | (rw [hds7]; exact h) | (dsimp only; rw [hds7]; exact h)⟩ (by trivial) (by trivial) (by rfl) (by rfl)
  ·rw [drop_endI hza7 hc12] at h
   rw [w_markStepS_k_L1] at h
   refine Run.exit (by rfl) ?_
   exact hmeet3 a9 _ _ (Option.some.inj h) (by trivial) (by trivial) (by rfl) (by rfl)
 rintro p13 rfl
 refine Run.sr ?_
 refine X.mv ?_
 refine X.an ?_
 cases h
 exact R.finM1 Tryz.results96 (by rfl) (by rfl) (by repeat (first | exact trivial | refine ⟨by rfl, ?_⟩)) rfl
theorem w_markIntSS_k_pc (b0 : List (List Int)) (b1 : Int) (r : Int) (h : w_markIntSS_k b0 b1 = some r) : PCM Tryz.prog 63 [.ysk 63 (.slice (b0.map l_int)), int b1] [(63, .yreg true true)] (int r) [(63, .yreg true true)] := by
 unfold w_markIntSS_k at h
 refine PCM.start Tryz.func63 Tryz.ntmps63 rfl ok63 rfl (by rfl) (by rfl) (by rfl) (by rfl) (by rfl) ?_
 refine Run.sr ?_
 refine X.an ?_
 refine Run.seq ?_
 refine Run.sr ?_
 refine X.an ?_
 obtain ⟨o1, ho1, h⟩ := bindE h
 refine R.join2 (β := Int) [] [(63, .yreg true true)] (fun p14 S => (1, int p14) :: S) (fun p14 M => M) (fun p14 => p14 = o1) ?_ ?_
 ·intro JJ4 hmeet3
  have hup2 := h; clear h; have h := ho1; clear ho1
  refine Run.block ?_
  refine R.bndY true 63 (t := 0) (by rfl) (fun hbd7 => ?_)
  replace hbd7 : b0.length ≤ 9223372036854775807 := by first | (rw [List.length_map] at hbd7; exact hbd7) | simp
  refine R.loop2 (β := Int × Int) [(0, .ysk 63 (.slice (b0.map l_int)))] [(63, .yreg true true)] (fun bb S => (1, int bb.2) :: (5, int bb.1) :: S) (fun bb M => M) (fun n bb => 0 ≤ bb.1 ∧ bb.1 + n = (b0.length : Int) ∧ w_markIntSS_k_L1 (b0.drop bb.1.toNat) bb.1 bb.2 = some o1) b0.length (0, b1) (by repeat (first | trivial | refine ⟨by first | rfl | simp [setL], ?_⟩)) (by repeat (first | trivial | refine ⟨by first | rfl | simp [setL], ?_⟩)) (by rfl) (by rfl) ⟨Int.le_refl _, by simp, h⟩ ?_
  clear h
  rintro JJ7 n7 ⟨z8, a9⟩ hag7 ⟨hza7, hzb7, h⟩
  dsimp only at hza7 hzb7 h
  refine Run.seq ?_
  refine Run.sr ?_
  refine X.mv ?_
  refine X.mv ?_
  refine X.lenY true 63 elt45 (by rfl) (by exact List.length_map ..) (by rfl) ?_
  refine X.bi ?_
  refine X.nil ?_
  refine R.cd (fun hc12 => ?_) (fun hc12 => ?_)
  ·obtain ⟨x10, xs11, hd7, hx7, hds7, hlt7⟩ := drop_atI hza7 hc12
   rw [hd7] at h
   rw [w_markIntSS_k_L1] at h
   refine Run.skip ?_
   refine Run.seq ?_
   refine Run.block ?_
   refine Run.reg ?_
   refine X.mv ?_
   refine X.mv ?_
   refine X.indexY true 63 elt45 (by rfl) (by rfl) (idxL_spec hx7).1 (idxL_map l_int hx7) (by rfl) (by rfl) ?_
   refine X.loadY true 63 shp25 (by rfl) (by rfl) (by rfl) (by rfl) ?_
   refine X.mv ?_
   obtain ⟨v13, hv13, h⟩ := bindE h
   refine X.callM [(63, 63)] (w_markIntS_k_pc _ _ _ hv13) (by rfl) (by rfl) (.yskB 63 (by rfl) (by rfl) (.pureB (by rfl) (by repeat (first | trivial | refine ⟨by first | rfl | simp [setL], ?_⟩)) .nil)) (by rfl) ⟨rfl, rfl, ⟨_, by rfl, by constructor⟩, by constructor, trivial⟩ (by rfl) (by rfl) (by rfl) (by rfl) (by rfl) (by rfl) (by rfl) (by rfl) (by rfl) ?_
   refine X.an ?_
   refine Run.blk ?_
   refine Run.reg ?_
   refine X.mv ?_
   refine X.add (by rfl) (by rfl) (by omega) (by rfl) ?_
   refine X.an ?_
   exact hag7 (n7 - 1) (z8 + 1, v13) _ _ (by omega) ⟨by first | omega | (dsimp only; omega), by first | omega | (dsimp only; omega), by first | (rw [hds7]; exact h) | (dsimp only; rw [hds7]; exact h)⟩ (by trivial) (by trivial) (by rfl) (by rfl)
  ·rw [drop_endI hza7 hc12] at h
   rw [w_markIntSS_k_L1] at h
   refine Run.exit (by rfl) ?_
   exact hmeet3 a9 _ _ (Option.some.inj h) (by trivial) (by trivial) (by rfl) (by rfl)
 rintro p14 rfl
 refine Run.sr ?_
 refine X.mv ?_
 refine X.an ?_
 cases h
 exact R.finM1 Tryz.results63 (by rfl) (by rfl) (by repeat (first | exact trivial | refine ⟨by rfl, ?_⟩)) rfl
theorem w_markResourceS_k_pc (b0 : List TResource) (b1 : Int) (r : Int) (h : w_markResourceS_k b0 b1 = some r) : PCM Tryz.prog 52 [.ysk 63 (.slice (b0.map eTResource)), int b1] [(63, .yreg true true)] (int r) [(63, .yreg true true)] := by
 unfold w_markResourceS_k at h
 refine PCM.start Tryz.func52 Tryz.ntmps52 rfl ok52 rfl (by rfl) (by rfl) (by rfl) (by rfl) (by rfl) ?_
 refine Run.sr ?_
 refine X.an ?_
 refine Run.seq ?_
 refine Run.sr ?_
 refine X.an ?_
 obtain ⟨o1, ho1, h⟩ := bindE h
 refine R.join2 (β := Int) [] [(63, .yreg true true)] (fun p15 S => (1, int p15) :: S) (fun p15 M => M) (fun p15 => p15 = o1) ?_ ?_
 ·intro JJ4 hmeet3
  have hup2 := h; clear h; have h := ho1; clear ho1
  refine Run.block ?_
  refine R.bndY true 63 (t := 0) (by rfl) (fun hbd7 => ?_)
  replace hbd7 : b0.length ≤ 9223372036854775807 := by first | (rw [List.length_map] at hbd7; exact hbd7) | simp
  refine R.loop2 (β := Int × Int) [(0, .ysk 63 (.slice (b0.map eTResource)))] [(63, .yreg true true)] (fun bb S => (1, int bb.2) :: (5, int bb.1) :: S) (fun bb M => M) (fun n bb => 0 ≤ bb.1 ∧ bb.1 + n = (b0.length : Int) ∧ w_markResourceS_k_L1 (b0.drop bb.1.toNat) bb.1 bb.2 = some o1) b0.length (0, b1) (by repeat (first | trivial | refine ⟨by first | rfl | simp [setL], ?_⟩)) (by repeat (first | trivial | refine ⟨by first | rfl | simp [setL], ?_⟩)) (by rfl) (by rfl) ⟨Int.le_refl _, by simp, h⟩ ?_
  clear h
  rintro JJ7 n7 ⟨z8, a9⟩ hag7 ⟨hza7, hzb7, h⟩
  dsimp only at hza7 hzb7 h
  refine Run.seq ?_
  refine Run.sr ?_
  refine X.mv ?_
  refine X.mv ?_
  refine X.lenY true 63 elt34 (by rfl) (by exact List.length_map ..) (by rfl) ?_
  refine X.bi ?_
  refine X.nil ?_
  refine R.cd (fun hc12 => ?_) (fun hc12 => ?_)
  ·obtain ⟨x10, xs11, hd7, hx7, hds7, hlt7⟩ := drop_atI hza7 hc12
   rw [hd7] at h
   rw [w_markResourceS_k_L1] at h
   refine Run.skip ?_
   refine Run.seq ?_
   refine Run.block ?_
   refine Run.sr ?_
   refine X.mv ?_
   refine X.mv ?_
   refine X.indexY true 63 elt34 (by rfl) (by rfl) (idxL_spec hx7).1 (idxL_map eTResource hx7) (by rfl) (by rfl) ?_
   refine X.fieldY true 63 fld86_0 (by rfl) (by rfl) ?_
   refine X.loadY true 63 shp84 (by rfl) (by rfl) (by rfl) (by rfl) ?_
   refine X.mv ?_
   obtain ⟨v13, hv13, h⟩ := bindE h
   refine X.callM [(63, 63)] (w_markStepS_k_pc _ _ _ hv13) (by rfl) (by rfl) (.yskB 63 (by rfl) (by rfl) (.pureB (by rfl) (by repeat (first | trivial | refine ⟨by first | rfl | simp [setL], ?_⟩)) .nil)) (by rfl) ⟨rfl, rfl, ⟨_, by rfl, by constructor⟩, by constructor, trivial⟩ (by rfl) (by rfl) (by rfl) (by rfl) (by rfl) (by rfl) (by rfl) (by rfl) (by rfl) ?_
   refine X.an ?_
   refine Run.reg ?_
   refine X.mv ?_
   refine X.mv ?_
   refine X.indexY true 63 elt34 (by rfl) (by rfl) (idxL_spec hx7).1 (idxL_map eTResource hx7) (by rfl) (by rfl) ?_
   refine X.fieldY true 63 fld86_1 (by rfl) (by rfl) ?_
   refine X.loadY true 63 shp45 (by rfl) (by rfl) (by rfl) (by rfl) ?_
   refine X.mv ?_
   obtain ⟨v14, hv14, h⟩ := bindE h
   refine X.callM [(63, 63)] (w_markIntSS_k_pc _ _ _ hv14) (by rfl) (by rfl) (.yskB 63 (by rfl) (by rfl) (.pureB (by rfl) (by repeat (first | trivial | refine ⟨by first | rfl | simp [setL], ?_⟩)) .nil)) (by rfl) ⟨rfl, rfl, ⟨_, by rfl, by constructor⟩, by constructor, trivial⟩ (by rfl) (by rfl) (by rfl) (by rfl) (by rfl) (by rfl) (by rfl) (by rfl) (by rfl) ?_
   refine X.an ?_
   refine Run.blk ?_
   refine Run.reg ?_
   refine X.mv ?_
   refine X.add (by rfl) (by rfl) (by omega) (by rfl) ?_
   refine X.an ?_
   exact hag7 (n7 - 1) (z8 + 1, v14) _ _ (by omega) ⟨by first | omega | (dsimp only; omega), by first | omega | (dsimp only; omega), by first | (rw [hds7]; exact h) | (dsimp only; rw [hds7]; exact h)⟩ (by trivial) (by trivial) (by rfl) (by rfl)
  ·rw [drop_endI hza7 hc12] at h
   rw [w_markResourceS_k_L1] at h
   refine Run.exit (by rfl) ?_
   exact hmeet3 a9 _ _ (Option.some.inj h) (by trivial) (by trivial) (by rfl) (by rfl)
 rintro p15 rfl
 refine Run.sr ?_
 refine X.mv ?_
 refine X.an ?_
 cases h
 exact R.finM1 Tryz.results52 (by rfl) (by rfl) (by repeat (first | exact trivial | refine ⟨by rfl, ?_⟩)) rfl
theorem w_markProject_k_pc (b0 : TProject) (b1 : Int) (r : Int) (h : w_markProject_k b0 b1 = some r) : PCM Tryz.prog 14 [.agg [int b0.Deadline, .ysk 63 (.slice (b0.Activities.map eTActivity)), .ysk 63 (.slice (b0.Links.map eTLink)), .ysk 63 (.slice (b0.Resources.map eTResource)), .ysk 63 (.slice (b0.Stocks.map int))], int b1] [(63, .yreg true true)] (int r) [(63, .yreg true true)] := by
 unfold w_markProject_k at h
 refine PCM.start Tryz.func14 Tryz.ntmps14 rfl ok14 rfl (by rfl) (by rfl) (by rfl) (by rfl) (by rfl) ?_
 refine Run.sr ?_
 refine X.bx ?_
 refine X.an ?_
 refine Run.sr ?_
 refine X.fl fld36_1 ?_
 refine X.ld shp32 ?_
 refine X.mv ?_
 obtain ⟨v1, hv1, h⟩ := bindE h
 refine X.callM [(63, 63)] (w_markActivityS_k_pc _ _ _ hv1) (by rfl) (by rfl) (.yskB 63 (by rfl) (by rfl) (.pureB (by rfl) (by repeat (first | trivial | refine ⟨by first | rfl | simp [setL], ?_⟩)) .nil)) (by rfl) ⟨rfl, rfl, ⟨_, by rfl, by constructor⟩, by constructor, trivial⟩ (by rfl) (by rfl) (by rfl) (by rfl) (by rfl) (by rfl) (by rfl) (by rfl) (by rfl) ?_
 refine X.an ?_
 refine Run.sr ?_
 refine X.fl fld36_2 ?_
 refine X.ld shp33 ?_
 refine X.mv ?_
 obtain ⟨v2, hv2, h⟩ := bindE h
 refine X.callM [(63, 63)] (w_markLinkS_k_pc _ _ _ hv2) (by rfl) (by rfl) (.yskB 63 (by rfl) (by rfl) (.pureB (by rfl) (by repeat (first | trivial | refine ⟨by first | rfl | simp [setL], ?_⟩)) .nil)) (by rfl) ⟨rfl, rfl, ⟨_, by rfl, by constructor⟩, by constructor, trivial⟩ (by rfl) (by rfl) (by rfl) (by rfl) (by rfl) (by rfl) (by rfl) (by rfl) (by rfl) ?_
 refine X.an ?_
 refine Run.sr ?_
 refine X.fl fld36_3 ?_
 refine X.ld shp34 ?_
 refine X.mv ?_
 obtain ⟨v3, hv3, h⟩ := bindE h
 refine X.callM [(63, 63)] (w_markResourceS_k_pc _ _ _ hv3) (by rfl) (by rfl) (.yskB 63 (by rfl) (by rfl) (.pureB (by rfl) (by repeat (first | trivial | refine ⟨by first | rfl | simp [setL], ?_⟩)) .nil)) (by rfl) ⟨rfl, rfl, ⟨_, by rfl, by constructor⟩, by constructor, trivial⟩ (by rfl) (by rfl) (by rfl) (by rfl) (by rfl) (by rfl) (by rfl) (by rfl) (by rfl) ?_
 refine X.an ?_
 refine Run.sr ?_
 refine X.fl fld36_4 ?_
 refine X.ld shp25 ?_
 refine X.mv ?_
 obtain ⟨v4, hv4, h⟩ := bindE h
 refine X.callM [(63, 63)] (w_markIntS_k_pc _ _ _ hv4) (by rfl) (by rfl) (.yskB 63 (by rfl) (by rfl) (.pureB (by rfl) (by repeat (first | trivial | refine ⟨by first | rfl | simp [setL], ?_⟩)) .nil)) (by rfl) ⟨rfl, rfl, ⟨_, by rfl, by constructor⟩, by constructor, trivial⟩ (by rfl) (by rfl) (by rfl) (by rfl) (by rfl) (by rfl) (by rfl) (by rfl) (by rfl) ?_
 refine X.an ?_
 refine Run.sr ?_
 refine X.mv ?_
 refine X.an ?_
 cases h
 exact R.finM1 Tryz.results14 (by rfl) (by rfl) (by repeat (first | exact trivial | refine ⟨by rfl, ?_⟩)) rfl
end Go.Px.YtiinfmdopfkefaaGreat
