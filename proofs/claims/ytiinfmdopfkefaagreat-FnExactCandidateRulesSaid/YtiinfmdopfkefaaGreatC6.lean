/-
  PROVED: contracts of functions of the program over pure values. No condition beyond those that each theorem names.
-/
import Derived.Test.YtiinfmdopfkefaaGreatProg
import Derived.Test.YtiinfmdopfkefaaGreatD1
import Derived.Test.YtiinfmdopfkefaaGreatS
import Derived.Test.YtiinfmdopfkefaaGreatC2
import Derived.Test.YtiinfmdopfkefaaGreatC3
import Derived.Test.YtiinfmdopfkefaaGreatC4
namespace Go.Px.YtiinfmdopfkefaaGreat
set_option linter.unusedSimpArgs false
set_option linter.unusedVariables false
open Go.Px Go.Proofs
theorem elt151 : eltOf Tryz.prog 151 = some (5, 1, 1) := by kernel_rfl
theorem zer5 : zeroPV Tryz.prog 5 = some [.lit (.int .u8 0)] := by kernel_rfl
theorem ok94 : okFn Tryz.prog 94 = true := by kernel_rfl
theorem ok15 : okFn Tryz.prog 15 = true := by kernel_rfl
theorem ok95 : okFn Tryz.prog 95 = true := by kernel_rfl
theorem ok50 : okFn Tryz.prog 50 = true := by kernel_rfl
theorem ok51 : okFn Tryz.prog 51 = true := by kernel_rfl
theorem ok96 : okFn Tryz.prog 96 = true := by kernel_rfl
theorem ok63 : okFn Tryz.prog 63 = true := by kernel_rfl
theorem ok52 : okFn Tryz.prog 52 = true := by kernel_rfl
theorem ok14 : okFn Tryz.prog 14 = true := by kernel_rfl
theorem ok21 : okFn Tryz.prog 21 = true := by kernel_rfl
theorem ok23 : okFn Tryz.prog 23 = true := by kernel_rfl
theorem ok24 : okFn Tryz.prog 24 = true := by kernel_rfl
theorem ok25 : okFn Tryz.prog 25 = true := by kernel_rfl
theorem ok4 : okFn Tryz.prog 4 = true := by kernel_rfl
theorem w_markText_pc (b0 : Int) (r : ByteArray) (h : w_markText b0 = some r) : PC Tryz.prog 94 [int b0] (str r) := by
 unfold w_markText at h
 refine PC.start Tryz.func94 Tryz.ntmps94 rfl ok94 rfl ?_
 refine Run.sr ?_
 refine X.an ?_
 refine Run.seq ?_
 refine Run.sr ?_
 refine X.mv ?_
 refine X.bi ?_
 refine X.nil ?_
 refine R.cd (fun hc1 => ?_) (fun hc1 => ?_)
 ·replace h := condT hc1 h
  refine Run.sr ?_
  refine X.an ?_
  cases h
  refine R.f1 Tryz.results94 ?_
  rfl
 ·replace h := condF hc1 h
  refine Run.skip ?_
  refine Run.sr ?_
  refine X.an ?_
  refine Run.seq ?_
  obtain ⟨o2, ho2, h⟩ := bindE h
  refine R.join2 (β := ByteArray) [] [] (fun p13 S => (3, str p13) :: S) (fun p13 M => M) (fun p13 => p13 = o2) ?_ ?_
  ·intro JJ5 hmeet4
   have hup3 := h; clear h; have h := ho2; clear ho2
   refine Run.block ?_
   refine R.lp (β := Int × ByteArray) [] [] (fun bb S => (0, int bb.1) :: (3, str bb.2) :: S) (fun bb M => M) (fun n bb => w_markText_L1 n bb.1 bb.2 = some o2) F0 (b0, ByteArray.empty) h ?_
   clear h
   rintro JJ5 n5 ⟨a7, a8⟩ hag5 h
   dsimp only at h
   obtain _ | n5 := n5
   ·exact absurd h (by simp [w_markText_L1])
   rw [w_markText_L1] at h
   refine Run.seq ?_
   refine Run.sr ?_
   refine X.mv ?_
   refine X.bi ?_
   refine X.nil ?_
   refine R.cd (fun hc11 => ?_) (fun hc11 => ?_)
   ·replace h := condT hc11 h
    refine Run.skip ?_
    refine Run.block ?_
    refine Run.sr ?_
    refine X.mv ?_
    refine X.bi ?_
    refine X.addW (by rfl) (by rfl) (by rfl) ?_
    refine X.conv Tryz.underlying5 (by rw [Tryz.underlying3]; rfl) (by rfl) (by rfl) ?_
    refine X.buildSlice false elt151 zer5 (by rfl) (by rfl) (by rfl) (by rfl) (by rfl) (by rfl) (by repeat (first | trivial | refine ⟨by first | rfl | simp [setL], ?_⟩)) (allSz_spec (by rfl)) (by rfl) (by rfl) (by rfl) ?_
    refine X.convBS ([(IntKind.u8.wrap (W (48 + (a7.tmod 10))))] : List Int) Tryz.underlying151 Tryz.underlying5 Tryz.underlying9 (by rfl) (.own _ _ _ _ _ _ (look_mem (by rfl)) (by first | rfl | simp [setL] | omega)) (by rfl) (by rfl) (by rfl) ?_
    refine X.mv ?_
    obtain ⟨v12, hv12, h⟩ := bindE h
    refine X.cat2 hv12 (by rfl) (by rfl) (by rfl) ?_
    refine X.an ?_
    refine Run.reg ?_
    refine X.mv ?_
    refine X.bi ?_
    refine X.an ?_
    refine Run.blk ?_
    exact hag5 n5 ((W (a7.tdiv 10)), v12) _ _ (by omega) h (by repeat (first | trivial | refine ⟨by first | rfl | simp [setL], ?_⟩)) (by repeat (first | trivial | refine ⟨by first | rfl | simp [setL], ?_⟩)) (by rfl) (by rfl)
   ·replace h := condF hc11 h
    refine Run.exit (by rfl) ?_
    exact R.mt hmeet4 a8 (Option.some.inj h)
  rintro p13 rfl
  refine Run.sr ?_
  refine X.mv ?_
  obtain ⟨v14, hv14, h⟩ := bindE h
  refine X.cat2 hv14 (by rfl) (by rfl) (by rfl) ?_
  refine X.an ?_
  cases h
  refine R.f1 Tryz.results94 ?_
  rfl
theorem w_markIntS_k_pc (b0 : List Int) (b1 : Int) (r : Int) (h : w_markIntS_k b0 b1 = some r) : PCM Tryz.prog 15 [.ysk 63 (.slice (b0.map int)), int b1] [(63, .yreg true true)] (int r) [(63, .yreg true true)] := by
 unfold w_markIntS_k at h
 refine PCM.start Tryz.func15 Tryz.ntmps15 rfl ok15 rfl (by rfl) (by rfl) (by rfl) (by rfl) (by rfl) ?_
 refine Run.sr ?_
 refine X.an ?_
 refine Run.seq ?_
 refine Run.sr ?_
 refine X.an ?_
 obtain ⟨o1, ho1, h⟩ := bindE h
 refine R.join2 (β := Int) [] [(63, .yreg true true)] (fun p13 S => (1, int p13) :: S) (fun p13 M => M) (fun p13 => p13 = o1) ?_ ?_
 ·intro JJ4 hmeet3
  have hup2 := h; clear h; have h := ho1; clear ho1
  refine Run.block ?_
  refine R.bndY true 63 (t := 0) (by rfl) (fun hbd7 => ?_)
  replace hbd7 : b0.length ≤ 9223372036854775807 := by first | (rw [List.length_map] at hbd7; exact hbd7) | simp
  refine R.lp (β := Int × Int) [(0, .ysk 63 (.slice (b0.map int)))] [(63, .yreg true true)] (fun bb S => (1, int bb.2) :: (5, int bb.1) :: S) (fun bb M => M) (fun n bb => 0 ≤ bb.1 ∧ bb.1 + n = (b0.length : Int) ∧ w_markIntS_k_L1 (b0.drop bb.1.toNat) bb.1 bb.2 = some o1) b0.length (0, b1) ⟨Int.le_refl _, by simp, h⟩ ?_
  clear h
  rintro JJ7 n7 ⟨z8, a9⟩ hag7 ⟨hza7, hzb7, h⟩
  dsimp only at hza7 hzb7 h
  refine Run.seq ?_
  refine Run.sr ?_
  refine X.mv ?_
  refine X.mv ?_
  refine X.lenY true 63 elt25 (by rfl) (by exact List.length_map ..) (by rfl) ?_
  refine X.bi ?_
  refine X.nil ?_
  refine R.cd (fun hc12 => ?_) (fun hc12 => ?_)
  ·obtain ⟨x10, xs11, hd7, hx7, hds7, hlt7⟩ := drop_atI hza7 hc12
   rw [hd7] at h
   rw [w_markIntS_k_L1] at h
   refine Run.skip ?_
   refine Run.seq ?_
   refine Run.block ?_
   refine Run.sr ?_
   refine X.mv ?_
   refine X.mv ?_
   refine X.mv ?_
   refine X.indexY true 63 elt25 (by rfl) (by rfl) (idxL_spec hx7).1 (idxL_map int hx7) (by rfl) (by rfl) ?_
   refine X.storeY 63 shp3 (by rfl) (by rfl) (by rfl) (by rfl) (by rfl) (by rfl) (by rfl) ?_
   refine X.nil ?_
   refine Run.reg ?_
   refine X.mv ?_
   refine X.addW (by rfl) (by rfl) (by rfl) ?_
   refine X.an ?_
   refine Run.blk ?_
   refine Run.reg ?_
   refine X.mv ?_
   refine X.ad ?_
   refine X.an ?_
   exact R.ag hag7 (n7 - 1) (z8 + 1, (W (a9 + 1))) (R.n3 (by first | (rw [hds7]; exact h) | (dsimp only; rw [hds7]; exact h)))
  ·rw [drop_endI hza7 hc12] at h
   rw [w_markIntS_k_L1] at h
   refine Run.exit (by rfl) ?_
   exact R.mt hmeet3 a9 (Option.some.inj h)
 rintro p13 rfl
 refine Run.sr ?_
 refine X.mv ?_
 refine X.an ?_
 cases h
 exact R.finM1 Tryz.results15 (by rfl) (by rfl) (by repeat (first | exact trivial | refine ⟨by rfl, ?_⟩)) rfl
theorem w_markModeS_k_pc (b0 : List TMode) (b1 : Int) (r : Int) (h : w_markModeS_k b0 b1 = some r) : PCM Tryz.prog 95 [.ysk 63 (.slice (b0.map eTMode)), int b1] [(63, .yreg true true)] (int r) [(63, .yreg true true)] := by
 unfold w_markModeS_k at h
 refine PCM.start Tryz.func95 Tryz.ntmps95 rfl ok95 rfl (by rfl) (by rfl) (by rfl) (by rfl) (by rfl) ?_
 refine Run.sr ?_
 refine X.an ?_
 refine Run.seq ?_
 refine Run.sr ?_
 refine X.an ?_
 obtain ⟨o1, ho1, h⟩ := bindE h
 refine R.join2 (β := Int) [] [(63, .yreg true true)] (fun p15 S => (1, int p15) :: S) (fun p15 M => M) (fun p15 => p15 = o1) ?_ ?_
 ·intro JJ4 hmeet3
  have hup2 := h; clear h; have h := ho1; clear ho1
  refine Run.block ?_
  refine R.bndY true 63 (t := 0) (by rfl) (fun hbd7 => ?_)
  replace hbd7 : b0.length ≤ 9223372036854775807 := by first | (rw [List.length_map] at hbd7; exact hbd7) | simp
  refine R.lp (β := Int × Int) [(0, .ysk 63 (.slice (b0.map eTMode)))] [(63, .yreg true true)] (fun bb S => (1, int bb.2) :: (5, int bb.1) :: S) (fun bb M => M) (fun n bb => 0 ≤ bb.1 ∧ bb.1 + n = (b0.length : Int) ∧ w_markModeS_k_L1 (b0.drop bb.1.toNat) bb.1 bb.2 = some o1) b0.length (0, b1) ⟨Int.le_refl _, by simp, h⟩ ?_
  clear h
  rintro JJ7 n7 ⟨z8, a9⟩ hag7 ⟨hza7, hzb7, h⟩
  dsimp only at hza7 hzb7 h
  refine Run.seq ?_
  refine Run.sr ?_
  refine X.mv ?_
  refine X.mv ?_
  refine X.lenY true 63 elt106 (by rfl) (by exact List.length_map ..) (by rfl) ?_
  refine X.bi ?_
  refine X.nil ?_
  refine R.cd (fun hc12 => ?_) (fun hc12 => ?_)
  ·obtain ⟨x10, xs11, hd7, hx7, hds7, hlt7⟩ := drop_atI hza7 hc12
   rw [hd7] at h
   rw [w_markModeS_k_L1] at h
   refine Run.skip ?_
   refine Run.seq ?_
   refine Run.block ?_
   refine Run.sr ?_
   refine X.mv ?_
   refine X.mv ?_
   refine X.mv ?_
   refine X.indexY true 63 elt106 (by rfl) (by rfl) (idxL_spec hx7).1 (idxL_map eTMode hx7) (by rfl) (by rfl) ?_
   refine X.fieldY true 63 fld110_0 (by rfl) (by rfl) ?_
   refine X.storeY 63 shp3 (by rfl) (by rfl) (by rfl) (by rfl) (by rfl) (by rfl) (by rfl) ?_
   refine X.nil ?_
   refine Run.sr ?_
   refine X.mv ?_
   refine X.addW (by rfl) (by rfl) (by rfl) ?_
   refine X.an ?_
   refine Run.sr ?_
   refine X.mv ?_
   refine X.mv ?_
   refine X.indexY true 63 elt106 (by rfl) (by rfl) (idxL_spec hx7).1 (idxL_map eTMode hx7) (by rfl) (by rfl) ?_
   refine X.fieldY true 63 fld110_1 (by rfl) (by rfl) ?_
   refine X.loadY true 63 shp25 (by rfl) (by rfl) (by rfl) (by rfl) ?_
   refine X.mv ?_
   obtain ⟨v13, hv13, h⟩ := bindE h
   refine X.callM [(63, 63)] (w_markIntS_k_pc _ _ _ hv13) (by rfl) (by rfl) (.yskB 63 (by rfl) (by rfl) (.pureB (by rfl) (by repeat (first | trivial | refine ⟨by first | rfl | simp [setL], ?_⟩)) .nil)) (by rfl) ⟨rfl, rfl, ⟨_, by rfl, by constructor⟩, by constructor, trivial⟩ (by rfl) (by rfl) (by rfl) (by rfl) (by rfl) (by rfl) (by rfl) (by rfl) (by rfl) ?_
   refine X.an ?_
   refine Run.reg ?_
   refine X.mv ?_
   refine X.mv ?_
   refine X.indexY true 63 elt106 (by rfl) (by rfl) (idxL_spec hx7).1 (idxL_map eTMode hx7) (by rfl) (by rfl) ?_
   refine X.fieldY true 63 fld110_2 (by rfl) (by rfl) ?_
   refine X.loadY true 63 shp25 (by rfl) (by rfl) (by rfl) (by rfl) ?_
   refine X.mv ?_
   obtain ⟨v14, hv14, h⟩ := bindE h
   refine X.callM [(63, 63)] (w_markIntS_k_pc _ _ _ hv14) (by rfl) (by rfl) (.yskB 63 (by rfl) (by rfl) (.pureB (by rfl) (by repeat (first | trivial | refine ⟨by first | rfl | simp [setL], ?_⟩)) .nil)) (by rfl) ⟨rfl, rfl, ⟨_, by rfl, by constructor⟩, by constructor, trivial⟩ (by rfl) (by rfl) (by rfl) (by rfl) (by rfl) (by rfl) (by rfl) (by rfl) (by rfl) ?_
   refine X.an ?_
   refine Run.blk ?_
   refine Run.reg ?_
   refine X.mv ?_
   refine X.ad ?_
   refine X.an ?_
   exact R.ag hag7 (n7 - 1) (z8 + 1, v14) (R.n3 (by first | (rw [hds7]; exact h) | (dsimp only; rw [hds7]; exact h)))
  ·rw [drop_endI hza7 hc12] at h
   rw [w_markModeS_k_L1] at h
   refine Run.exit (by rfl) ?_
   exact R.mt hmeet3 a9 (Option.some.inj h)
 rintro p15 rfl
 refine Run.sr ?_
 refine X.mv ?_
 refine X.an ?_
 cases h
 exact R.finM1 Tryz.results95 (by rfl) (by rfl) (by repeat (first | exact trivial | refine ⟨by rfl, ?_⟩)) rfl
theorem w_markActivityS_k_pc (b0 : List TActivity) (b1 : Int) (r : Int) (h : w_markActivityS_k b0 b1 = some r) : PCM Tryz.prog 50 [.ysk 63 (.slice (b0.map eTActivity)), int b1] [(63, .yreg true true)] (int r) [(63, .yreg true true)] := by
 unfold w_markActivityS_k at h
 refine PCM.start Tryz.func50 Tryz.ntmps50 rfl ok50 rfl (by rfl) (by rfl) (by rfl) (by rfl) (by rfl) ?_
 refine Run.sr ?_
 refine X.an ?_
 refine Run.seq ?_
 refine Run.sr ?_
 refine X.an ?_
 obtain ⟨o1, ho1, h⟩ := bindE h
 refine R.join2 (β := Int) [] [(63, .yreg true true)] (fun p15 S => (1, int p15) :: S) (fun p15 M => M) (fun p15 => p15 = o1) ?_ ?_
 ·intro JJ4 hmeet3
  have hup2 := h; clear h; have h := ho1; clear ho1
  refine Run.block ?_
  refine R.bndY true 63 (t := 0) (by rfl) (fun hbd7 => ?_)
  replace hbd7 : b0.length ≤ 9223372036854775807 := by first | (rw [List.length_map] at hbd7; exact hbd7) | simp
  refine R.lp (β := Int × Int) [(0, .ysk 63 (.slice (b0.map eTActivity)))] [(63, .yreg true true)] (fun bb S => (1, int bb.2) :: (5, int bb.1) :: S) (fun bb M => M) (fun n bb => 0 ≤ bb.1 ∧ bb.1 + n = (b0.length : Int) ∧ w_markActivityS_k_L1 (b0.drop bb.1.toNat) bb.1 bb.2 = some o1) b0.length (0, b1) ⟨Int.le_refl _, by simp, h⟩ ?_
  clear h
  rintro JJ7 n7 ⟨z8, a9⟩ hag7 ⟨hza7, hzb7, h⟩
  dsimp only at hza7 hzb7 h
  refine Run.seq ?_
  refine Run.sr ?_
  refine X.mv ?_
  refine X.mv ?_
  refine X.lenY true 63 elt32 (by rfl) (by exact List.length_map ..) (by rfl) ?_
  refine X.bi ?_
  refine X.nil ?_
  refine R.cd (fun hc12 => ?_) (fun hc12 => ?_)
  ·obtain ⟨x10, xs11, hd7, hx7, hds7, hlt7⟩ := drop_atI hza7 hc12
   rw [hd7] at h
   rw [w_markActivityS_k_L1] at h
   refine Run.skip ?_
   refine Run.seq ?_
   refine Run.block ?_
   refine Run.sr ?_
   refine X.mv ?_
   refine X.mv ?_
   refine X.mv ?_
   obtain ⟨v13, hv13, h⟩ := bindE h
   refine X.cp (w_markText_pc _ _ hv13) ?_
   refine X.indexY true 63 elt32 (by rfl) (by rfl) (idxL_spec hx7).1 (idxL_map eTActivity hx7) (by rfl) (by rfl) ?_
   refine X.fieldY true 63 fld108_0 (by rfl) (by rfl) ?_
   refine X.storeY 63 shp9 (by rfl) (by rfl) (by rfl) (by rfl) (by rfl) (by rfl) (by rfl) ?_
   refine X.nil ?_
   refine Run.sr ?_
   refine X.mv ?_
   refine X.addW (by rfl) (by rfl) (by rfl) ?_
   refine X.an ?_
   refine Run.sr ?_
   refine X.mv ?_
   refine X.mv ?_
   refine X.mv ?_
   refine X.indexY true 63 elt32 (by rfl) (by rfl) (idxL_spec hx7).1 (idxL_map eTActivity hx7) (by rfl) (by rfl) ?_
   refine X.fieldY true 63 fld108_1 (by rfl) (by rfl) ?_
   refine X.storeY 63 shp3 (by rfl) (by rfl) (by rfl) (by rfl) (by rfl) (by rfl) (by rfl) ?_
   refine X.nil ?_
   refine Run.sr ?_
   refine X.mv ?_
   refine X.addW (by rfl) (by rfl) (by rfl) ?_
   refine X.an ?_
   refine Run.reg ?_
   refine X.mv ?_
   refine X.mv ?_
   refine X.indexY true 63 elt32 (by rfl) (by rfl) (idxL_spec hx7).1 (idxL_map eTActivity hx7) (by rfl) (by rfl) ?_
   refine X.fieldY true 63 fld108_2 (by rfl) (by rfl) ?_
   refine X.loadY true 63 shp106 (by rfl) (by rfl) (by rfl) (by rfl) ?_
   refine X.mv ?_
   obtain ⟨v14, hv14, h⟩ := bindE h
   refine X.callM [(63, 63)] (w_markModeS_k_pc _ _ _ hv14) (by rfl) (by rfl) (.yskB 63 (by rfl) (by rfl) (.pureB (by rfl) (by repeat (first | trivial | refine ⟨by first | rfl | simp [setL], ?_⟩)) .nil)) (by rfl) ⟨rfl, rfl, ⟨_, by rfl, by constructor⟩, by constructor, trivial⟩ (by rfl) (by rfl) (by rfl) (by rfl) (by rfl) (by rfl) (by rfl) (by rfl) (by rfl) ?_
   refine X.an ?_
   refine Run.blk ?_
   refine Run.reg ?_
   refine X.mv ?_
   refine X.ad ?_
   refine X.an ?_
   exact R.ag hag7 (n7 - 1) (z8 + 1, v14) (R.n3 (by first | (rw [hds7]; exact h) | (dsimp only; rw [hds7]; exact h)))
  ·rw [drop_endI hza7 hc12] at h
   rw [w_markActivityS_k_L1] at h
   refine Run.exit (by rfl) ?_
   exact R.mt hmeet3 a9 (Option.some.inj h)
 rintro p15 rfl
 refine Run.sr ?_
 refine X.mv ?_
 refine X.an ?_
 cases h
 exact R.finM1 Tryz.results50 (by rfl) (by rfl) (by repeat (first | exact trivial | refine ⟨by rfl, ?_⟩)) rfl
theorem w_markLinkS_k_pc (b0 : List TLink) (b1 : Int) (r : Int) (h : w_markLinkS_k b0 b1 = some r) : PCM Tryz.prog 51 [.ysk 63 (.slice (b0.map eTLink)), int b1] [(63, .yreg true true)] (int r) [(63, .yreg true true)] := by
 unfold w_markLinkS_k at h
 refine PCM.start Tryz.func51 Tryz.ntmps51 rfl ok51 rfl (by rfl) (by rfl) (by rfl) (by rfl) (by rfl) ?_
 refine Run.sr ?_
 refine X.an ?_
 refine Run.seq ?_
 refine Run.sr ?_
 refine X.an ?_
 obtain ⟨o1, ho1, h⟩ := bindE h
 refine R.join2 (β := Int) [] [(63, .yreg true true)] (fun p13 S => (1, int p13) :: S) (fun p13 M => M) (fun p13 => p13 = o1) ?_ ?_
 ·intro JJ4 hmeet3
  have hup2 := h; clear h; have h := ho1; clear ho1
  refine Run.block ?_
  refine R.bndY true 63 (t := 0) (by rfl) (fun hbd7 => ?_)
  replace hbd7 : b0.length ≤ 9223372036854775807 := by first | (rw [List.length_map] at hbd7; exact hbd7) | simp
  refine R.lp (β := Int × Int) [(0, .ysk 63 (.slice (b0.map eTLink)))] [(63, .yreg true true)] (fun bb S => (1, int bb.2) :: (5, int bb.1) :: S) (fun bb M => M) (fun n bb => 0 ≤ bb.1 ∧ bb.1 + n = (b0.length : Int) ∧ w_markLinkS_k_L1 (b0.drop bb.1.toNat) bb.1 bb.2 = some o1) b0.length (0, b1) ⟨Int.le_refl _, by simp, h⟩ ?_
  clear h
  rintro JJ7 n7 ⟨z8, a9⟩ hag7 ⟨hza7, hzb7, h⟩
  dsimp only at hza7 hzb7 h
  refine Run.seq ?_
  refine Run.sr ?_
  refine X.mv ?_
  refine X.mv ?_
  refine X.lenY true 63 elt33 (by rfl) (by exact List.length_map ..) (by rfl) ?_
  refine X.bi ?_
  refine X.nil ?_
  refine R.cd (fun hc12 => ?_) (fun hc12 => ?_)
  ·obtain ⟨x10, xs11, hd7, hx7, hds7, hlt7⟩ := drop_atI hza7 hc12
   rw [hd7] at h
   rw [w_markLinkS_k_L1] at h
   refine Run.skip ?_
   refine Run.seq ?_
   refine Run.block ?_
   refine Run.sr ?_
   refine X.mv ?_
   refine X.mv ?_
   refine X.mv ?_
   refine X.indexY true 63 elt33 (by rfl) (by rfl) (idxL_spec hx7).1 (idxL_map eTLink hx7) (by rfl) (by rfl) ?_
   refine X.fieldY true 63 fld68_0 (by rfl) (by rfl) ?_
   refine X.storeY 63 shp3 (by rfl) (by rfl) (by rfl) (by rfl) (by rfl) (by rfl) (by rfl) ?_
   refine X.nil ?_
   refine Run.sr ?_
   refine X.mv ?_
   refine X.addW (by rfl) (by rfl) (by rfl) ?_
   refine X.an ?_
   refine Run.sr ?_
   refine X.mv ?_
   refine X.mv ?_
   refine X.mv ?_
   refine X.indexY true 63 elt33 (by rfl) (by rfl) (idxL_spec hx7).1 (idxL_map eTLink hx7) (by rfl) (by rfl) ?_
   refine X.fieldY true 63 fld68_1 (by rfl) (by rfl) ?_
   refine X.storeY 63 shp3 (by rfl) (by rfl) (by rfl) (by rfl) (by rfl) (by rfl) (by rfl) ?_
   refine X.nil ?_
   refine Run.sr ?_
   refine X.mv ?_
   refine X.addW (by rfl) (by rfl) (by rfl) ?_
   refine X.an ?_
   refine Run.sr ?_
   refine X.mv ?_
   refine X.mv ?_
   refine X.mv ?_
   refine X.bi ?_
   refine X.bi ?_
   refine X.indexY true 63 elt33 (by rfl) (by rfl) (idxL_spec hx7).1 (idxL_map eTLink hx7) (by rfl) (by rfl) ?_
   refine X.fieldY true 63 fld68_2 (by rfl) (by rfl) ?_
   refine X.storeY 63 shp4 (by rfl) (by rfl) (by rfl) (by rfl) (by rfl) (by rfl) (by rfl) ?_
   refine X.nil ?_
   refine Run.sr ?_
   refine X.mv ?_
   refine X.addW (by rfl) (by rfl) (by rfl) ?_
   refine X.an ?_
   refine Run.sr ?_
   refine X.mv ?_
   refine X.mv ?_
   refine X.mv ?_
   refine X.indexY true 63 elt33 (by rfl) (by rfl) (idxL_spec hx7).1 (idxL_map eTLink hx7) (by rfl) (by rfl) ?_
   refine X.fieldY true 63 fld68_3 (by rfl) (by rfl) ?_
   refine X.storeY 63 shp3 (by rfl) (by rfl) (by rfl) (by rfl) (by rfl) (by rfl) (by rfl) ?_
   refine X.nil ?_
   refine Run.reg ?_
   refine X.mv ?_
   refine X.addW (by rfl) (by rfl) (by rfl) ?_
   refine X.an ?_
   refine Run.blk ?_
   refine Run.reg ?_
   refine X.mv ?_
   refine X.ad ?_
   refine X.an ?_
   exact R.ag hag7 (n7 - 1) (z8 + 1, (W ((W ((W ((W (a9 + 1)) + 1)) + 1)) + 1))) (R.n3 (by first | (rw [hds7]; exact h) | (dsimp only; rw [hds7]; exact h)))
  ·rw [drop_endI hza7 hc12] at h
   rw [w_markLinkS_k_L1] at h
   refine Run.exit (by rfl) ?_
   exact R.mt hmeet3 a9 (Option.some.inj h)
 rintro p13 rfl
 refine Run.sr ?_
 refine X.mv ?_
 refine X.an ?_
 cases h
 exact R.finM1 Tryz.results51 (by rfl) (by rfl) (by repeat (first | exact trivial | refine ⟨by rfl, ?_⟩)) rfl
theorem w_markStepS_k_pc (b0 : List TStep) (b1 : Int) (r : Int) (h : w_markStepS_k b0 b1 = some r) : PCM Tryz.prog 96 [.ysk 63 (.slice (b0.map eTStep)), int b1] [(63, .yreg true true)] (int r) [(63, .yreg true true)] := by
 unfold w_markStepS_k at h
 refine PCM.start Tryz.func96 Tryz.ntmps96 rfl ok96 rfl (by rfl) (by rfl) (by rfl) (by rfl) (by rfl) ?_
 refine Run.sr ?_
 refine X.an ?_
 refine Run.seq ?_
 refine Run.sr ?_
 refine X.an ?_
 obtain ⟨o1, ho1, h⟩ := bindE h
 refine R.join2 (β := Int) [] [(63, .yreg true true)] (fun p13 S => (1, int p13) :: S) (fun p13 M => M) (fun p13 => p13 = o1) ?_ ?_
 ·intro JJ4 hmeet3
  have hup2 := h; clear h; have h := ho1; clear ho1
  refine Run.block ?_
  refine R.bndY true 63 (t := 0) (by rfl) (fun hbd7 => ?_)
  replace hbd7 : b0.length ≤ 9223372036854775807 := by first | (rw [List.length_map] at hbd7; exact hbd7) | simp
  refine R.lp (β := Int × Int) [(0, .ysk 63 (.slice (b0.map eTStep)))] [(63, .yreg true true)] (fun bb S => (1, int bb.2) :: (5, int bb.1) :: S) (fun bb M => M) (fun n bb => 0 ≤ bb.1 ∧ bb.1 + n = (b0.length : Int) ∧ w_markStepS_k_L1 (b0.drop bb.1.toNat) bb.1 bb.2 = some o1) b0.length (0, b1) ⟨Int.le_refl _, by simp, h⟩ ?_
  clear h
  rintro JJ7 n7 ⟨z8, a9⟩ hag7 ⟨hza7, hzb7, h⟩
  dsimp only at hza7 hzb7 h
  refine Run.seq ?_
  refine Run.sr ?_
  refine X.mv ?_
  refine X.mv ?_
  refine X.lenY true 63 elt84 (by rfl) (by exact List.length_map ..) (by rfl) ?_
  refine X.bi ?_
  refine X.nil ?_
  refine R.cd (fun hc12 => ?_) (fun hc12 => ?_)
  ·obtain ⟨x10, xs11, hd7, hx7, hds7, hlt7⟩ := drop_atI hza7 hc12
   rw [hd7] at h
   rw [w_markStepS_k_L1] at h
   refine Run.skip ?_
   refine Run.seq ?_
   refine Run.block ?_
   refine Run.sr ?_
   refine X.mv ?_
   refine X.mv ?_
   refine X.mv ?_
   refine X.indexY true 63 elt84 (by rfl) (by rfl) (idxL_spec hx7).1 (idxL_map eTStep hx7) (by rfl) (by rfl) ?_
   refine X.fieldY true 63 fld88_0 (by rfl) (by rfl) ?_
   refine X.storeY 63 shp3 (by rfl) (by rfl) (by rfl) (by rfl) (by rfl) (by rfl) (by rfl) ?_
   refine X.nil ?_
   refine Run.sr ?_
   refine X.mv ?_
   refine X.addW (by rfl) (by rfl) (by rfl) ?_
   refine X.an ?_
   refine Run.sr ?_
   refine X.mv ?_
   refine X.mv ?_
   refine X.mv ?_
   refine X.indexY true 63 elt84 (by rfl) (by rfl) (idxL_spec hx7).1 (idxL_map eTStep hx7) (by rfl) (by rfl) ?_
   refine X.fieldY true 63 fld88_1 (by rfl) (by rfl) ?_
   refine X.storeY 63 shp3 (by rfl) (by rfl) (by rfl) (by rfl) (by rfl) (by rfl) (by rfl) ?_
   refine X.nil ?_
   refine Run.reg ?_
   refine X.mv ?_
   refine X.addW (by rfl) (by rfl) (by rfl) ?_
   refine X.an ?_
   refine Run.blk ?_
   refine Run.reg ?_
   refine X.mv ?_
   refine X.ad ?_
   refine X.an ?_
   exact R.ag hag7 (n7 - 1) (z8 + 1, (W ((W (a9 + 1)) + 1))) (R.n3 (by first | (rw [hds7]; exact h) | (dsimp only; rw [hds7]; exact h)))
  ·rw [drop_endI hza7 hc12] at h
   rw [w_markStepS_k_L1] at h
   refine Run.exit (by rfl) ?_
   exact R.mt hmeet3 a9 (Option.some.inj h)
 rintro p13 rfl
 refine Run.sr ?_
 refine X.mv ?_
 refine X.an ?_
 cases h
 exact R.finM1 Tryz.results96 (by rfl) (by rfl) (by repeat (first | exact trivial | refine ⟨by rfl, ?_⟩)) rfl
theorem w_markIntSS_k_pc (b0 : List (List Int)) (b1 : Int) (r : Int) (h : w_markIntSS_k b0 b1 = some r) : PCM Tryz.prog 63 [.ysk 63 (.slice (b0.map l_int)), int b1] [(63, .yreg true true)] (int r) [(63, .yreg true true)] := by
 unfold w_markIntSS_k at h
 refine PCM.start Tryz.func63 Tryz.ntmps63 rfl ok63 rfl (by rfl) (by rfl) (by rfl) (by rfl) (by rfl) ?_
 refine Run.sr ?_
 refine X.an ?_
 refine Run.seq ?_
 refine Run.sr ?_
 refine X.an ?_
 obtain ⟨o1, ho1, h⟩ := bindE h
 refine R.join2 (β := Int) [] [(63, .yreg true true)] (fun p14 S => (1, int p14) :: S) (fun p14 M => M) (fun p14 => p14 = o1) ?_ ?_
 ·intro JJ4 hmeet3
  have hup2 := h; clear h; have h := ho1; clear ho1
  refine Run.block ?_
  refine R.bndY true 63 (t := 0) (by rfl) (fun hbd7 => ?_)
  replace hbd7 : b0.length ≤ 9223372036854775807 := by first | (rw [List.length_map] at hbd7; exact hbd7) | simp
  refine R.lp (β := Int × Int) [(0, .ysk 63 (.slice (b0.map l_int)))] [(63, .yreg true true)] (fun bb S => (1, int bb.2) :: (5, int bb.1) :: S) (fun bb M => M) (fun n bb => 0 ≤ bb.1 ∧ bb.1 + n = (b0.length : Int) ∧ w_markIntSS_k_L1 (b0.drop bb.1.toNat) bb.1 bb.2 = some o1) b0.length (0, b1) ⟨Int.le_refl _, by simp, h⟩ ?_
  clear h
  rintro JJ7 n7 ⟨z8, a9⟩ hag7 ⟨hza7, hzb7, h⟩
  dsimp only at hza7 hzb7 h
  refine Run.seq ?_
  refine Run.sr ?_
  refine X.mv ?_
  refine X.mv ?_
  refine X.lenY true 63 elt45 (by rfl) (by exact List.length_map ..) (by rfl) ?_
  refine X.bi ?_
  refine X.nil ?_
  refine R.cd (fun hc12 => ?_) (fun hc12 => ?_)
  ·obtain ⟨x10, xs11, hd7, hx7, hds7, hlt7⟩ := drop_atI hza7 hc12
   rw [hd7] at h
   rw [w_markIntSS_k_L1] at h
   refine Run.skip ?_
   refine Run.seq ?_
   refine Run.block ?_
   refine Run.reg ?_
   refine X.mv ?_
   refine X.mv ?_
   refine X.indexY true 63 elt45 (by rfl) (by rfl) (idxL_spec hx7).1 (idxL_map l_int hx7) (by rfl) (by rfl) ?_
   refine X.loadY true 63 shp25 (by rfl) (by rfl) (by rfl) (by rfl) ?_
   refine X.mv ?_
   obtain ⟨v13, hv13, h⟩ := bindE h
   refine X.callM [(63, 63)] (w_markIntS_k_pc _ _ _ hv13) (by rfl) (by rfl) (.yskB 63 (by rfl) (by rfl) (.pureB (by rfl) (by repeat (first | trivial | refine ⟨by first | rfl | simp [setL], ?_⟩)) .nil)) (by rfl) ⟨rfl, rfl, ⟨_, by rfl, by constructor⟩, by constructor, trivial⟩ (by rfl) (by rfl) (by rfl) (by rfl) (by rfl) (by rfl) (by rfl) (by rfl) (by rfl) ?_
   refine X.an ?_
   refine Run.blk ?_
   refine Run.reg ?_
   refine X.mv ?_
   refine X.ad ?_
   refine X.an ?_
   exact R.ag hag7 (n7 - 1) (z8 + 1, v13) (R.n3 (by first | (rw [hds7]; exact h) | (dsimp only; rw [hds7]; exact h)))
  ·rw [drop_endI hza7 hc12] at h
   rw [w_markIntSS_k_L1] at h
   refine Run.exit (by rfl) ?_
   exact R.mt hmeet3 a9 (Option.some.inj h)
 rintro p14 rfl
 refine Run.sr ?_
 refine X.mv ?_
 refine X.an ?_
 cases h
 exact R.finM1 Tryz.results63 (by rfl) (by rfl) (by repeat (first | exact trivial | refine ⟨by rfl, ?_⟩)) rfl
theorem w_markResourceS_k_pc (b0 : List TResource) (b1 : Int) (r : Int) (h : w_markResourceS_k b0 b1 = some r) : PCM Tryz.prog 52 [.ysk 63 (.slice (b0.map eTResource)), int b1] [(63, .yreg true true)] (int r) [(63, .yreg true true)] := by
 unfold w_markResourceS_k at h
 refine PCM.start Tryz.func52 Tryz.ntmps52 rfl ok52 rfl (by rfl) (by rfl) (by rfl) (by rfl) (by rfl) ?_
 refine Run.sr ?_
 refine X.an ?_
 refine Run.seq ?_
 refine Run.sr ?_
 refine X.an ?_
 obtain ⟨o1, ho1, h⟩ := bindE h
 refine R.join2 (β := Int) [] [(63, .yreg true true)] (fun p15 S => (1, int p15) :: S) (fun p15 M => M) (fun p15 => p15 = o1) ?_ ?_
 ·intro JJ4 hmeet3
  have hup2 := h; clear h; have h := ho1; clear ho1
  refine Run.block ?_
  refine R.bndY true 63 (t := 0) (by rfl) (fun hbd7 => ?_)
  replace hbd7 : b0.length ≤ 9223372036854775807 := by first | (rw [List.length_map] at hbd7; exact hbd7) | simp
  refine R.lp (β := Int × Int) [(0, .ysk 63 (.slice (b0.map eTResource)))] [(63, .yreg true true)] (fun bb S => (1, int bb.2) :: (5, int bb.1) :: S) (fun bb M => M) (fun n bb => 0 ≤ bb.1 ∧ bb.1 + n = (b0.length : Int) ∧ w_markResourceS_k_L1 (b0.drop bb.1.toNat) bb.1 bb.2 = some o1) b0.length (0, b1) ⟨Int.le_refl _, by simp, h⟩ ?_
  clear h
  rintro JJ7 n7 ⟨z8, a9⟩ hag7 ⟨hza7, hzb7, h⟩
  dsimp only at hza7 hzb7 h
  refine Run.seq ?_
  refine Run.sr ?_
  refine X.mv ?_
  refine X.mv ?_
  refine X.lenY true 63 elt34 (by rfl) (by exact List.length_map ..) (by rfl) ?_
  refine X.bi ?_
  refine X.nil ?_
  refine R.cd (fun hc12 => ?_) (fun hc12 => ?_)
  ·obtain ⟨x10, xs11, hd7, hx7, hds7, hlt7⟩ := drop_atI hza7 hc12
   rw [hd7] at h
   rw [w_markResourceS_k_L1] at h
   refine Run.skip ?_
   refine Run.seq ?_
   refine Run.block ?_
   refine Run.sr ?_
   refine X.mv ?_
   refine X.mv ?_
   refine X.indexY true 63 elt34 (by rfl) (by rfl) (idxL_spec hx7).1 (idxL_map eTResource hx7) (by rfl) (by rfl) ?_
   refine X.fieldY true 63 fld86_0 (by rfl) (by rfl) ?_
   refine X.loadY true 63 shp84 (by rfl) (by rfl) (by rfl) (by rfl) ?_
   refine X.mv ?_
   obtain ⟨v13, hv13, h⟩ := bindE h
   refine X.callM [(63, 63)] (w_markStepS_k_pc _ _ _ hv13) (by rfl) (by rfl) (.yskB 63 (by rfl) (by rfl) (.pureB (by rfl) (by repeat (first | trivial | refine ⟨by first | rfl | simp [setL], ?_⟩)) .nil)) (by rfl) ⟨rfl, rfl, ⟨_, by rfl, by constructor⟩, by constructor, trivial⟩ (by rfl) (by rfl) (by rfl) (by rfl) (by rfl) (by rfl) (by rfl) (by rfl) (by rfl) ?_
   refine X.an ?_
   refine Run.reg ?_
   refine X.mv ?_
   refine X.mv ?_
   refine X.indexY true 63 elt34 (by rfl) (by rfl) (idxL_spec hx7).1 (idxL_map eTResource hx7) (by rfl) (by rfl) ?_
   refine X.fieldY true 63 fld86_1 (by rfl) (by rfl) ?_
   refine X.loadY true 63 shp45 (by rfl) (by rfl) (by rfl) (by rfl) ?_
   refine X.mv ?_
   obtain ⟨v14, hv14, h⟩ := bindE h
   refine X.callM [(63, 63)] (w_markIntSS_k_pc _ _ _ hv14) (by rfl) (by rfl) (.yskB 63 (by rfl) (by rfl) (.pureB (by rfl) (by repeat (first | trivial | refine ⟨by first | rfl | simp [setL], ?_⟩)) .nil)) (by rfl) ⟨rfl, rfl, ⟨_, by rfl, by constructor⟩, by constructor, trivial⟩ (by rfl) (by rfl) (by rfl) (by rfl) (by rfl) (by rfl) (by rfl) (by rfl) (by rfl) ?_
   refine X.an ?_
   refine Run.blk ?_
   refine Run.reg ?_
   refine X.mv ?_
   refine X.ad ?_
   refine X.an ?_
   exact R.ag hag7 (n7 - 1) (z8 + 1, v14) (R.n3 (by first | (rw [hds7]; exact h) | (dsimp only; rw [hds7]; exact h)))
  ·rw [drop_endI hza7 hc12] at h
   rw [w_markResourceS_k_L1] at h
   refine Run.exit (by rfl) ?_
   exact R.mt hmeet3 a9 (Option.some.inj h)
 rintro p15 rfl
 refine Run.sr ?_
 refine X.mv ?_
 refine X.an ?_
 cases h
 exact R.finM1 Tryz.results52 (by rfl) (by rfl) (by repeat (first | exact trivial | refine ⟨by rfl, ?_⟩)) rfl
theorem w_markProject_k_pc (b0 : TProject) (b1 : Int) (r : Int) (h : w_markProject_k b0 b1 = some r) : PCM Tryz.prog 14 [.agg [int b0.Deadline, .ysk 63 (.slice (b0.Activities.map eTActivity)), .ysk 63 (.slice (b0.Links.map eTLink)), .ysk 63 (.slice (b0.Resources.map eTResource)), .ysk 63 (.slice (b0.Stocks.map int))], int b1] [(63, .yreg true true)] (int r) [(63, .yreg true true)] := by
 unfold w_markProject_k at h
 refine PCM.start Tryz.func14 Tryz.ntmps14 rfl ok14 rfl (by rfl) (by rfl) (by rfl) (by rfl) (by rfl) ?_
 refine Run.sr ?_
 refine X.bx ?_
 refine X.an ?_
 refine Run.sr ?_
 refine X.fl fld36_1 ?_
 refine X.ld shp32 ?_
 refine X.mv ?_
 obtain ⟨v1, hv1, h⟩ := bindE h
 refine X.callM [(63, 63)] (w_markActivityS_k_pc _ _ _ hv1) (by rfl) (by rfl) (.yskB 63 (by rfl) (by rfl) (.pureB (by rfl) (by repeat (first | trivial | refine ⟨by first | rfl | simp [setL], ?_⟩)) .nil)) (by rfl) ⟨rfl, rfl, ⟨_, by rfl, by constructor⟩, by constructor, trivial⟩ (by rfl) (by rfl) (by rfl) (by rfl) (by rfl) (by rfl) (by rfl) (by rfl) (by rfl) ?_
 refine X.an ?_
 refine Run.sr ?_
 refine X.fl fld36_2 ?_
 refine X.ld shp33 ?_
 refine X.mv ?_
 obtain ⟨v2, hv2, h⟩ := bindE h
 refine X.callM [(63, 63)] (w_markLinkS_k_pc _ _ _ hv2) (by rfl) (by rfl) (.yskB 63 (by rfl) (by rfl) (.pureB (by rfl) (by repeat (first | trivial | refine ⟨by first | rfl | simp [setL], ?_⟩)) .nil)) (by rfl) ⟨rfl, rfl, ⟨_, by rfl, by constructor⟩, by constructor, trivial⟩ (by rfl) (by rfl) (by rfl) (by rfl) (by rfl) (by rfl) (by rfl) (by rfl) (by rfl) ?_
 refine X.an ?_
 refine Run.sr ?_
 refine X.fl fld36_3 ?_
 refine X.ld shp34 ?_
 refine X.mv ?_
 obtain ⟨v3, hv3, h⟩ := bindE h
 refine X.callM [(63, 63)] (w_markResourceS_k_pc _ _ _ hv3) (by rfl) (by rfl) (.yskB 63 (by rfl) (by rfl) (.pureB (by rfl) (by repeat (first | trivial | refine ⟨by first | rfl | simp [setL], ?_⟩)) .nil)) (by rfl) ⟨rfl, rfl, ⟨_, by rfl, by constructor⟩, by constructor, trivial⟩ (by rfl) (by rfl) (by rfl) (by rfl) (by rfl) (by rfl) (by rfl) (by rfl) (by rfl) ?_
 refine X.an ?_
 refine Run.sr ?_
 refine X.fl fld36_4 ?_
 refine X.ld shp25 ?_
 refine X.mv ?_
 obtain ⟨v4, hv4, h⟩ := bindE h
 refine X.callM [(63, 63)] (w_markIntS_k_pc _ _ _ hv4) (by rfl) (by rfl) (.yskB 63 (by rfl) (by rfl) (.pureB (by rfl) (by repeat (first | trivial | refine ⟨by first | rfl | simp [setL], ?_⟩)) .nil)) (by rfl) ⟨rfl, rfl, ⟨_, by rfl, by constructor⟩, by constructor, trivial⟩ (by rfl) (by rfl) (by rfl) (by rfl) (by rfl) (by rfl) (by rfl) (by rfl) (by rfl) ?_
 refine X.an ?_
 refine Run.sr ?_
 refine X.mv ?_
 refine X.an ?_
 cases h
 exact R.finM1 Tryz.results14 (by rfl) (by rfl) (by repeat (first | exact trivial | refine ⟨by rfl, ?_⟩)) rfl
theorem w_eqRuleS_pc (b0 : List TRule) (b1 : List TRule) (r : Bool) (h : w_eqRuleS b0 b1 = some r) : PC Tryz.prog 21 [.slice (b0.map eTRule), .slice (b1.map eTRule)] (bool r) := by
 unfold w_eqRuleS at h
 refine PC.start Tryz.func21 Tryz.ntmps21 rfl ok21 rfl ?_
 refine Run.sr ?_
 refine X.an ?_
 refine Run.seq ?_
 refine Run.sr ?_
 refine X.mv ?_
 refine X.ls elt49 ?_
 refine X.mv ?_
 refine X.ls elt49 ?_
 refine X.bi ?_
 refine X.nil ?_
 refine R.cd (fun hc1 => ?_) (fun hc1 => ?_)
 ·replace h := condT hc1 h
  refine Run.sr ?_
  refine X.an ?_
  cases h
  refine R.f1 Tryz.results21 ?_
  rfl
 ·replace h := condF hc1 h
  refine Run.skip ?_
  refine Run.seq ?_
  refine Run.sr ?_
  refine X.an ?_
  obtain ⟨o2, ho2, h⟩ := bindE h
  refine R.join2 (β := Unit) [] [] (fun p16 S => S) (fun p16 M => M) (fun p16 => (Sum.inl p16) = o2) ?_ ?_
  ·intro JJ5 hmeet4
   have hup3 := h; clear h; have h := ho2; clear ho2
   refine Run.block ?_
   refine R.bndS (t := 0) (by rfl) (fun hbd8 => ?_)
   replace hbd8 : b0.length ≤ 9223372036854775807 := by first | (rw [List.length_map] at hbd8; exact hbd8) | simp
   refine R.lp (β := Int) [(0, .slice (b0.map eTRule)), (1, .slice (b1.map eTRule))] [] (fun bb S => (5, int bb) :: S) (fun bb M => M) (fun n bb => 0 ≤ bb ∧ bb + n = (b0.length : Int) ∧ w_eqRuleS_L1 b1 (b0.drop bb.toNat) bb = some o2) b0.length (0 : Int) ⟨Int.le_refl _, by simp, h⟩ ?_
   clear h
   rintro JJ8 n8 z9 hag8 ⟨hza8, hzb8, h⟩
   refine Run.seq ?_
   refine Run.sr ?_
   refine X.mv ?_
   refine X.mv ?_
   refine X.ls elt49 ?_
   refine X.bi ?_
   refine X.nil ?_
   refine R.cd (fun hc12 => ?_) (fun hc12 => ?_)
   ·obtain ⟨x10, xs11, hd8, hx8, hds8, hlt8⟩ := drop_atI hza8 hc12
    rw [hd8] at h
    rw [w_eqRuleS_L1] at h
    refine Run.skip ?_
    refine Run.seq ?_
    refine Run.block ?_
    refine Run.seq ?_
    refine Run.draw (footOf []) mixed (by kernel_rfl) (by kernel_rfl) ?_
    refine X.mv ?_
    refine X.mv ?_
    refine X.ix elt49 (idxL_spec hx8).1 (idxL_map eTRule hx8) ?_
    refine X.lc shp38 ?_
    refine X.mv ?_
    refine X.mv ?_
    obtain ⟨v13, hv13, h⟩ := bindE h
    refine X.ix elt49 (idxL_spec hv13).1 (idxL_map eTRule hv13) ?_
    refine X.lc shp38 ?_
    obtain ⟨v14, hv14, h⟩ := bindE h
    refine X.cp (w_eqRule_pc _ _ _ hv14) ?_
    refine X.un (by rfl) (by rfl) (by rfl) ?_
    refine X.nil ?_
    refine R.cd (fun hc15 => ?_) (fun hc15 => ?_)
    ·replace h := condT hc15 h
     refine Run.sr ?_
     refine X.an ?_
     cases h
     have h := hup3
     replace h := elimR h
     cases h
     refine R.f1 Tryz.results21 ?_
     rfl
    ·replace h := condF hc15 h
     refine Run.skip ?_
     refine Run.blk ?_
     refine Run.reg ?_
     refine X.mv ?_
     refine X.ad ?_
     refine X.an ?_
     exact R.ag hag8 (n8 - 1) (z9 + 1) (R.n3 (by first | (rw [hds8]; exact h) | (dsimp only; rw [hds8]; exact h)))
   ·rw [drop_endI hza8 hc12] at h
    rw [w_eqRuleS_L1] at h
    refine Run.exit (by rfl) ?_
    exact R.mt hmeet4 () (Option.some.inj h)
  rintro p16 rfl
  replace h := elimL h
  refine Run.sr ?_
  refine X.an ?_
  cases h
  refine R.f1 Tryz.results21 ?_
  rfl
theorem w_markDomain_k_pc (b0 : TDomain) (b1 : Int) (r : Int) (h : w_markDomain_k b0 b1 = some r) : PCM Tryz.prog 23 [.agg [.ysk 63 (.slice (b0.MinStart.map int)), .ysk 63 (.slice (b0.MaxStart.map int)), .ysk 63 (.slice (b0.Modes.map l_int))], int b1] [(63, .yreg true true)] (int r) [(63, .yreg true true)] := by
 unfold w_markDomain_k at h
 refine PCM.start Tryz.func23 Tryz.ntmps23 rfl ok23 rfl (by rfl) (by rfl) (by rfl) (by rfl) (by rfl) ?_
 refine Run.sr ?_
 refine X.bx ?_
 refine X.an ?_
 refine Run.sr ?_
 refine X.fl fld51_0 ?_
 refine X.ld shp25 ?_
 refine X.mv ?_
 obtain ⟨v1, hv1, h⟩ := bindE h
 refine X.callM [(63, 63)] (w_markIntS_k_pc _ _ _ hv1) (by rfl) (by rfl) (.yskB 63 (by rfl) (by rfl) (.pureB (by rfl) (by repeat (first | trivial | refine ⟨by first | rfl | simp [setL], ?_⟩)) .nil)) (by rfl) ⟨rfl, rfl, ⟨_, by rfl, by constructor⟩, by constructor, trivial⟩ (by rfl) (by rfl) (by rfl) (by rfl) (by rfl) (by rfl) (by rfl) (by rfl) (by rfl) ?_
 refine X.an ?_
 refine Run.sr ?_
 refine X.fl fld51_1 ?_
 refine X.ld shp25 ?_
 refine X.mv ?_
 obtain ⟨v2, hv2, h⟩ := bindE h
 refine X.callM [(63, 63)] (w_markIntS_k_pc _ _ _ hv2) (by rfl) (by rfl) (.yskB 63 (by rfl) (by rfl) (.pureB (by rfl) (by repeat (first | trivial | refine ⟨by first | rfl | simp [setL], ?_⟩)) .nil)) (by rfl) ⟨rfl, rfl, ⟨_, by rfl, by constructor⟩, by constructor, trivial⟩ (by rfl) (by rfl) (by rfl) (by rfl) (by rfl) (by rfl) (by rfl) (by rfl) (by rfl) ?_
 refine X.an ?_
 refine Run.sr ?_
 refine X.fl fld51_2 ?_
 refine X.ld shp45 ?_
 refine X.mv ?_
 obtain ⟨v3, hv3, h⟩ := bindE h
 refine X.callM [(63, 63)] (w_markIntSS_k_pc _ _ _ hv3) (by rfl) (by rfl) (.yskB 63 (by rfl) (by rfl) (.pureB (by rfl) (by repeat (first | trivial | refine ⟨by first | rfl | simp [setL], ?_⟩)) .nil)) (by rfl) ⟨rfl, rfl, ⟨_, by rfl, by constructor⟩, by constructor, trivial⟩ (by rfl) (by rfl) (by rfl) (by rfl) (by rfl) (by rfl) (by rfl) (by rfl) (by rfl) ?_
 refine X.an ?_
 refine Run.sr ?_
 refine X.mv ?_
 refine X.an ?_
 cases h
 exact R.finM1 Tryz.results23 (by rfl) (by rfl) (by repeat (first | exact trivial | refine ⟨by rfl, ?_⟩)) rfl
theorem w_markRuleS_pc (b0 : List TRule) (b1 : Int) (r : Int × (List TRule)) (h : w_markRuleS b0 b1 = some r) : PCM Tryz.prog 24 [.own 63 (b0.map eTRule).length, int b1] [(63, .obj true 38 4 (b0.map eTRule))] (int r.1) [(63, .obj true 38 4 (r.2.map eTRule))] := by
 unfold w_markRuleS at h
 refine PCM.start Tryz.func24 Tryz.ntmps24 rfl ok24 rfl (by rfl) (by rfl) (by rfl) (by rfl) (by rfl) ?_
 refine Run.sr ?_
 refine X.an ?_
 refine Run.seq ?_
 refine Run.sr ?_
 refine X.an ?_
 obtain ⟨o1, ho1, h⟩ := bindE h
 refine R.join2 (β := Int × (List TRule)) [] [] (fun p17 S => (1, int p17.1) :: S) (fun p17 M => (63, .obj true 38 4 (p17.2.map eTRule)) :: M) (fun p17 => p17 = o1) ?_ ?_
 ·intro JJ4 hmeet3
  have hup2 := h; clear h; have h := ho1; clear ho1
  refine Run.block ?_
  refine R.lp (β := Int × Int × (List TRule)) [] [] (fun bb S => (0, .own 63 (bb.2.2.map eTRule).length) :: (1, int bb.1) :: (5, int bb.2.1) :: S) (fun bb M => (63, .obj true 38 4 (bb.2.2.map eTRule)) :: M) (fun n bb => w_markRuleS_L1 n bb.1 bb.2.1 bb.2.2 = some o1) F0 (b1, 0, b0) h ?_
  clear h
  rintro JJ5 n5 ⟨a7, a8, a9⟩ hag5 h
  dsimp only at h
  obtain _ | n5 := n5
  ·exact absurd h (by simp [w_markRuleS_L1])
  rw [w_markRuleS_L1] at h
  refine Run.seq ?_
  refine Run.sr ?_
  refine X.mv ?_
  refine X.mv ?_
  refine X.len_o elt49 (by rfl) (by rfl) (by first | rfl | simp [setL] | omega) (by first | exact List.length_map .. | rfl) (by rfl) (by rfl) ?_
  refine X.bi ?_
  refine X.nil ?_
  refine R.cd (fun hc12 => ?_) (fun hc12 => ?_)
  ·replace h := condT hc12 h
   refine Run.skip ?_
   refine Run.seq ?_
   refine Run.block ?_
   refine Run.sr ?_
   refine X.mv ?_
   refine X.mv ?_
   refine X.mv ?_
   obtain ⟨v13, hv13, h⟩ := bindE h
   refine X.index_xs elt49 (by rfl) (by rfl) (by first | rfl | simp [setL] | omega) (by rfl) (by exact (Int.toNat_of_nonneg (idxL_spec hv13).1).symm) (by have := idxL_lt hv13; simpa using this) (by rfl) (by rfl) ?_
   refine X.fieldAddr_es fld38_0 (by rfl) (by rfl) (by first | rfl | simp [setL] | omega) (by rfl) (by rfl) ?_
   refine X.store_es shp3 (by rfl) (by rfl) (by first | rfl | simp [setL] | omega) (idxL_map _ hv13) (by rfl) (by rfl) (by repeat (first | trivial | refine ⟨by first | rfl | simp [setL], ?_⟩)) (by rfl) (by rfl) (by rfl) (by rfl) (by exact setL_map _ _ _ (TRule.mk a7 v13.A v13.B v13.C)) ?_
   refine X.nil ?_
   refine Run.sr ?_
   refine X.mv ?_
   refine X.addW (by rfl) (by rfl) (by rfl) ?_
   refine X.an ?_
   refine Run.sr ?_
   refine X.mv ?_
   refine X.mv ?_
   refine X.mv ?_
   obtain ⟨v14, hv14, h⟩ := bindE h
   refine X.index_xs elt49 (by rfl) (by rfl) (by first | rfl | simp [setL] | omega) (by rfl) (by exact (Int.toNat_of_nonneg (idxL_spec hv14).1).symm) (by have := idxL_lt hv14; simpa using this) (by rfl) (by rfl) ?_
   refine X.fieldAddr_es fld38_1 (by rfl) (by rfl) (by first | rfl | simp [setL] | omega) (by rfl) (by rfl) ?_
   refine X.store_es shp3 (by rfl) (by rfl) (by first | rfl | simp [setL] | omega) (idxL_map _ hv14) (by rfl) (by rfl) (by repeat (first | trivial | refine ⟨by first | rfl | simp [setL], ?_⟩)) (by rfl) (by rfl) (by rfl) (by rfl) (by exact setL_map _ _ _ (TRule.mk v14.Kind (W (a7 + 1)) v14.B v14.C)) ?_
   refine X.nil ?_
   refine Run.sr ?_
   refine X.mv ?_
   refine X.addW (by rfl) (by rfl) (by rfl) ?_
   refine X.an ?_
   refine Run.sr ?_
   refine X.mv ?_
   refine X.mv ?_
   refine X.mv ?_
   obtain ⟨v15, hv15, h⟩ := bindE h
   refine X.index_xs elt49 (by rfl) (by rfl) (by first | rfl | simp [setL] | omega) (by rfl) (by exact (Int.toNat_of_nonneg (idxL_spec hv15).1).symm) (by have := idxL_lt hv15; simpa using this) (by rfl) (by rfl) ?_
   refine X.fieldAddr_es fld38_2 (by rfl) (by rfl) (by first | rfl | simp [setL] | omega) (by rfl) (by rfl) ?_
   refine X.store_es shp3 (by rfl) (by rfl) (by first | rfl | simp [setL] | omega) (idxL_map _ hv15) (by rfl) (by rfl) (by repeat (first | trivial | refine ⟨by first | rfl | simp [setL], ?_⟩)) (by rfl) (by rfl) (by rfl) (by rfl) (by exact setL_map _ _ _ (TRule.mk v15.Kind v15.A (W ((W (a7 + 1)) + 1)) v15.C)) ?_
   refine X.nil ?_
   refine Run.sr ?_
   refine X.mv ?_
   refine X.addW (by rfl) (by rfl) (by rfl) ?_
   refine X.an ?_
   refine Run.sr ?_
   refine X.mv ?_
   refine X.mv ?_
   refine X.mv ?_
   obtain ⟨v16, hv16, h⟩ := bindE h
   refine X.index_xs elt49 (by rfl) (by rfl) (by first | rfl | simp [setL] | omega) (by rfl) (by exact (Int.toNat_of_nonneg (idxL_spec hv16).1).symm) (by have := idxL_lt hv16; simpa using this) (by rfl) (by rfl) ?_
   refine X.fieldAddr_es fld38_3 (by rfl) (by rfl) (by first | rfl | simp [setL] | omega) (by rfl) (by rfl) ?_
   refine X.store_es shp3 (by rfl) (by rfl) (by first | rfl | simp [setL] | omega) (idxL_map _ hv16) (by rfl) (by rfl) (by repeat (first | trivial | refine ⟨by first | rfl | simp [setL], ?_⟩)) (by rfl) (by rfl) (by rfl) (by rfl) (by exact setL_map _ _ _ (TRule.mk v16.Kind v16.A v16.B (W ((W ((W (a7 + 1)) + 1)) + 1)))) ?_
   refine X.nil ?_
   refine Run.reg ?_
   refine X.mv ?_
   refine X.addW (by rfl) (by rfl) (by rfl) ?_
   refine X.an ?_
   refine Run.blk ?_
   refine Run.reg ?_
   refine X.mv ?_
   refine X.addW (by rfl) (by rfl) (by rfl) ?_
   refine X.an ?_
   refine R.castS (t := 0) (.own 63 ((setL (setL (setL (setL a9 a8 (TRule.mk a7 v13.A v13.B v13.C)) a8 (TRule.mk v14.Kind (W (a7 + 1)) v14.B v14.C)) a8 (TRule.mk v15.Kind v15.A (W ((W (a7 + 1)) + 1)) v15.C)) a8 (TRule.mk v16.Kind v16.A v16.B (W ((W ((W (a7 + 1)) + 1)) + 1)))).map eTRule).length) (by rfl) (.inl (by first | rfl | simp [setL])) ?_
   exact hag5 n5 ((W ((W ((W ((W (a7 + 1)) + 1)) + 1)) + 1)), (W (a8 + 1)), (setL (setL (setL (setL a9 a8 (TRule.mk a7 v13.A v13.B v13.C)) a8 (TRule.mk v14.Kind (W (a7 + 1)) v14.B v14.C)) a8 (TRule.mk v15.Kind v15.A (W ((W (a7 + 1)) + 1)) v15.C)) a8 (TRule.mk v16.Kind v16.A v16.B (W ((W ((W (a7 + 1)) + 1)) + 1))))) _ _ (by omega) h (by repeat (first | trivial | refine ⟨by first | rfl | simp [setL], ?_⟩)) (by repeat (first | trivial | refine ⟨by first | rfl | simp [setL], ?_⟩)) (by rfl) (by rfl)
  ·replace h := condF hc12 h
   refine Run.exit (by rfl) ?_
   exact R.mt hmeet3 (a7, a9) (Option.some.inj h)
 rintro p17 rfl
 refine Run.sr ?_
 refine X.mv ?_
 refine X.an ?_
 cases h
 exact R.finM1 Tryz.results24 (by rfl) (by rfl) (by repeat (first | exact trivial | refine ⟨by rfl, ?_⟩)) rfl
theorem w_heldRuleS_pc (b0 : List TRule) (b1 : Int) (r : Int) (h : w_heldRuleS b0 b1 = some r) : PC Tryz.prog 25 [.slice (b0.map eTRule), int b1] (int r) := by
 unfold w_heldRuleS at h
 refine PC.start Tryz.func25 Tryz.ntmps25 rfl ok25 rfl ?_
 refine Run.sr ?_
 refine X.an ?_
 refine Run.seq ?_
 refine Run.sr ?_
 refine X.an ?_
 obtain ⟨o1, ho1, h⟩ := bindE h
 refine R.join2 (β := Int) [] [] (fun p17 S => (1, int p17) :: S) (fun p17 M => M) (fun p17 => (Sum.inl p17) = o1) ?_ ?_
 ·intro JJ4 hmeet3
  have hup2 := h; clear h; have h := ho1; clear ho1
  refine Run.block ?_
  refine R.bndS (t := 0) (by rfl) (fun hbd7 => ?_)
  replace hbd7 : b0.length ≤ 9223372036854775807 := by first | (rw [List.length_map] at hbd7; exact hbd7) | simp
  refine R.lp (β := Int × Int) [(0, .slice (b0.map eTRule))] [] (fun bb S => (1, int bb.2) :: (5, int bb.1) :: S) (fun bb M => M) (fun n bb => 0 ≤ bb.1 ∧ bb.1 + n = (b0.length : Int) ∧ w_heldRuleS_L1 (b0.drop bb.1.toNat) bb.1 bb.2 = some o1) b0.length (0, b1) ⟨Int.le_refl _, by simp, h⟩ ?_
  clear h
  rintro JJ7 n7 ⟨z8, a9⟩ hag7 ⟨hza7, hzb7, h⟩
  dsimp only at hza7 hzb7 h
  refine Run.seq ?_
  refine Run.sr ?_
  refine X.mv ?_
  refine X.mv ?_
  refine X.ls elt49 ?_
  refine X.bi ?_
  refine X.nil ?_
  refine R.cd (fun hc12 => ?_) (fun hc12 => ?_)
  ·obtain ⟨x10, xs11, hd7, hx7, hds7, hlt7⟩ := drop_atI hza7 hc12
   rw [hd7] at h
   rw [w_heldRuleS_L1] at h
   refine Run.skip ?_
   refine Run.seq ?_
   refine Run.block ?_
   refine Run.seq ?_
   refine Run.sr ?_
   refine X.mv ?_
   refine X.mv ?_
   refine X.ix elt49 (idxL_spec hx7).1 (idxL_map eTRule hx7) ?_
   refine X.fieldAddr_c fld38_0 (by rfl) (by rfl) ?_
   refine X.lc shp3 ?_
   refine X.mv ?_
   refine X.bi ?_
   refine X.nil ?_
   refine R.cd (fun hc13 => ?_) (fun hc13 => ?_)
   ·replace h := condT hc13 h
    refine Run.sr ?_
    refine X.an ?_
    cases h
    have h := hup2
    replace h := elimR h
    cases h
    refine R.f1 Tryz.results25 ?_
    rfl
   ·replace h := condF hc13 h
    refine Run.skip ?_
    refine Run.sr ?_
    refine X.mv ?_
    refine X.addW (by rfl) (by rfl) (by rfl) ?_
    refine X.an ?_
    refine Run.seq ?_
    refine Run.sr ?_
    refine X.mv ?_
    refine X.mv ?_
    refine X.ix elt49 (idxL_spec hx7).1 (idxL_map eTRule hx7) ?_
    refine X.fieldAddr_c fld38_1 (by rfl) (by rfl) ?_
    refine X.lc shp3 ?_
    refine X.mv ?_
    refine X.bi ?_
    refine X.nil ?_
    refine R.cd (fun hc14 => ?_) (fun hc14 => ?_)
    ·replace h := condT hc14 h
     refine Run.sr ?_
     refine X.an ?_
     cases h
     have h := hup2
     replace h := elimR h
     cases h
     refine R.f1 Tryz.results25 ?_
     rfl
    ·replace h := condF hc14 h
     refine Run.skip ?_
     refine Run.sr ?_
     refine X.mv ?_
     refine X.addW (by rfl) (by rfl) (by rfl) ?_
     refine X.an ?_
     refine Run.seq ?_
     refine Run.sr ?_
     refine X.mv ?_
     refine X.mv ?_
     refine X.ix elt49 (idxL_spec hx7).1 (idxL_map eTRule hx7) ?_
     refine X.fieldAddr_c fld38_2 (by rfl) (by rfl) ?_
     refine X.lc shp3 ?_
     refine X.mv ?_
     refine X.bi ?_
     refine X.nil ?_
     refine R.cd (fun hc15 => ?_) (fun hc15 => ?_)
     ·replace h := condT hc15 h
      refine Run.sr ?_
      refine X.an ?_
      cases h
      have h := hup2
      replace h := elimR h
      cases h
      refine R.f1 Tryz.results25 ?_
      rfl
     ·replace h := condF hc15 h
      refine Run.skip ?_
      refine Run.sr ?_
      refine X.mv ?_
      refine X.addW (by rfl) (by rfl) (by rfl) ?_
      refine X.an ?_
      refine Run.seq ?_
      refine Run.sr ?_
      refine X.mv ?_
      refine X.mv ?_
      refine X.ix elt49 (idxL_spec hx7).1 (idxL_map eTRule hx7) ?_
      refine X.fieldAddr_c fld38_3 (by rfl) (by rfl) ?_
      refine X.lc shp3 ?_
      refine X.mv ?_
      refine X.bi ?_
      refine X.nil ?_
      refine R.cd (fun hc16 => ?_) (fun hc16 => ?_)
      ·replace h := condT hc16 h
       refine Run.sr ?_
       refine X.an ?_
       cases h
       have h := hup2
       replace h := elimR h
       cases h
       refine R.f1 Tryz.results25 ?_
       rfl
      ·replace h := condF hc16 h
       refine Run.skip ?_
       refine Run.reg ?_
       refine X.mv ?_
       refine X.addW (by rfl) (by rfl) (by rfl) ?_
       refine X.an ?_
       refine Run.blk ?_
       refine Run.reg ?_
       refine X.mv ?_
       refine X.ad ?_
       refine X.an ?_
       exact R.ag hag7 (n7 - 1) (z8 + 1, (W ((W ((W ((W (a9 + 1)) + 1)) + 1)) + 1))) (R.n3 (by first | (rw [hds7]; exact h) | (dsimp only; rw [hds7]; exact h)))
  ·rw [drop_endI hza7 hc12] at h
   rw [w_heldRuleS_L1] at h
   refine Run.exit (by rfl) ?_
   exact R.mt hmeet3 a9 (Option.some.inj h)
 rintro p17 rfl
 replace h := elimL h
 refine Run.sr ?_
 refine X.mv ?_
 refine X.an ?_
 cases h
 refine R.f1 Tryz.results25 ?_
 rfl
theorem w_FnExactCandidateRules_pc (b0 : TProject) (b1 : TDomain) (r : Bool) (h : w_FnExactCandidateRules b0 b1 = some r) : PC Tryz.prog 4 [eTProject b0, eTDomain b1] (bool r) := by
 unfold w_FnExactCandidateRules at h
 refine PC.start Tryz.func4 Tryz.ntmps4 rfl ok4 rfl ?_
 refine Run.sr ?_
 refine X.bx ?_
 refine X.bx ?_
 refine X.an ?_
 refine Run.sr ?_
 refine X.an ?_
 refine Run.sr ?_
 refine X.ld shp27 ?_
 refine X.mv ?_
 obtain ⟨v1, hv1, h⟩ := bindE h
 refine X.cp (w_szProject_pc _ _ _ hv1) ?_
 refine X.an ?_
 refine Run.seq ?_
 refine Run.sr ?_
 refine X.mv ?_
 refine X.bi ?_
 refine X.nil ?_
 refine R.cd (fun hc2 => ?_) (fun hc2 => ?_)
 ·replace h := condT hc2 h
  refine Run.sr ?_
  refine X.an ?_
  cases h
  refine R.f1 Tryz.results4 ?_
  rfl
 ·replace h := condF hc2 h
  refine Run.skip ?_
  refine Run.sr ?_
  refine X.ld shp47 ?_
  refine X.mv ?_
  obtain ⟨v3, hv3, h⟩ := bindE h
  refine X.cp (w_szDomain_pc _ _ _ hv3) ?_
  refine X.an ?_
  refine Run.seq ?_
  refine Run.sr ?_
  refine X.mv ?_
  refine X.bi ?_
  refine X.nil ?_
  refine R.cd (fun hc4 => ?_) (fun hc4 => ?_)
  ·replace h := condT hc4 h
   refine Run.sr ?_
   refine X.an ?_
   cases h
   refine R.f1 Tryz.results4 ?_
   rfl
  ·replace h := condF hc4 h
   refine Run.skip ?_
   refine Run.seq ?_
   refine Run.draw (footOf [(0, ([128], [], [], [])), (1, ([], [1600, 1601, 1602, 1603], [], [])), (2, ([192], [], [], [])), (3, ([], [1728, 1729, 1730], [], [])), (4, ([1600, 1601, 1602, 1603, 1728, 1729, 1730], [1792], [], []))]) mixed (by kernel_rfl) (by kernel_rfl) ?_
   refine X.ld shp27 ?_
   obtain ⟨v5, hv5, h⟩ := bindE h
   refine X.callA (PC.ofY (ps := [eTProject b0]) (w_toProject_pc _ _ hv5) (by rfl) (by rfl)) (by rfl) (by rfl) (by rfl) (by trivial) (by rfl) (by rfl) (by rfl) (by rfl) (by rfl) (by rfl) ?_
   refine X.ld shp47 ?_
   obtain ⟨v6, hv6, h⟩ := bindE h
   refine X.callA (PC.ofY (ps := [eTDomain b1]) (w_toDomain_pc _ _ hv6) (by rfl) (by rfl)) (by rfl) (by rfl) (by rfl) (by trivial) (by rfl) (by rfl) (by rfl) (by rfl) (by rfl) (by rfl) ?_
   obtain ⟨v7, hv7, h⟩ := bindE h
   refine X.callF (s_CandidateRules_pc _ _ _ hv7) (by rfl) (by rfl) (by rfl) (by repeat (first | trivial | refine ⟨by first | rfl | simp [setL], ?_⟩)) (by rfl) (by rfl) (by rfl) (by rfl) ?_
   refine X.an ?_
   refine Run.sr ?_
   refine X.ld shp27 ?_
   obtain ⟨v8, hv8, h⟩ := bindE h
   refine X.callY (w_toProject_pc _ _ hv8) (by rfl) (by rfl) (by rfl) (by trivial) (by rfl) (by rfl) (by rfl) (by rfl) (by rfl) (by rfl) (by rfl) ?_
   refine X.alloc zer36 (by rfl) (by rfl) (by rfl) ?_
   refine X.sl shp36 ?_
   refine X.nil ?_
   refine Run.sr ?_
   refine X.ld shp47 ?_
   obtain ⟨v9, hv9, h⟩ := bindE h
   refine X.callY (w_toDomain_pc _ _ hv9) (by rfl) (by rfl) (by rfl) (by trivial) (by rfl) (by rfl) (by rfl) (by rfl) (by rfl) (by rfl) (by rfl) ?_
   refine X.alloc zer51 (by rfl) (by rfl) (by rfl) ?_
   refine X.sl shp51 ?_
   refine X.nil ?_
   refine Run.sr ?_
   refine X.ld shp36 ?_
   refine X.ld shp51 ?_
   obtain ⟨v10, hv10, h⟩ := bindE h
   refine X.callM [(6527, 1920), (12863, 2048)] (PC.lend (M0 := [(6527, .yreg false false), (12863, .yreg false false)]) (i_CandidateRules_pc _ _ _ hv10) (FlatR.freshM (fun _ => (by repeat (first | exact trivial | refine ⟨trivial, ?_⟩)))) (by rfl) (.agg _ _ _ _ (.same _ _ _ (by rfl) (.yng 6527 _ _ _ _ (by rfl) (.yng 6527 _ _ _ _ (by rfl) (.yng 6527 _ _ _ _ (by rfl) (.yng 6527 _ _ _ _ (by rfl) .nil))))) (.agg _ _ _ _ (.yng 12863 _ _ _ _ (by rfl) (.yng 12863 _ _ _ _ (by rfl) (.yng 12863 _ _ _ _ (by rfl) .nil))) .nil))) (by rfl) (by rfl) (.agg _ _ _ _ _ _ (.pureB (by rfl) (by repeat (first | trivial | refine ⟨by first | rfl | simp [setL], ?_⟩)) (.yngB 6527 (by rfl) (by rfl) (.yngB 6527 (by rfl) (by rfl) (.yngB 6527 (by rfl) (by rfl) (.yngB 6527 (by rfl) (by rfl) .nil))))) (.agg _ _ _ _ _ _ (.yngB 12863 (by rfl) (by rfl) (.yngB 12863 (by rfl) (by rfl) (.yngB 12863 (by rfl) (by rfl) .nil))) .nil)) (by rfl) ⟨rfl, rfl, ⟨_, by rfl, by constructor⟩, by constructor, ⟨rfl, rfl, ⟨_, by rfl, by constructor⟩, by constructor, trivial⟩⟩ (by rfl) (by rfl) (by rfl) (by rfl) (by rfl) (by rfl) (by rfl) (by rfl) (by rfl) ?_
   refine X.an ?_
   refine Run.seq ?_
   refine Run.sr ?_
   refine X.mv ?_
   refine X.mv ?_
   obtain ⟨v11, hv11, h⟩ := bindE h
   refine X.callM [(63, 2240)] (PC.lend (M0 := [(63, .obj true 38 4 (v10.map eTRule))]) (w_eqRuleS_pc _ _ _ hv11) (.lit _) (by rfl) (.own 63 _ _ _ _ _ _ _ (by rfl) (by first | rfl | simp [setL] | omega) (.same _ _ _ (by rfl) .nil))) (by rfl) (by rfl) (.ownB 63 (by rfl) (by first | rfl | simp [setL] | omega) (by rfl) (.pureB (by rfl) (by repeat (first | trivial | refine ⟨by first | rfl | simp [setL], ?_⟩)) .nil)) (by rfl) ⟨rfl, rfl, ⟨_, by rfl, by constructor⟩, by constructor, trivial⟩ (by rfl) (by rfl) (by rfl) (by rfl) (by rfl) (by rfl) (by rfl) (by rfl) (by rfl) ?_
   refine X.un (by rfl) (by rfl) (by rfl) ?_
   refine X.nil ?_
   refine R.cd (fun hc12 => ?_) (fun hc12 => ?_)
   ·replace h := condT hc12 h
    refine Run.sr ?_
    refine X.an ?_
    cases h
    refine R.f1 Tryz.results4 ?_
    rfl
   ·replace h := condF hc12 h
    refine Run.skip ?_
    refine Run.seq ?_
    refine Run.seq ?_
    refine Run.draw (footOf [(0, ([448], [], [], [])), (1, ([128], [], [], [])), (2, ([], [2688, 2689, 2690, 2691], [], [])), (3, ([1920, 2688, 2689, 2690, 2691], [1920], [], []))]) mixed (by kernel_rfl) (by kernel_rfl) ?_
    refine X.ld shp36 ?_
    refine X.ld shp27 ?_
    obtain ⟨v13, hv13, h⟩ := bindE h
    refine X.callA (PC.ofY (ps := [eTProject b0]) (w_toProject_pc _ _ hv13) (by rfl) (by rfl)) (by rfl) (by rfl) (by rfl) (by trivial) (by rfl) (by rfl) (by rfl) (by rfl) (by rfl) (by rfl) ?_
    obtain ⟨v14, hv14, h⟩ := bindE h
    refine X.callM [(6527, 1920)] (PC.lend (M0 := [(6527, .yreg false false)]) (w_eqProject_pc _ _ _ hv14) (.lit _) (by rfl) (.agg _ _ _ _ (.same _ _ _ (by rfl) (.yng 6527 _ _ _ _ (by rfl) (.yng 6527 _ _ _ _ (by rfl) (.yng 6527 _ _ _ _ (by rfl) (.yng 6527 _ _ _ _ (by rfl) .nil))))) (.agg _ _ _ _ (.same _ _ _ (by rfl) (.same _ _ _ (by rfl) (.same _ _ _ (by rfl) (.same _ _ _ (by rfl) (.same _ _ _ (by rfl) .nil))))) .nil))) (by rfl) (by rfl) (.agg _ _ _ _ _ _ (.pureB (by rfl) (by repeat (first | trivial | refine ⟨by first | rfl | simp [setL], ?_⟩)) (.yngB 6527 (by rfl) (by rfl) (.yngB 6527 (by rfl) (by rfl) (.yngB 6527 (by rfl) (by rfl) (.yngB 6527 (by rfl) (by rfl) .nil))))) (.pureB (by rfl) (by repeat (first | trivial | refine ⟨by first | rfl | simp [setL], ?_⟩)) .nil)) (by rfl) ⟨rfl, rfl, ⟨_, by rfl, by constructor⟩, by constructor, trivial⟩ (by rfl) (by rfl) (by rfl) (by rfl) (by rfl) (by rfl) (by rfl) (by rfl) (by rfl) ?_
    refine X.un (by rfl) (by rfl) (by rfl) ?_
    refine X.nil ?_
    refine R.cd (fun hc15 => ?_) (fun hc15 => ?_)
    ·replace h := condT hc15 h
     refine Run.sr ?_
     refine X.an ?_
     cases h
     refine R.f1 Tryz.results4 ?_
     rfl
    ·replace h := condF hc15 h
     refine Run.skip ?_
     refine Run.seq ?_
     refine Run.seq ?_
     refine Run.draw (footOf [(0, ([512], [], [], [])), (1, ([192], [], [], [])), (2, ([], [3008, 3009, 3010], [], [])), (3, ([2048, 3008, 3009, 3010], [2048], [], []))]) mixed (by kernel_rfl) (by kernel_rfl) ?_
     refine X.ld shp51 ?_
     refine X.ld shp47 ?_
     obtain ⟨v16, hv16, h⟩ := bindE h
     refine X.callA (PC.ofY (ps := [eTDomain b1]) (w_toDomain_pc _ _ hv16) (by rfl) (by rfl)) (by rfl) (by rfl) (by rfl) (by trivial) (by rfl) (by rfl) (by rfl) (by rfl) (by rfl) (by rfl) ?_
     obtain ⟨v17, hv17, h⟩ := bindE h
     refine X.callM [(6463, 2048)] (PC.lend (M0 := [(6463, .yreg false false)]) (w_eqDomain_pc _ _ _ hv17) (.lit _) (by rfl) (.agg _ _ _ _ (.yng 6463 _ _ _ _ (by rfl) (.yng 6463 _ _ _ _ (by rfl) (.yng 6463 _ _ _ _ (by rfl) .nil))) (.agg _ _ _ _ (.same _ _ _ (by rfl) (.same _ _ _ (by rfl) (.same _ _ _ (by rfl) .nil))) .nil))) (by rfl) (by rfl) (.agg _ _ _ _ _ _ (.yngB 6463 (by rfl) (by rfl) (.yngB 6463 (by rfl) (by rfl) (.yngB 6463 (by rfl) (by rfl) .nil))) (.pureB (by rfl) (by repeat (first | trivial | refine ⟨by first | rfl | simp [setL], ?_⟩)) .nil)) (by rfl) ⟨rfl, rfl, ⟨_, by rfl, by constructor⟩, by constructor, trivial⟩ (by rfl) (by rfl) (by rfl) (by rfl) (by rfl) (by rfl) (by rfl) (by rfl) (by rfl) ?_
     refine X.un (by rfl) (by rfl) (by rfl) ?_
     refine X.nil ?_
     refine R.cd (fun hc18 => ?_) (fun hc18 => ?_)
     ·replace h := condT hc18 h
      refine Run.sr ?_
      refine X.an ?_
      cases h
      refine R.f1 Tryz.results4 ?_
      rfl
     ·replace h := condF hc18 h
      refine Run.skip ?_
      refine Run.sr ?_
      refine X.an ?_
      refine Run.seq ?_
      refine R.demote 1920 (by rfl) (by rfl) (by rfl) (by rfl) (by rfl) (by rfl) ?_
      refine Run.reg ?_
      refine X.ld shp36 ?_
      refine X.mv ?_
      obtain ⟨v19, hv19, h⟩ := bindE h
      refine X.callM [(63, 1920)] (w_markProject_k_pc _ _ _ hv19) (by rfl) (by rfl) (.agg _ _ _ _ _ _ (.pureB (by rfl) (by repeat (first | trivial | refine ⟨by first | rfl | simp [setL], ?_⟩)) (.yskB 63 (by rfl) (by rfl) (.yskB 63 (by rfl) (by rfl) (.yskB 63 (by rfl) (by rfl) (.yskB 63 (by rfl) (by rfl) .nil))))) (.pureB (by rfl) (by repeat (first | trivial | refine ⟨by first | rfl | simp [setL], ?_⟩)) .nil)) (by rfl) ⟨rfl, rfl, ⟨_, by rfl, by constructor⟩, by constructor, trivial⟩ (by rfl) (by rfl) (by rfl) (by rfl) (by rfl) (by rfl) (by rfl) (by rfl) (by rfl) ?_
      refine X.an ?_
      refine Run.seq ?_
      refine R.demote 2048 (by rfl) (by rfl) (by rfl) (by rfl) (by rfl) (by rfl) ?_
      refine Run.reg ?_
      refine X.ld shp51 ?_
      refine X.mv ?_
      obtain ⟨v20, hv20, h⟩ := bindE h
      refine X.callM [(63, 2048)] (w_markDomain_k_pc _ _ _ hv20) (by rfl) (by rfl) (.agg _ _ _ _ _ _ (.yskB 63 (by rfl) (by rfl) (.yskB 63 (by rfl) (by rfl) (.yskB 63 (by rfl) (by rfl) .nil))) (.pureB (by rfl) (by repeat (first | trivial | refine ⟨by first | rfl | simp [setL], ?_⟩)) .nil)) (by rfl) ⟨rfl, rfl, ⟨_, by rfl, by constructor⟩, by constructor, trivial⟩ (by rfl) (by rfl) (by rfl) (by rfl) (by rfl) (by rfl) (by rfl) (by rfl) (by rfl) ?_
      refine X.an ?_
      refine Run.seq ?_
      refine Run.seq ?_
      obtain ⟨e21, he21, h2⟩ := bindE h
      refine R.regG [(2, .lptr 128 0), (3, .lptr 192 0), (6, .own 1792 (v7.map eTRule).length), (9, .own 2240 (v10.map eTRule).length), (63, bool e21)] [(128, .blk true [int b0.Deadline, .slice (b0.Activities.map eTActivity), .slice (b0.Links.map eTLink), .slice (b0.Resources.map eTResource), .slice (b0.Stocks.map int)]), (192, .blk true [.slice (b1.MinStart.map int), .slice (b1.MaxStart.map int), .slice (b1.Modes.map l_int)]), (1792, .obj false 38 4 (v7.map eTRule)), (2240, .obj true 38 4 (v10.map eTRule))] ?_ ?_
      ·clear h; have h := he21; clear he21 h2
       refine X.mv ?_
       refine X.bi ?_
       refine X.mv ?_
       refine X.iG (fun hb22 => ?_) (fun hb22 => ?_)
       ·replace h := condF hb22 h
        refine X.mv ?_
        refine X.gy ?_
        refine X.mv ?_
        refine X.gy ?_
        obtain ⟨v23, hv23, h⟩ := bindE h
        refine X.callM [(63, 2240)] (PC.lend (M0 := [(63, .obj true 38 4 (v10.map eTRule))]) (w_eqRuleS_pc _ _ _ hv23) (.lit _) (by rfl) (.own 63 _ _ _ _ _ _ _ (by rfl) (by first | rfl | simp [setL] | omega) (.same _ _ _ (by rfl) .nil))) (by rfl) (by rfl) (.ownB 63 (by rfl) (by first | rfl | simp [setL] | omega) (by rfl) (.pureB (by rfl) (by repeat (first | trivial | refine ⟨by first | rfl | simp [setL], ?_⟩)) .nil)) (by rfl) ⟨rfl, rfl, ⟨_, by rfl, by constructor⟩, by constructor, trivial⟩ (by rfl) (by rfl) (by rfl) (by rfl) (by rfl) (by rfl) (by rfl) (by rfl) (by rfl) ?_
        refine X.gy ?_
        refine X.un (by rfl) (by rfl) (by rfl) ?_
        refine X.pF ?_
        cases h
        exact X.eG
       ·replace h := condT hb22 h
        refine X.gn ?_
        refine X.gn ?_
        refine X.gn ?_
        refine X.pT ?_
        cases h
        exact X.eG
      replace h := h2; clear h2
      refine R.cd (fun hc24 => ?_) (fun hc24 => ?_)
      ·replace h := condT hc24 h
       refine Run.sr ?_
       refine X.an ?_
       cases h
       refine R.f1 Tryz.results4 ?_
       rfl
      ·replace h := condF hc24 h
       refine Run.skip ?_
       refine Run.sr ?_
       refine X.an ?_
       refine Run.sr ?_
       refine X.mv ?_
       refine X.mv ?_
       obtain ⟨v25, hv25, h⟩ := bindE h
       refine X.callR [(63, 2240)] [(2240, (v10.map eTRule).length)] [(2240, (v25.2.map eTRule).length)] (w_markRuleS_pc _ _ _ hv25) (by rfl) (by rfl) (.ownB 63 (by rfl) (by first | rfl | simp [setL] | omega) (by rfl) (.pureB (by rfl) (by repeat (first | trivial | refine ⟨by first | rfl | simp [setL], ?_⟩)) .nil)) (by rfl) ⟨rfl, rfl, ⟨_, by rfl, by constructor⟩, by constructor, trivial⟩ (by rfl) (by rfl) (by rfl) (by rfl) ⟨rfl, ⟨_, _, _, _, by rfl, by rfl⟩, ⟨_, _, _, _, by rfl, by rfl⟩, trivial⟩ (by rfl) (by repeat (first | trivial | refine ⟨by first | rfl | simp [setL], ?_⟩)) (by rfl) (by rfl) (by rfl) (by rfl) (by rfl) ?_
       refine X.an ?_
       refine Run.sr ?_
       refine X.an ?_
       refine Run.sr ?_
       refine X.mv ?_
       refine X.mv ?_
       obtain ⟨v26, hv26, h⟩ := bindE h
       refine X.callM [(63, 2240)] (PC.lend (M0 := [(63, .obj true 38 4 (v25.2.map eTRule))]) (w_heldRuleS_pc _ _ _ hv26) (.lit _) (by rfl) (.own 63 _ _ _ _ _ _ _ (by rfl) (by first | rfl | simp [setL] | omega) (.same _ _ _ (by rfl) .nil))) (by rfl) (by rfl) (.ownB 63 (by rfl) (by first | rfl | simp [setL] | omega) (by rfl) (.pureB (by rfl) (by repeat (first | trivial | refine ⟨by first | rfl | simp [setL], ?_⟩)) .nil)) (by rfl) ⟨rfl, rfl, ⟨_, by rfl, by constructor⟩, by constructor, trivial⟩ (by rfl) (by rfl) (by rfl) (by rfl) (by rfl) (by rfl) (by rfl) (by rfl) (by rfl) ?_
       refine X.an ?_
       refine Run.seq ?_
       refine Run.sr ?_
       refine X.mv ?_
       refine X.bi ?_
       refine X.nil ?_
       refine R.cd (fun hc27 => ?_) (fun hc27 => ?_)
       ·replace h := condT hc27 h
        refine Run.sr ?_
        refine X.an ?_
        cases h
        refine R.f1 Tryz.results4 ?_
        rfl
       ·replace h := condF hc27 h
        refine Run.skip ?_
        refine Run.seq ?_
        refine Run.sr ?_
        refine X.mv ?_
        refine X.mv ?_
        refine X.bi ?_
        refine X.nil ?_
        refine R.cd (fun hc28 => ?_) (fun hc28 => ?_)
        ·replace h := condT hc28 h
         refine Run.sr ?_
         refine X.an ?_
         cases h
         refine R.f1 Tryz.results4 ?_
         rfl
        ·replace h := condF hc28 h
         refine Run.skip ?_
         refine Run.seq ?_
         refine Run.draw (footOf [(0, ([128], [], [], [])), (1, ([], [4864, 4865, 4866, 4867], [], [])), (2, ([192], [], [], [])), (3, ([], [4992, 4993, 4994], [], [])), (4, ([4864, 4865, 4866, 4867, 4992, 4993, 4994], [5056], [], []))]) mixed (by kernel_rfl) (by kernel_rfl) ?_
         refine X.ld shp27 ?_
         obtain ⟨v29, hv29, h⟩ := bindE h
         refine X.callA (PC.ofY (ps := [eTProject b0]) (w_toProject_pc _ _ hv29) (by rfl) (by rfl)) (by rfl) (by rfl) (by rfl) (by trivial) (by rfl) (by rfl) (by rfl) (by rfl) (by rfl) (by rfl) ?_
         refine X.ld shp47 ?_
         obtain ⟨v30, hv30, h⟩ := bindE h
         refine X.callA (PC.ofY (ps := [eTDomain b1]) (w_toDomain_pc _ _ hv30) (by rfl) (by rfl)) (by rfl) (by rfl) (by rfl) (by trivial) (by rfl) (by rfl) (by rfl) (by rfl) (by rfl) (by rfl) ?_
         obtain ⟨v31, hv31, h⟩ := bindE h
         refine X.callF (PC.pubF (i_CandidateRules_pc _ _ _ hv31)) (by rfl) (by rfl) (by rfl) (by repeat (first | trivial | refine ⟨by first | rfl | simp [setL], ?_⟩)) (by rfl) (by rfl) (by rfl) (by rfl) ?_
         refine X.an ?_
         refine Run.seq ?_
         refine Run.sr ?_
         refine X.mv ?_
         refine X.mv ?_
         obtain ⟨v32, hv32, h⟩ := bindE h
         refine X.cp (w_eqRuleS_pc _ _ _ hv32) ?_
         refine X.un (by rfl) (by rfl) (by rfl) ?_
         refine X.nil ?_
         refine R.cd (fun hc33 => ?_) (fun hc33 => ?_)
         ·replace h := condT hc33 h
          refine Run.sr ?_
          refine X.an ?_
          cases h
          refine R.f1 Tryz.results4 ?_
          rfl
         ·replace h := condF hc33 h
          refine Run.skip ?_
          refine Run.sr ?_
          refine X.an ?_
          refine Run.sr ?_
          refine X.mv ?_
          refine X.mv ?_
          obtain ⟨v34, hv34, h⟩ := bindE h
          refine X.callM [(63, 2240)] (PC.lend (M0 := [(63, .obj true 38 4 (v25.2.map eTRule))]) (w_heldRuleS_pc _ _ _ hv34) (.lit _) (by rfl) (.own 63 _ _ _ _ _ _ _ (by rfl) (by first | rfl | simp [setL] | omega) (.same _ _ _ (by rfl) .nil))) (by rfl) (by rfl) (.ownB 63 (by rfl) (by first | rfl | simp [setL] | omega) (by rfl) (.pureB (by rfl) (by repeat (first | trivial | refine ⟨by first | rfl | simp [setL], ?_⟩)) .nil)) (by rfl) ⟨rfl, rfl, ⟨_, by rfl, by constructor⟩, by constructor, trivial⟩ (by rfl) (by rfl) (by rfl) (by rfl) (by rfl) (by rfl) (by rfl) (by rfl) (by rfl) ?_
          refine X.an ?_
          refine Run.seq ?_
          refine Run.sr ?_
          refine X.mv ?_
          refine X.bi ?_
          refine X.nil ?_
          refine R.cd (fun hc35 => ?_) (fun hc35 => ?_)
          ·replace h := condT hc35 h
           refine Run.sr ?_
           refine X.an ?_
           cases h
           refine R.f1 Tryz.results4 ?_
           rfl
          ·replace h := condF hc35 h
           refine Run.skip ?_
           refine Run.seq ?_
           refine Run.sr ?_
           refine X.mv ?_
           refine X.mv ?_
           refine X.bi ?_
           refine X.nil ?_
           refine R.cd (fun hc36 => ?_) (fun hc36 => ?_)
           ·replace h := condT hc36 h
            refine Run.sr ?_
            refine X.an ?_
            cases h
            refine R.f1 Tryz.results4 ?_
            rfl
           ·replace h := condF hc36 h
            refine Run.skip ?_
            refine Run.sr ?_
            refine X.an ?_
            cases h
            refine R.f1 Tryz.results4 ?_
            rfl
end Go.Px.YtiinfmdopfkefaaGreat
