/-
  PROVED: contracts of functions of the program over pure values. No condition beyond those that each theorem names.
-/
import Derived.Test.YtbppcgnbkeegbaaGreatDoorProg
import Derived.Test.YtbppcgnbkeegbaaGreatDoorD1
import Derived.Test.YtbppcgnbkeegbaaGreatDoorS
import Derived.Test.YtbppcgnbkeegbaaGreatDoorC2
namespace Go.Px.YtbppcgnbkeegbaaGreatDoor
set_option linter.unusedSimpArgs false
set_option linter.unusedVariables false
open Go.Px Go.Proofs
theorem elt50 : eltOf Tryz.prog 50 = some (32, 6, 64) := by kernel_rfl
theorem ok13 : okFn Tryz.prog 13 = true := by kernel_rfl
theorem elt53 : eltOf Tryz.prog 53 = some (45, 6, 64) := by kernel_rfl
theorem ok15 : okFn Tryz.prog 15 = true := by kernel_rfl
theorem ok14 : okFn Tryz.prog 14 = true := by kernel_rfl
theorem ok16 : okFn Tryz.prog 16 = true := by kernel_rfl
theorem ok17 : okFn Tryz.prog 17 = true := by kernel_rfl
theorem ok4 : okFn Tryz.prog 4 = true := by kernel_rfl
theorem w_szLineS_pc (b0 : List TLine) (b1 : Int) (r : Int) (h : w_szLineS b0 b1 = some r) : PC Tryz.prog 13 [.slice (b0.map eTLine), int b1] (int r) := by
 unfold w_szLineS at h
 refine PC.start Tryz.func13 Tryz.ntmps13 rfl ok13 rfl ?_
 refine Run.sr ?_
 refine X.an ?_
 refine Run.sr ?_
 refine X.mv ?_
 refine X.mv ?_
 refine X.ls elt50 ?_
 refine X.subW (by rfl) (by rfl) (by rfl) ?_
 refine X.an ?_
 refine Run.seq ?_
 refine Run.sr ?_
 refine X.mv ?_
 refine X.bi ?_
 refine X.nil ?_
 refine R.cd (fun hc1 => ?_) (fun hc1 => ?_)
 ·replace h := condT hc1 h
  refine Run.sr ?_
  refine X.an ?_
  cases h
  refine R.f1 Tryz.results13 ?_
  rfl
 ·replace h := condF hc1 h
  refine Run.skip ?_
  refine Run.seq ?_
  refine Run.sr ?_
  refine X.an ?_
  obtain ⟨o2, ho2, h⟩ := bindE h
  refine R.join2 (β := Int) [] [] (fun p16 S => (1, int p16) :: S) (fun p16 M => M) (fun p16 => (Sum.inl p16) = o2) ?_ ?_
  ·intro JJ5 hmeet4
   have hup3 := h; clear h; have h := ho2; clear ho2
   refine Run.block ?_
   refine R.bndS (t := 0) (by rfl) (fun hbd8 => ?_)
   replace hbd8 : b0.length ≤ 9223372036854775807 := by first | (rw [List.length_map] at hbd8; exact hbd8) | simp
   refine R.lp (β := Int × Int) [(0, .slice (b0.map eTLine))] [] (fun bb S => (1, int bb.2) :: (5, int bb.1) :: S) (fun bb M => M) (fun n bb => 0 ≤ bb.1 ∧ bb.1 + n = (b0.length : Int) ∧ w_szLineS_L1 (b0.drop bb.1.toNat) bb.1 bb.2 = some o2) b0.length (0, (W (b1 - (b0.length : Int)))) ⟨Int.le_refl _, by simp, h⟩ ?_
   clear h
   rintro JJ8 n8 ⟨z9, a10⟩ hag8 ⟨hza8, hzb8, h⟩
   dsimp only at hza8 hzb8 h
   refine Run.seq ?_
   refine Run.sr ?_
   refine X.mv ?_
   refine X.mv ?_
   refine X.ls elt50 ?_
   refine X.bi ?_
   refine X.nil ?_
   refine R.cd (fun hc13 => ?_) (fun hc13 => ?_)
   ·obtain ⟨x11, xs12, hd8, hx8, hds8, hlt8⟩ := drop_atI hza8 hc13
    rw [hd8] at h
    rw [w_szLineS_L1] at h
    refine Run.skip ?_
    refine Run.seq ?_
    refine Run.block ?_
    refine Run.sr ?_
    refine X.mv ?_
    refine X.mv ?_
    refine X.ix elt50 (idxL_spec hx8).1 (idxL_map eTLine hx8) ?_
    refine X.lc shp32 ?_
    refine X.mv ?_
    obtain ⟨v14, hv14, h⟩ := bindE h
    refine X.cp (w_szLine_pc _ _ _ hv14) ?_
    refine X.an ?_
    refine Run.sr ?_
    refine X.mv ?_
    refine X.bi ?_
    refine X.nil ?_
    refine R.cd (fun hc15 => ?_) (fun hc15 => ?_)
    ·replace h := condT hc15 h
     refine Run.sr ?_
     refine X.an ?_
     cases h
     have h := hup3
     replace h := elimR h
     cases h
     refine R.f1 Tryz.results13 ?_
     rfl
    ·replace h := condF hc15 h
     refine Run.skip ?_
     refine Run.blk ?_
     refine Run.reg ?_
     refine X.mv ?_
     refine X.ad ?_
     refine X.an ?_
     exact R.ag hag8 (n8 - 1) (z9 + 1, v14) (R.n3 (by first | (rw [hds8]; exact h) | (dsimp only; rw [hds8]; exact h)))
   ·rw [drop_endI hza8 hc13] at h
    rw [w_szLineS_L1] at h
    refine Run.exit (by rfl) ?_
    exact R.mt hmeet4 a10 (Option.some.inj h)
  rintro p16 rfl
  replace h := elimL h
  refine Run.sr ?_
  refine X.mv ?_
  refine X.an ?_
  cases h
  refine R.f1 Tryz.results13 ?_
  rfl
theorem w_toLineS_pc (b0 : List TLine) (r : List TLine) (h : w_toLineS b0 = some r) : PCM Tryz.prog 15 [.yng 63 (.slice (b0.map eTLine))] [(63, .yreg false false)] (.fresh false 45 6 (r.map eTLine)) [(63, .yreg false false)] := by
 unfold w_toLineS at h
 refine PCM.start Tryz.func15 Tryz.ntmps15 rfl ok15 rfl (by rfl) (by rfl) (by rfl) (by rfl) (by rfl) ?_
 refine Run.sr ?_
 refine X.an ?_
 refine Run.sr ?_
 refine X.mv ?_
 refine X.lenY false 63 elt50 (by rfl) (by exact List.length_map ..) (by rfl) ?_
 obtain ⟨v1, hv1, h⟩ := bindE h
 refine X.makeSlice2 eTLine hv1 elt53 zer45 (by rfl) (by rfl) (by rfl) (by simp [PV.plain]) (by rfl) (by rfl) (by rfl) (by rfl) (by rfl) (by rfl) ?_
 refine X.an ?_
 refine Run.seq ?_
 refine Run.sr ?_
 refine X.an ?_
 obtain ⟨o2, ho2, h⟩ := bindE h
 refine R.join2 (β := (List TLine)) [] [(63, .yreg false false)] (fun p16 S => (3, .own 448 (p16.map eTLine).length) :: S) (fun p16 M => (448, .obj true 45 6 (p16.map eTLine)) :: M) (fun p16 => p16 = o2) ?_ ?_
 ·intro JJ5 hmeet4
  have hup3 := h; clear h; have h := ho2; clear ho2
  refine Run.block ?_
  refine R.bndY false 63 (t := 0) (by rfl) (fun hbd8 => ?_)
  replace hbd8 : b0.length ≤ 9223372036854775807 := by first | (rw [List.length_map] at hbd8; exact hbd8) | simp
  refine R.lp (β := Int × (List TLine)) [(0, .yng 63 (.slice (b0.map eTLine)))] [(63, .yreg false false)] (fun bb S => (3, .own 448 (bb.2.map eTLine).length) :: (4, int bb.1) :: S) (fun bb M => (448, .obj true 45 6 (bb.2.map eTLine)) :: M) (fun n bb => 0 ≤ bb.1 ∧ bb.1 + n = (b0.length : Int) ∧ w_toLineS_L1 (b0.drop bb.1.toNat) bb.1 bb.2 = some o2) b0.length (0, v1) ⟨Int.le_refl _, by simp, h⟩ ?_
  clear h
  rintro JJ8 n8 ⟨z9, a10⟩ hag8 ⟨hza8, hzb8, h⟩
  dsimp only at hza8 hzb8 h
  refine Run.seq ?_
  refine Run.sr ?_
  refine X.mv ?_
  refine X.mv ?_
  refine X.lenY false 63 elt50 (by rfl) (by exact List.length_map ..) (by rfl) ?_
  refine X.bi ?_
  refine X.nil ?_
  refine R.cd (fun hc13 => ?_) (fun hc13 => ?_)
  ·obtain ⟨x11, xs12, hd8, hx8, hds8, hlt8⟩ := drop_atI hza8 hc13
   rw [hd8] at h
   rw [w_toLineS_L1] at h
   refine Run.skip ?_
   refine Run.seq ?_
   refine Run.block ?_
   refine Run.reg ?_
   refine X.mv ?_
   refine X.mv ?_
   refine X.mv ?_
   refine X.mv ?_
   refine X.indexY false 63 elt50 (by rfl) (by rfl) (idxL_spec hx8).1 (idxL_map eTLine hx8) (by rfl) (by rfl) ?_
   refine X.loadY false 63 shp32 (by rfl) (by rfl) (by rfl) (by rfl) ?_
   obtain ⟨v14, hv14, h⟩ := bindE h
   refine X.callM [(63, 63)] (w_toLine_pc _ _ hv14) (by rfl) (by rfl) (.agg _ _ _ _ _ _ (.pureB (by rfl) (by repeat (first | trivial | refine ⟨by first | rfl | simp [setL], ?_⟩)) (.pureB (by rfl) (by repeat (first | trivial | refine ⟨by first | rfl | simp [setL], ?_⟩)) (.pureB (by rfl) (by repeat (first | trivial | refine ⟨by first | rfl | simp [setL], ?_⟩)) (.pureB (by rfl) (by repeat (first | trivial | refine ⟨by first | rfl | simp [setL], ?_⟩)) (.pureB (by rfl) (by repeat (first | trivial | refine ⟨by first | rfl | simp [setL], ?_⟩)) (.yngB 63 (by rfl) (by rfl) .nil)))))) .nil) (by rfl) ⟨rfl, rfl, ⟨_, by rfl, by constructor⟩, by constructor, trivial⟩ (by rfl) (by rfl) (by rfl) (by rfl) (by rfl) (by rfl) (by rfl) (by rfl) (by rfl) ?_
   obtain ⟨v15, hv15, h⟩ := bindE h
   refine X.index_xs elt53 (by rfl) (by rfl) (by first | rfl | simp [setL] | omega) (by rfl) (by exact (Int.toNat_of_nonneg (idxL_spec hv15).1).symm) (by have := idxL_lt hv15; first | exact this | (rw [List.length_map]; exact this)) (by rfl) (by rfl) ?_
   refine X.store_es shp45 (by rfl) (by rfl) (by first | rfl | simp [setL] | omega) (idxL_map _ hv15) (by rfl) (by rfl) (by repeat (first | trivial | refine ⟨by first | rfl | simp [setL], ?_⟩)) (by rfl) (by rfl) (by rfl) (by rfl) (by exact setL_map _ _ _ v14) ?_
   refine X.nil ?_
   refine Run.blk ?_
   refine Run.reg ?_
   refine X.mv ?_
   refine X.ad ?_
   refine X.an ?_
   refine R.castS (t := 3) (.own 448 ((setL a10 z9 v14).map eTLine).length) (by rfl) (.inl (by first | rfl | simp [setL])) ?_
   exact R.ag hag8 (n8 - 1) (z9 + 1, (setL a10 z9 v14)) (R.n3 (by first | (rw [hds8]; exact h) | (dsimp only; rw [hds8]; exact h)))
  ·rw [drop_endI hza8 hc13] at h
   rw [w_toLineS_L1] at h
   refine Run.exit (by rfl) ?_
   exact R.mt hmeet4 a10 (Option.some.inj h)
 rintro p16 rfl
 refine Run.sr ?_
 refine X.mv ?_
 refine X.an ?_
 cases h
 refine R.pubObj (n := 448) (by rfl) ?_
 exact R.finM1o Tryz.results15 (by rfl) (by rfl) (by first | rfl | simp [setL] | omega) (by rfl) (by repeat (first | exact trivial | refine ⟨by rfl, ?_⟩)) rfl
theorem s_FormatProof_pc (b0 : TProject) (b1 : List TLine) (r : ByteArray) (h : s_FormatProof b0 b1 = some r) : PC Tryz.prog 14 [eTProject b0, .slice (b1.map eTLine)] (str r) := by
 unfold s_FormatProof at h
 refine PC.start Tryz.func14 Tryz.ntmps14 rfl ok14 rfl ?_
 refine Run.sr ?_
 refine X.bx ?_
 refine X.an ?_
 refine Run.sr ?_
 refine X.an ?_
 refine Run.seq ?_
 refine Run.sr ?_
 refine X.mv ?_
 refine X.ls elt53 ?_
 refine X.mn ?_
 obtain ⟨o1, ho1, h⟩ := bindE h
 refine R.join2 (β := ByteArray) [] [] (fun p17 S => (5, str p17) :: S) (fun p17 M => M) (fun p17 => (Sum.inl p17) = o1) ?_ ?_
 ·intro JJ4 hmeet3
  have hup2 := h; clear h; have h := ho1; clear ho1
  refine Run.block ?_
  refine R.bndS (t := 1) (by rfl) (fun hbd7 => ?_)
  replace hbd7 : b1.length ≤ 9223372036854775807 := by first | (rw [List.length_map] at hbd7; exact hbd7) | simp
  refine R.lp (β := Int × ByteArray) [(2, .lptr 128 0), (9, .slice (b1.map eTLine)), (10, int (b1.length : Int))] [(128, .blk true [int b0.Deadline, .slice (b0.Activities.map eTActivity), .slice (b0.Links.map eTLink), .slice (b0.Resources.map eTResource), .slice (b0.Stocks.map int)])] (fun bb S => (5, str bb.2) :: (11, int bb.1) :: S) (fun bb M => M) (fun n bb => 0 ≤ bb.1 ∧ bb.1 + n = (b1.length : Int) ∧ s_FormatProof_L1 b0 (b1.drop bb.1.toNat) bb.1 bb.2 = some o1) b1.length (0, ByteArray.empty) ⟨Int.le_refl _, by simp, h⟩ ?_
  clear h
  rintro JJ7 n7 ⟨z8, a9⟩ hag7 ⟨hza7, hzb7, h⟩
  dsimp only at hza7 hzb7 h
  refine Run.sr ?_
  refine X.bi ?_
  refine X.nil ?_
  refine Run.seq ?_
  refine R.cd (fun hc12 => ?_) (fun hc12 => ?_)
  ·obtain ⟨x10, xs11, hd7, hx7, hds7, hlt7⟩ := drop_atI hza7 hc12
   rw [hd7] at h
   rw [s_FormatProof_L1] at h
   refine Run.skip ?_
   refine Run.seq ?_
   refine Run.block ?_
   refine Run.sr ?_
   refine X.ix elt53 (idxL_spec hx7).1 (idxL_map eTLine hx7) ?_
   refine X.lc shp45 ?_
   refine X.alloc zer45 (by rfl) (by rfl) (by rfl) ?_
   refine X.sl shp45 ?_
   refine X.nil ?_
   refine Run.sr ?_
   refine X.ld shp40 ?_
   refine X.ld shp45 ?_
   obtain ⟨v13, hv13, h⟩ := bindE h
   refine X.cp (s_FormatLine_pc _ _ _ hv13) ?_
   refine X.an ?_
   refine Run.seq ?_
   refine Run.sr ?_
   refine X.mv ?_
   refine X.bi ?_
   refine X.nil ?_
   refine R.cd (fun hc14 => ?_) (fun hc14 => ?_)
   ·replace h := condT hc14 h
    refine Run.sr ?_
    refine X.an ?_
    cases h
    have h := hup2
    replace h := elimR h
    cases h
    refine R.f1 Tryz.results14 ?_
    rfl
   ·replace h := condF hc14 h
    refine Run.skip ?_
    refine Run.reg ?_
    refine X.mv ?_
    refine X.mv ?_
    obtain ⟨v15, hv15, h⟩ := bindE h
    refine X.cat2 hv15 (by rfl) (by rfl) (by rfl) ?_
    obtain ⟨v16, hv16, h⟩ := bindE h
    refine X.cat2 hv16 (by rfl) (by rfl) (by rfl) ?_
    refine X.an ?_
    refine Run.blk ?_
    refine Run.reg ?_
    refine X.ad ?_
    refine X.mn ?_
    exact R.ag hag7 (n7 - 1) (z8 + 1, v16) (R.n3 (by first | (rw [hds7]; exact h) | (dsimp only; rw [hds7]; exact h)))
  ·rw [drop_endI hza7 hc12] at h
   rw [s_FormatProof_L1] at h
   refine Run.exit (by rfl) ?_
   exact R.mt hmeet3 a9 (Option.some.inj h)
 rintro p17 rfl
 replace h := elimL h
 refine Run.sr ?_
 refine X.mv ?_
 refine X.an ?_
 cases h
 refine R.f1 Tryz.results14 ?_
 rfl
theorem i_FormatProof_pc (b0 : TProject) (b1 : List TLine) (r : ByteArray) (h : i_FormatProof b0 b1 = some r) : PC Tryz.prog 16 [eTProject b0, .slice (b1.map eTLine)] (str r) := by
 unfold i_FormatProof at h
 refine PC.start Tryz.func16 Tryz.ntmps16 rfl ok16 rfl ?_
 refine Run.sr ?_
 refine X.bx ?_
 refine X.an ?_
 refine Run.sr ?_
 refine X.an ?_
 refine Run.seq ?_
 refine Run.sr ?_
 refine X.mv ?_
 refine X.ls elt53 ?_
 refine X.mn ?_
 obtain ⟨o1, ho1, h⟩ := bindE h
 refine R.join2 (β := ByteArray) [] [] (fun p17 S => (5, str p17) :: S) (fun p17 M => M) (fun p17 => (Sum.inl p17) = o1) ?_ ?_
 ·intro JJ4 hmeet3
  have hup2 := h; clear h; have h := ho1; clear ho1
  refine Run.block ?_
  refine R.bndS (t := 1) (by rfl) (fun hbd7 => ?_)
  replace hbd7 : b1.length ≤ 9223372036854775807 := by first | (rw [List.length_map] at hbd7; exact hbd7) | simp
  refine R.lp (β := Int × ByteArray) [(2, .lptr 128 0), (9, .slice (b1.map eTLine)), (10, int (b1.length : Int))] [(128, .blk true [int b0.Deadline, .slice (b0.Activities.map eTActivity), .slice (b0.Links.map eTLink), .slice (b0.Resources.map eTResource), .slice (b0.Stocks.map int)])] (fun bb S => (5, str bb.2) :: (11, int bb.1) :: S) (fun bb M => M) (fun n bb => 0 ≤ bb.1 ∧ bb.1 + n = (b1.length : Int) ∧ i_FormatProof_L1 b0 (b1.drop bb.1.toNat) bb.1 bb.2 = some o1) b1.length (0, ByteArray.empty) ⟨Int.le_refl _, by simp, h⟩ ?_
  clear h
  rintro JJ7 n7 ⟨z8, a9⟩ hag7 ⟨hza7, hzb7, h⟩
  dsimp only at hza7 hzb7 h
  refine Run.sr ?_
  refine X.bi ?_
  refine X.nil ?_
  refine Run.seq ?_
  refine R.cd (fun hc12 => ?_) (fun hc12 => ?_)
  ·obtain ⟨x10, xs11, hd7, hx7, hds7, hlt7⟩ := drop_atI hza7 hc12
   rw [hd7] at h
   rw [i_FormatProof_L1] at h
   refine Run.skip ?_
   refine Run.seq ?_
   refine Run.block ?_
   refine Run.sr ?_
   refine X.ix elt53 (idxL_spec hx7).1 (idxL_map eTLine hx7) ?_
   refine X.lc shp45 ?_
   refine X.alloc zer45 (by rfl) (by rfl) (by rfl) ?_
   refine X.sl shp45 ?_
   refine X.nil ?_
   refine Run.sr ?_
   refine X.ld shp40 ?_
   refine X.ld shp45 ?_
   obtain ⟨v13, hv13, h⟩ := bindE h
   refine X.cp (i_FormatLine_pc _ _ _ hv13) ?_
   refine X.an ?_
   refine Run.seq ?_
   refine Run.sr ?_
   refine X.mv ?_
   refine X.bi ?_
   refine X.nil ?_
   refine R.cd (fun hc14 => ?_) (fun hc14 => ?_)
   ·replace h := condT hc14 h
    refine Run.sr ?_
    refine X.an ?_
    cases h
    have h := hup2
    replace h := elimR h
    cases h
    refine R.f1 Tryz.results16 ?_
    rfl
   ·replace h := condF hc14 h
    refine Run.skip ?_
    refine Run.reg ?_
    refine X.mv ?_
    refine X.mv ?_
    obtain ⟨v15, hv15, h⟩ := bindE h
    refine X.cat2 hv15 (by rfl) (by rfl) (by rfl) ?_
    obtain ⟨v16, hv16, h⟩ := bindE h
    refine X.cat2 hv16 (by rfl) (by rfl) (by rfl) ?_
    refine X.an ?_
    refine Run.blk ?_
    refine Run.reg ?_
    refine X.ad ?_
    refine X.mn ?_
    exact R.ag hag7 (n7 - 1) (z8 + 1, v16) (R.n3 (by first | (rw [hds7]; exact h) | (dsimp only; rw [hds7]; exact h)))
  ·rw [drop_endI hza7 hc12] at h
   rw [i_FormatProof_L1] at h
   refine Run.exit (by rfl) ?_
   exact R.mt hmeet3 a9 (Option.some.inj h)
 rintro p17 rfl
 replace h := elimL h
 refine Run.sr ?_
 refine X.mv ?_
 refine X.an ?_
 cases h
 refine R.f1 Tryz.results16 ?_
 rfl
theorem w_eqLineS_pc (b0 : List TLine) (b1 : List TLine) (r : Bool) (h : w_eqLineS b0 b1 = some r) : PC Tryz.prog 17 [.slice (b0.map eTLine), .slice (b1.map eTLine)] (bool r) := by
 unfold w_eqLineS at h
 refine PC.start Tryz.func17 Tryz.ntmps17 rfl ok17 rfl ?_
 refine Run.sr ?_
 refine X.an ?_
 refine Run.seq ?_
 refine Run.sr ?_
 refine X.mv ?_
 refine X.ls elt53 ?_
 refine X.mv ?_
 refine X.ls elt53 ?_
 refine X.bi ?_
 refine X.nil ?_
 refine R.cd (fun hc1 => ?_) (fun hc1 => ?_)
 ·replace h := condT hc1 h
  refine Run.sr ?_
  refine X.an ?_
  cases h
  refine R.f1 Tryz.results17 ?_
  rfl
 ·replace h := condF hc1 h
  refine Run.skip ?_
  refine Run.seq ?_
  refine Run.sr ?_
  refine X.an ?_
  obtain ⟨o2, ho2, h⟩ := bindE h
  refine R.join2 (β := Unit) [] [] (fun p16 S => S) (fun p16 M => M) (fun p16 => (Sum.inl p16) = o2) ?_ ?_
  ·intro JJ5 hmeet4
   have hup3 := h; clear h; have h := ho2; clear ho2
   refine Run.block ?_
   refine R.bndS (t := 0) (by rfl) (fun hbd8 => ?_)
   replace hbd8 : b0.length ≤ 9223372036854775807 := by first | (rw [List.length_map] at hbd8; exact hbd8) | simp
   refine R.lp (β := Int) [(0, .slice (b0.map eTLine)), (1, .slice (b1.map eTLine))] [] (fun bb S => (5, int bb) :: S) (fun bb M => M) (fun n bb => 0 ≤ bb ∧ bb + n = (b0.length : Int) ∧ w_eqLineS_L1 b1 (b0.drop bb.toNat) bb = some o2) b0.length (0 : Int) ⟨Int.le_refl _, by simp, h⟩ ?_
   clear h
   rintro JJ8 n8 z9 hag8 ⟨hza8, hzb8, h⟩
   refine Run.seq ?_
   refine Run.sr ?_
   refine X.mv ?_
   refine X.mv ?_
   refine X.ls elt53 ?_
   refine X.bi ?_
   refine X.nil ?_
   refine R.cd (fun hc12 => ?_) (fun hc12 => ?_)
   ·obtain ⟨x10, xs11, hd8, hx8, hds8, hlt8⟩ := drop_atI hza8 hc12
    rw [hd8] at h
    rw [w_eqLineS_L1] at h
    refine Run.skip ?_
    refine Run.seq ?_
    refine Run.block ?_
    refine Run.seq ?_
    refine Run.draw (footOf []) mixed (by kernel_rfl) (by kernel_rfl) ?_
    refine X.mv ?_
    refine X.mv ?_
    refine X.ix elt53 (idxL_spec hx8).1 (idxL_map eTLine hx8) ?_
    refine X.lc shp45 ?_
    refine X.mv ?_
    refine X.mv ?_
    obtain ⟨v13, hv13, h⟩ := bindE h
    refine X.ix elt53 (idxL_spec hv13).1 (idxL_map eTLine hv13) ?_
    refine X.lc shp45 ?_
    obtain ⟨v14, hv14, h⟩ := bindE h
    refine X.cp (w_eqLine_pc _ _ _ hv14) ?_
    refine X.un (by rfl) (by rfl) (by rfl) ?_
    refine X.nil ?_
    refine R.cd (fun hc15 => ?_) (fun hc15 => ?_)
    ·replace h := condT hc15 h
     refine Run.sr ?_
     refine X.an ?_
     cases h
     have h := hup3
     replace h := elimR h
     cases h
     refine R.f1 Tryz.results17 ?_
     rfl
    ·replace h := condF hc15 h
     refine Run.skip ?_
     refine Run.blk ?_
     refine Run.reg ?_
     refine X.mv ?_
     refine X.ad ?_
     refine X.an ?_
     exact R.ag hag8 (n8 - 1) (z9 + 1) (R.n3 (by first | (rw [hds8]; exact h) | (dsimp only; rw [hds8]; exact h)))
   ·rw [drop_endI hza8 hc12] at h
    rw [w_eqLineS_L1] at h
    refine Run.exit (by rfl) ?_
    exact R.mt hmeet4 () (Option.some.inj h)
  rintro p16 rfl
  replace h := elimL h
  refine Run.sr ?_
  refine X.an ?_
  cases h
  refine R.f1 Tryz.results17 ?_
  rfl
theorem w_FnExactFormatProof_pc (b0 : TProject) (b1 : List TLine) (r : Bool) (h : w_FnExactFormatProof b0 b1 = some r) : PC Tryz.prog 4 [eTProject b0, .slice (b1.map eTLine)] (bool r) := by
 unfold w_FnExactFormatProof at h
 refine PC.start Tryz.func4 Tryz.ntmps4 rfl ok4 rfl ?_
 refine Run.sr ?_
 refine X.bx ?_
 refine X.an ?_
 refine Run.sr ?_
 refine X.an ?_
 refine Run.sr ?_
 refine X.ld shp27 ?_
 refine X.mv ?_
 obtain ⟨v1, hv1, h⟩ := bindE h
 refine X.cp (w_szProject_pc _ _ _ hv1) ?_
 refine X.an ?_
 refine Run.seq ?_
 refine Run.sr ?_
 refine X.mv ?_
 refine X.bi ?_
 refine X.nil ?_
 refine R.cd (fun hc2 => ?_) (fun hc2 => ?_)
 ·replace h := condT hc2 h
  refine Run.sr ?_
  refine X.an ?_
  cases h
  refine R.f1 Tryz.results4 ?_
  rfl
 ·replace h := condF hc2 h
  refine Run.skip ?_
  refine Run.sr ?_
  refine X.mv ?_
  refine X.mv ?_
  obtain ⟨v3, hv3, h⟩ := bindE h
  refine X.cp (w_szLineS_pc _ _ _ hv3) ?_
  refine X.an ?_
  refine Run.seq ?_
  refine Run.sr ?_
  refine X.mv ?_
  refine X.bi ?_
  refine X.nil ?_
  refine R.cd (fun hc4 => ?_) (fun hc4 => ?_)
  ·replace h := condT hc4 h
   refine Run.sr ?_
   refine X.an ?_
   cases h
   refine R.f1 Tryz.results4 ?_
   rfl
  ·replace h := condF hc4 h
   refine Run.skip ?_
   refine Run.sr ?_
   refine X.ld shp27 ?_
   obtain ⟨v5, hv5, h⟩ := bindE h
   refine X.callA (PC.ofY (ps := [eTProject b0]) (w_toProject_pc _ _ hv5) (by rfl) (by rfl)) (by rfl) (by rfl) (by rfl) (by trivial) (by rfl) (by rfl) (by rfl) (by rfl) (by rfl) (by rfl) ?_
   refine X.mv ?_
   obtain ⟨v6, hv6, h⟩ := bindE h
   refine X.callF (PC.ofY (ps := [.slice (b1.map eTLine)]) (w_toLineS_pc _ _ hv6) (by rfl) (by rfl)) (by rfl) (by rfl) (by rfl) (by trivial) (by rfl) (by rfl) (by rfl) (by rfl) ?_
   obtain ⟨v7, hv7, h⟩ := bindE h
   refine X.cp (s_FormatProof_pc _ _ _ hv7) ?_
   refine X.an ?_
   refine Run.sr ?_
   refine X.ld shp27 ?_
   obtain ⟨v8, hv8, h⟩ := bindE h
   refine X.callA (PC.ofY (ps := [eTProject b0]) (w_toProject_pc _ _ hv8) (by rfl) (by rfl)) (by rfl) (by rfl) (by rfl) (by trivial) (by rfl) (by rfl) (by rfl) (by rfl) (by rfl) (by rfl) ?_
   refine X.alloc zer40 (by rfl) (by rfl) (by rfl) ?_
   refine X.sl shp40 ?_
   refine X.nil ?_
   refine Run.sr ?_
   refine X.mv ?_
   obtain ⟨v9, hv9, h⟩ := bindE h
   refine X.callF (PC.ofY (ps := [.slice (b1.map eTLine)]) (w_toLineS_pc _ _ hv9) (by rfl) (by rfl)) (by rfl) (by rfl) (by rfl) (by trivial) (by rfl) (by rfl) (by rfl) (by rfl) ?_
   refine X.an ?_
   refine Run.sr ?_
   refine X.ld shp40 ?_
   refine X.mv ?_
   obtain ⟨v10, hv10, h⟩ := bindE h
   refine X.cp (i_FormatProof_pc _ _ _ hv10) ?_
   refine X.an ?_
   refine Run.seq ?_
   refine Run.sr ?_
   refine X.mv ?_
   refine X.mv ?_
   refine X.bi ?_
   refine X.nil ?_
   refine R.cd (fun hc11 => ?_) (fun hc11 => ?_)
   ·replace h := condT hc11 h
    refine Run.sr ?_
    refine X.an ?_
    cases h
    refine R.f1 Tryz.results4 ?_
    rfl
   ·replace h := condF hc11 h
    refine Run.skip ?_
    refine Run.seq ?_
    refine Run.seq ?_
    refine Run.draw (footOf [(0, ([448], [], [], [])), (1, ([128], [], [], [])), (2, ([], [2368, 2369, 2370, 2371], [], [])), (3, ([1664, 1665, 1666, 1667, 2368, 2369, 2370, 2371], [], [], []))]) mixed (by kernel_rfl) (by kernel_rfl) ?_
    refine X.ld shp40 ?_
    refine X.ld shp27 ?_
    obtain ⟨v12, hv12, h⟩ := bindE h
    refine X.callA (PC.ofY (ps := [eTProject b0]) (w_toProject_pc _ _ hv12) (by rfl) (by rfl)) (by rfl) (by rfl) (by rfl) (by trivial) (by rfl) (by rfl) (by rfl) (by rfl) (by rfl) (by rfl) ?_
    obtain ⟨v13, hv13, h⟩ := bindE h
    refine X.cp (w_eqProject_pc _ _ _ hv13) ?_
    refine X.un (by rfl) (by rfl) (by rfl) ?_
    refine X.nil ?_
    refine R.cd (fun hc14 => ?_) (fun hc14 => ?_)
    ·replace h := condT hc14 h
     refine Run.sr ?_
     refine X.an ?_
     cases h
     refine R.f1 Tryz.results4 ?_
     rfl
    ·replace h := condF hc14 h
     refine Run.skip ?_
     refine Run.seq ?_
     refine Run.sr ?_
     refine X.mv ?_
     refine X.mv ?_
     obtain ⟨v15, hv15, h⟩ := bindE h
     refine X.callF (PC.ofY (ps := [.slice (b1.map eTLine)]) (w_toLineS_pc _ _ hv15) (by rfl) (by rfl)) (by rfl) (by rfl) (by rfl) (by trivial) (by rfl) (by rfl) (by rfl) (by rfl) ?_
     obtain ⟨v16, hv16, h⟩ := bindE h
     refine X.cp (w_eqLineS_pc _ _ _ hv16) ?_
     refine X.un (by rfl) (by rfl) (by rfl) ?_
     refine X.nil ?_
     refine R.cd (fun hc17 => ?_) (fun hc17 => ?_)
     ·replace h := condT hc17 h
      refine Run.sr ?_
      refine X.an ?_
      cases h
      refine R.f1 Tryz.results4 ?_
      rfl
     ·replace h := condF hc17 h
      refine Run.skip ?_
      refine Run.sr ?_
      refine X.an ?_
      cases h
      refine R.f1 Tryz.results4 ?_
      rfl
end Go.Px.YtbppcgnbkeegbaaGreatDoor
