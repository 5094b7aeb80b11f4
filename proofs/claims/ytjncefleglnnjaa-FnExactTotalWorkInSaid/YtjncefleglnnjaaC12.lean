/-
  PROVED: contracts of functions of the program over pure values. No condition beyond those that each theorem names.
-/
import Derived.Test.YtjncefleglnnjaaProg
import Derived.Test.YtjncefleglnnjaaD1
import Derived.Test.YtjncefleglnnjaaC1
import Derived.Test.YtjncefleglnnjaaC2
import Derived.Test.YtjncefleglnnjaaC3
import Derived.Test.YtjncefleglnnjaaC4
import Derived.Test.YtjncefleglnnjaaC5
import Derived.Test.YtjncefleglnnjaaC6
import Derived.Test.YtjncefleglnnjaaC7
namespace Go.Px.Ytjncefleglnnjaa
set_option linter.unusedSimpArgs false
set_option linter.unusedVariables false
open Go.Px Go.Proofs
theorem ok187 : okFn Try.prog 187 = true := by kernel_rfl
theorem ok130 : okFn Try.prog 130 = true := by kernel_rfl
theorem ok188 : okFn Try.prog 188 = true := by kernel_rfl
theorem ok131 : okFn Try.prog 131 = true := by kernel_rfl
theorem s_Overlap_pc (b0 : Int) (b1 : Int) (b2 : Int) (b3 : Int) (r : Int) (h : s_Overlap b0 b1 b2 b3 = some r) : PC Try.prog 187 [int b0, int b1, int b2, int b3] (int r) := by
  unfold s_Overlap at h
  refine PC.start Try.func187 Try.ntmps187 rfl ok187 rfl ?_
  refine Run.seq ?_
  refine Run.reg ?_
  refine X.assign (by rfl) (by rfl) ?_
  refine X.nil ?_
  refine Run.seq ?_
  refine Run.seq ?_
  refine Run.reg ?_
  refine X.move (by rfl) (by rfl) ?_
  refine X.move (by rfl) (by rfl) ?_
  refine X.move (by rfl) (by rfl) ?_
  refine X.move (by rfl) (by rfl) ?_
  refine X.buildSlice false elt25 zer3 (by rfl) (by rfl) (by rfl) (by rfl) (by rfl) (by rfl) (by repeat (first | exact trivial | refine ⟨by rfl, ?_⟩ | refine ⟨by simp [setL], ?_⟩)) (allSz_spec (by rfl)) (by rfl) (by rfl) (by rfl) ?_
  refine X.len_o elt25 (by rfl) (by rfl) (by first | rfl | simp [setL] | omega) (by first | exact List.length_map .. | rfl) (by rfl) (by rfl) ?_
  refine X.move (by rfl) (by rfl) ?_
  refine X.nil ?_
  obtain ⟨o1, ho1, h⟩ := bindE h
  refine R.join2 (β := Unit) [(0, int b0), (1, int b1), (2, int b2), (3, int b3)] [] (fun p14 S => S) (fun p14 M => M) (fun p14 => (Sum.inl p14) = o1) ?_ ?_
  · intro JJ4 hmeet3
    have hup2 := h; clear h; have h := ho1; clear ho1
    refine Run.block ?_
    refine R.bndO (n := 960) (by rfl) (fun hbd7 => ?_)
    replace hbd7 : ([b0, b1, b2, b3] : List Int).length ≤ 9223372036854775807 := by first | (rw [List.length_map] at hbd7; exact hbd7) | simp
    refine R.loop2 (β := Int) [(0, int b0), (1, int b1), (2, int b2), (3, int b3), (16, int (([b0, b1, b2, b3] : List Int).length : Int))] [(960, .obj false 3 1 (([b0, b1, b2, b3] : List Int).map int))] (fun bb S => (15, .own 960 (([b0, b1, b2, b3] : List Int).map int).length) :: (17, int bb) :: S) (fun bb M => M) (fun n bb => 0 ≤ bb ∧ bb + n = (([b0, b1, b2, b3] : List Int).length : Int) ∧ s_Overlap_L1 (([b0, b1, b2, b3] : List Int).drop bb.toNat) bb = some o1) ([b0, b1, b2, b3] : List Int).length (0 : Int) (by repeat (first | exact trivial | refine ⟨by rfl, ?_⟩ | refine ⟨by simp [setL], ?_⟩)) (by repeat (first | exact trivial | refine ⟨by rfl, ?_⟩ | refine ⟨by simp [setL], ?_⟩)) (by rfl) (by rfl) ⟨Int.le_refl _, by simp, h⟩ ?_
    clear h
    rintro JJ7 n7 z8 hag7 ⟨hza7, hzb7, h⟩
    refine Run.seq ?_
    refine Run.reg ?_
    refine X.bin (by rfl) (by rfl) (by rfl) (by rfl) (by intro h; cases h) (by rfl) ?_
    refine X.nil ?_
    refine Run.seq ?_
    refine R.cond (by rfl) (fun hc11 => ?_) (fun hc11 => ?_)
    · obtain ⟨x9, xs10, hd7, hx7, hds7, hlt7⟩ := drop_atI hza7 hc11
      rw [hd7] at h
      rw [s_Overlap_L1] at h
      refine Run.skip ?_
      refine Run.seq ?_
      refine Run.block ?_
      refine Run.seq ?_
      refine Run.reg ?_
      refine X.index_o elt25 (by rfl) (by rfl) (by first | rfl | simp [setL] | omega) (by rfl) (idxL_spec hx7).1 (idxL_map int hx7) (by rfl) (by rfl) (by rfl) ?_
      refine X.load_c shp3 (by rfl) (by rfl) (by rfl) (by rfl) ?_
      refine X.assign (by rfl) (by rfl) ?_
      refine X.nil ?_
      refine Run.seq ?_
      refine Run.reg ?_
      refine X.move (by rfl) (by rfl) ?_
      obtain ⟨v12, hv12, h⟩ := bindE h
      refine X.callP (s_l01In_pc _ _ _ _ hv12) (by rfl) (by rfl) (by rfl) (by repeat (first | exact trivial | refine ⟨by rfl, ?_⟩ | refine ⟨by simp [setL], ?_⟩)) (by rfl) (by rfl) (by rfl) (by rfl) ?_
      refine X.un (by rfl) (by rfl) (by rfl) ?_
      refine X.nil ?_
      refine R.cond (by rfl) (fun hc13 => ?_) (fun hc13 => ?_)
      · replace h := condT hc13 h
        refine Run.seq ?_
        refine Run.reg ?_
        refine X.assign (by rfl) (by rfl) ?_
        refine X.nil ?_
        cases h
        have h := hup2
        replace h := elimR h
        cases h
        refine R.fin1 Try.results187 (by rfl) (by rfl) ?_
        rfl
      · replace h := condF hc13 h
        refine Run.skip ?_
        refine Run.blk ?_
        refine Run.reg ?_
        refine X.add (by rfl) (by rfl) (by omega) (by rfl) ?_
        refine X.move (by rfl) (by rfl) ?_
        refine X.nil ?_
        exact hag7 (n7 - 1) (z8 + 1) _ _ (by omega) ⟨by first | omega | (dsimp only; omega), by first | omega | (dsimp only; omega), by first | (rw [hds7]; exact h) | (dsimp only; rw [hds7]; exact h)⟩ (by repeat (first | exact trivial | refine ⟨by rfl, ?_⟩ | refine ⟨by simp [setL], ?_⟩)) (by repeat (first | exact trivial | refine ⟨by rfl, ?_⟩ | refine ⟨by simp [setL], ?_⟩)) (by rfl) (by rfl)
    · rw [drop_endI hza7 hc11] at h
      rw [s_Overlap_L1] at h
      refine Run.exit (by rfl) ?_
      exact hmeet3 () _ _ (Option.some.inj h) (by repeat (first | exact trivial | refine ⟨by rfl, ?_⟩ | refine ⟨by simp [setL], ?_⟩)) (by repeat (first | exact trivial | refine ⟨by rfl, ?_⟩ | refine ⟨by simp [setL], ?_⟩)) (by rfl) (by rfl)
  rintro p14 rfl
  replace h := elimL h
  refine Run.seq ?_
  refine Run.seq ?_
  refine Run.reg ?_
  refine X.move (by rfl) (by rfl) ?_
  refine X.bin (by rfl) (by rfl) (by rfl) (by rfl) (by intro h; cases h) (by rfl) ?_
  refine X.nil ?_
  refine R.cond (by rfl) (fun hc16 => ?_) (fun hc16 => ?_)
  · replace h := condT hc16 h
    refine Run.seq ?_
    refine Run.reg ?_
    refine X.assign (by rfl) (by rfl) ?_
    refine X.nil ?_
    cases h
    refine R.fin1 Try.results187 (by rfl) (by rfl) ?_
    rfl
  · replace h := condF hc16 h
    refine Run.skip ?_
    refine Run.seq ?_
    refine Run.reg ?_
    refine X.move (by rfl) (by rfl) ?_
    refine X.move (by rfl) (by rfl) ?_
    refine X.addW (by rfl) (by rfl) (by rfl) ?_
    refine X.move (by rfl) (by rfl) ?_
    obtain ⟨v17, hv17, h⟩ := bindE h
    refine X.callP (s_l02Min_pc _ _ _ hv17) (by rfl) (by rfl) (by rfl) (by repeat (first | exact trivial | refine ⟨by rfl, ?_⟩ | refine ⟨by simp [setL], ?_⟩)) (by rfl) (by rfl) (by rfl) (by rfl) ?_
    refine X.move (by rfl) (by rfl) ?_
    refine X.move (by rfl) (by rfl) ?_
    obtain ⟨v18, hv18, h⟩ := bindE h
    refine X.callP (s_l02Max_pc _ _ _ hv18) (by rfl) (by rfl) (by rfl) (by repeat (first | exact trivial | refine ⟨by rfl, ?_⟩ | refine ⟨by simp [setL], ?_⟩)) (by rfl) (by rfl) (by rfl) (by rfl) ?_
    refine X.subW (by rfl) (by rfl) (by rfl) ?_
    obtain ⟨v19, hv19, h⟩ := bindE h
    refine X.callP (s_l02Max_pc _ _ _ hv19) (by rfl) (by rfl) (by rfl) (by repeat (first | exact trivial | refine ⟨by rfl, ?_⟩ | refine ⟨by simp [setL], ?_⟩)) (by rfl) (by rfl) (by rfl) (by rfl) ?_
    refine X.assign (by rfl) (by rfl) ?_
    refine X.nil ?_
    cases h
    refine R.fin1 Try.results187 (by rfl) (by rfl) ?_
    rfl
theorem s_l15Work_pc (b0 : TProject) (b1 : TDomain) (b2 : Int) (b3 : Int) (b4 : Int) (b5 : Int) (r : Int) (h : s_l15Work b0 b1 b2 b3 b4 b5 = some r) : PC Try.prog 130 [eTProject b0, eTDomain b1, int b2, int b3, int b4, int b5] (int r) := by
  unfold s_l15Work at h
  refine PC.start Try.func130 Try.ntmps130 rfl ok130 rfl ?_
  refine Run.seq ?_
  refine Run.reg ?_
  refine X.box (by rfl) (by rfl) (by repeat (first | exact trivial | refine ⟨by rfl, ?_⟩ | refine ⟨by simp [setL], ?_⟩)) (by rfl) (by rfl) (by rfl) (by rfl) ?_
  refine X.box (by rfl) (by rfl) (by repeat (first | exact trivial | refine ⟨by rfl, ?_⟩ | refine ⟨by simp [setL], ?_⟩)) (by rfl) (by rfl) (by rfl) (by rfl) ?_
  refine X.assign (by rfl) (by rfl) ?_
  refine X.nil ?_
  refine Run.seq ?_
  refine Run.reg ?_
  refine X.assign (by rfl) (by rfl) ?_
  refine X.nil ?_
  refine Run.seq ?_
  refine Run.seq ?_
  refine Run.reg ?_
  refine X.fieldAddr_l fld71_2 (by rfl) (by rfl) ?_
  refine X.load_l shp63 (by rfl) (by rfl) (by rfl) (by rfl) (by rfl) (by rfl) ?_
  refine X.move (by rfl) (by rfl) ?_
  obtain ⟨v1, hv1, h⟩ := bindE h
  refine X.index_s elt63 (by rfl) (by rfl) (idxL_spec hv1).1 (idxL_map l_int hv1) (by rfl) (by rfl) (by rfl) ?_
  refine X.load_c shp25 (by rfl) (by rfl) (by rfl) (by rfl) ?_
  refine X.len_s elt25 (by rfl) (by exact List.length_map ..) (by rfl) ?_
  refine X.move (by rfl) (by rfl) ?_
  refine X.nil ?_
  obtain ⟨o2, ho2, h⟩ := bindE h
  refine R.join2 (β := Int) [] [] (fun p25 S => (13, int p25) :: S) (fun p25 M => M) (fun p25 => p25 = o2) ?_ ?_
  · intro JJ5 hmeet4
    have hup3 := h; clear h; have h := ho2; clear ho2
    refine Run.block ?_
    refine R.bndS (t := 22) (by rfl) (fun hbd8 => ?_)
    replace hbd8 : v1.length ≤ 9223372036854775807 := by first | (rw [List.length_map] at hbd8; exact hbd8) | simp
    refine R.loop2 (β := Int × Int) [(2, int b2), (3, int b3), (4, int b4), (5, int b5), (6, .lptr 384 0), (7, .lptr 448 0), (22, .slice (v1.map int)), (23, int (v1.length : Int))] [(384, .blk true [int b0.Deadline, .slice (b0.Activities.map eTActivity), .slice (b0.Links.map eTLink), .slice (b0.Resources.map eTResource), .slice (b0.Stocks.map int)]), (448, .blk true [.slice (b1.MinStart.map int), .slice (b1.MaxStart.map int), .slice (b1.Modes.map l_int)])] (fun bb S => (13, int bb.2) :: (24, int bb.1) :: S) (fun bb M => M) (fun n bb => 0 ≤ bb.1 ∧ bb.1 + n = (v1.length : Int) ∧ s_l15Work_L1 b0 b1 b2 b3 b4 b5 (v1.drop bb.1.toNat) bb.1 bb.2 = some o2) v1.length (0, (-1)) (by repeat (first | exact trivial | refine ⟨by rfl, ?_⟩ | refine ⟨by simp [setL], ?_⟩)) (by repeat (first | exact trivial | refine ⟨by rfl, ?_⟩ | refine ⟨by simp [setL], ?_⟩)) (by rfl) (by rfl) ⟨Int.le_refl _, by simp, h⟩ ?_
    clear h
    rintro JJ8 n8 ⟨z9, a10⟩ hag8 ⟨hza8, hzb8, h⟩
    dsimp only at hza8 hzb8 h
    refine Run.seq ?_
    refine Run.reg ?_
    refine X.bin (by rfl) (by rfl) (by rfl) (by rfl) (by intro h; cases h) (by rfl) ?_
    refine X.nil ?_
    refine Run.seq ?_
    refine R.cond (by rfl) (fun hc13 => ?_) (fun hc13 => ?_)
    · obtain ⟨x11, xs12, hd8, hx8, hds8, hlt8⟩ := drop_atI hza8 hc13
      rw [hd8] at h
      rw [s_l15Work_L1] at h
      refine Run.skip ?_
      refine Run.seq ?_
      refine Run.block ?_
      refine Run.seq ?_
      refine Run.reg ?_
      refine X.index_s elt25 (by rfl) (by rfl) (idxL_spec hx8).1 (idxL_map int hx8) (by rfl) (by rfl) (by rfl) ?_
      refine X.load_c shp3 (by rfl) (by rfl) (by rfl) (by rfl) ?_
      refine X.assign (by rfl) (by rfl) ?_
      refine X.nil ?_
      refine Run.seq ?_
      refine Run.reg ?_
      refine X.fieldAddr_l fld34_1 (by rfl) (by rfl) ?_
      refine X.load_l shp30 (by rfl) (by rfl) (by rfl) (by rfl) (by rfl) (by rfl) ?_
      refine X.move (by rfl) (by rfl) ?_
      obtain ⟨v14, hv14, h⟩ := bindE h
      refine X.index_s elt30 (by rfl) (by rfl) (idxL_spec hv14).1 (idxL_map eTActivity hv14) (by rfl) (by rfl) (by rfl) ?_
      refine X.fieldAddr_c fld127_2 (by rfl) (by rfl) ?_
      refine X.load_c shp125 (by rfl) (by rfl) (by rfl) (by rfl) ?_
      refine X.move (by rfl) (by rfl) ?_
      obtain ⟨v15, hv15, h⟩ := bindE h
      refine X.index_s elt125 (by rfl) (by rfl) (idxL_spec hv15).1 (idxL_map eTMode hv15) (by rfl) (by rfl) (by rfl) ?_
      refine X.load_c shp129 (by rfl) (by rfl) (by rfl) (by rfl) ?_
      refine X.alloc zer129 (by rfl) (by rfl) (by rfl) ?_
      refine X.store_l shp129 (by rfl) (by rfl) (by rfl) (by rfl) (by repeat (first | exact trivial | refine ⟨by rfl, ?_⟩ | refine ⟨by simp [setL], ?_⟩)) (by rfl) (by rfl) (by rfl) ?_
      refine X.nil ?_
      refine Run.seq ?_
      refine Run.draw (footOf [(1, ([1024], [])), (6, ([448], [])), (11, ([1024], [])), (16, ([448], [])), (21, ([1024], []))]) mixed (by kernel_rfl) (by kernel_rfl) ?_
      refine X.fieldAddr_l fld129_1 (by rfl) (by rfl) ?_
      refine X.load_l shp25 (by rfl) (by rfl) (by rfl) (by rfl) (by rfl) (by rfl) ?_
      refine X.move (by rfl) (by rfl) ?_
      obtain ⟨v16, hv16, h⟩ := bindE h
      refine X.index_s elt25 (by rfl) (by rfl) (idxL_spec hv16).1 (idxL_map int hv16) (by rfl) (by rfl) (by rfl) ?_
      refine X.load_c shp3 (by rfl) (by rfl) (by rfl) (by rfl) ?_
      refine X.fieldAddr_l fld71_0 (by rfl) (by rfl) ?_
      refine X.load_l shp25 (by rfl) (by rfl) (by rfl) (by rfl) (by rfl) (by rfl) ?_
      refine X.move (by rfl) (by rfl) ?_
      obtain ⟨v17, hv17, h⟩ := bindE h
      refine X.index_s elt25 (by rfl) (by rfl) (idxL_spec hv17).1 (idxL_map int hv17) (by rfl) (by rfl) (by rfl) ?_
      refine X.load_c shp3 (by rfl) (by rfl) (by rfl) (by rfl) ?_
      refine X.fieldAddr_l fld129_0 (by rfl) (by rfl) ?_
      refine X.load_l shp3 (by rfl) (by rfl) (by rfl) (by rfl) (by rfl) (by rfl) ?_
      refine X.move (by rfl) (by rfl) ?_
      refine X.move (by rfl) (by rfl) ?_
      obtain ⟨v18, hv18, h⟩ := bindE h
      refine X.callP (s_Overlap_pc _ _ _ _ _ hv18) (by rfl) (by rfl) (by rfl) (by repeat (first | exact trivial | refine ⟨by rfl, ?_⟩ | refine ⟨by simp [setL], ?_⟩)) (by rfl) (by rfl) (by rfl) (by rfl) ?_
      refine X.fieldAddr_l fld71_1 (by rfl) (by rfl) ?_
      refine X.load_l shp25 (by rfl) (by rfl) (by rfl) (by rfl) (by rfl) (by rfl) ?_
      refine X.move (by rfl) (by rfl) ?_
      obtain ⟨v19, hv19, h⟩ := bindE h
      refine X.index_s elt25 (by rfl) (by rfl) (idxL_spec hv19).1 (idxL_map int hv19) (by rfl) (by rfl) (by rfl) ?_
      refine X.load_c shp3 (by rfl) (by rfl) (by rfl) (by rfl) ?_
      refine X.fieldAddr_l fld129_0 (by rfl) (by rfl) ?_
      refine X.load_l shp3 (by rfl) (by rfl) (by rfl) (by rfl) (by rfl) (by rfl) ?_
      refine X.move (by rfl) (by rfl) ?_
      refine X.move (by rfl) (by rfl) ?_
      obtain ⟨v20, hv20, h⟩ := bindE h
      refine X.callP (s_Overlap_pc _ _ _ _ _ hv20) (by rfl) (by rfl) (by rfl) (by repeat (first | exact trivial | refine ⟨by rfl, ?_⟩ | refine ⟨by simp [setL], ?_⟩)) (by rfl) (by rfl) (by rfl) (by rfl) ?_
      obtain ⟨v21, hv21, h⟩ := bindE h
      refine X.callP (s_l02Min_pc _ _ _ hv21) (by rfl) (by rfl) (by rfl) (by repeat (first | exact trivial | refine ⟨by rfl, ?_⟩ | refine ⟨by simp [setL], ?_⟩)) (by rfl) (by rfl) (by rfl) (by rfl) ?_
      refine X.mulW (by rfl) (by rfl) (by rfl) ?_
      refine X.assign (by rfl) (by rfl) ?_
      refine X.nil ?_
      refine Run.seq ?_
      obtain ⟨e22, he22, h2⟩ := bindE h
      refine R.regG [(2, int b2), (3, int b3), (4, int b4), (5, int b5), (6, .lptr 384 0), (7, .lptr 448 0), (13, int a10), (17, int (W (v16 * v21))), (22, .slice (v1.map int)), (23, int (v1.length : Int)), (24, int z9), (70, bool e22)] [(384, .blk true [int b0.Deadline, .slice (b0.Activities.map eTActivity), .slice (b0.Links.map eTLink), .slice (b0.Resources.map eTResource), .slice (b0.Stocks.map int)]), (448, .blk true [.slice (b1.MinStart.map int), .slice (b1.MaxStart.map int), .slice (b1.Modes.map l_int)])] ?_ ?_
      · clear h; have h := he22; clear he22 h2
        refine X.move (by rfl) (by rfl) ?_
        refine X.bin (by rfl) (by rfl) (by rfl) (by rfl) (by intro h; cases h) (by rfl) ?_
        refine X.move (by rfl) (by rfl) ?_
        refine X.ifG (by rfl) (by rfl) (by rfl) (fun hb23 => ?_) (fun hb23 => ?_)
        · replace h := condF hb23 h
          refine X.move (by rfl) (by rfl) ?_
          refine X.gyes (by rfl) (by rfl) (by first | rfl | assumption | simp_all) ?_
          refine X.move (by rfl) (by rfl) ?_
          refine X.gyes (by rfl) (by rfl) (by first | rfl | assumption | simp_all) ?_
          refine X.bin (by rfl) (by rfl) (by rfl) (by rfl) (by intro h; cases h) (by rfl) ?_
          refine X.pickF (by rfl) (by first | rfl | assumption | simp_all) (by rfl) (by rfl) ?_
          cases h
          exact X.endG (by repeat (first | exact trivial | refine ⟨by rfl, ?_⟩ | refine ⟨by simp [setL], ?_⟩)) (by repeat (first | exact trivial | refine ⟨by rfl, ?_⟩ | refine ⟨by simp [setL], ?_⟩)) (by rfl) (by rfl)
        · replace h := condT hb23 h
          refine X.gno (by rfl) (by rfl) (by first | rfl | assumption | simp_all) (by rfl) ?_
          refine X.gno (by rfl) (by rfl) (by first | rfl | assumption | simp_all) (by rfl) ?_
          refine X.pickT (by rfl) (by first | rfl | assumption | simp_all) (by rfl) (by rfl) ?_
          cases h
          exact X.endG (by repeat (first | exact trivial | refine ⟨by rfl, ?_⟩ | refine ⟨by simp [setL], ?_⟩)) (by repeat (first | exact trivial | refine ⟨by rfl, ?_⟩ | refine ⟨by simp [setL], ?_⟩)) (by rfl) (by rfl)
      replace h := h2; clear h2
      refine R.cond (by rfl) (fun hc24 => ?_) (fun hc24 => ?_)
      · replace h := condT hc24 h
        refine Run.reg ?_
        refine X.move (by rfl) (by rfl) ?_
        refine X.assign (by rfl) (by rfl) ?_
        refine X.nil ?_
        refine Run.blk ?_
        refine Run.reg ?_
        refine X.add (by rfl) (by rfl) (by omega) (by rfl) ?_
        refine X.move (by rfl) (by rfl) ?_
        refine X.nil ?_
        exact hag8 (n8 - 1) (z9 + 1, (W (v16 * v21))) _ _ (by omega) ⟨by first | omega | (dsimp only; omega), by first | omega | (dsimp only; omega), by first | (rw [hds8]; exact h) | (dsimp only; rw [hds8]; exact h)⟩ (by repeat (first | exact trivial | refine ⟨by rfl, ?_⟩ | refine ⟨by simp [setL], ?_⟩)) (by repeat (first | exact trivial | refine ⟨by rfl, ?_⟩ | refine ⟨by simp [setL], ?_⟩)) (by rfl) (by rfl)
      · replace h := condF hc24 h
        refine Run.skip ?_
        refine Run.blk ?_
        refine Run.reg ?_
        refine X.add (by rfl) (by rfl) (by omega) (by rfl) ?_
        refine X.move (by rfl) (by rfl) ?_
        refine X.nil ?_
        exact hag8 (n8 - 1) (z9 + 1, a10) _ _ (by omega) ⟨by first | omega | (dsimp only; omega), by first | omega | (dsimp only; omega), by first | (rw [hds8]; exact h) | (dsimp only; rw [hds8]; exact h)⟩ (by repeat (first | exact trivial | refine ⟨by rfl, ?_⟩ | refine ⟨by simp [setL], ?_⟩)) (by repeat (first | exact trivial | refine ⟨by rfl, ?_⟩ | refine ⟨by simp [setL], ?_⟩)) (by rfl) (by rfl)
    · rw [drop_endI hza8 hc13] at h
      rw [s_l15Work_L1] at h
      refine Run.exit (by rfl) ?_
      exact hmeet4 a10 _ _ (Option.some.inj h) (by repeat (first | exact trivial | refine ⟨by rfl, ?_⟩ | refine ⟨by simp [setL], ?_⟩)) (by repeat (first | exact trivial | refine ⟨by rfl, ?_⟩ | refine ⟨by simp [setL], ?_⟩)) (by rfl) (by rfl)
  rintro p25 rfl
  refine Run.seq ?_
  refine Run.reg ?_
  refine X.move (by rfl) (by rfl) ?_
  obtain ⟨v26, hv26, h⟩ := bindE h
  refine X.callP (s_l02Max_pc _ _ _ hv26) (by rfl) (by rfl) (by rfl) (by repeat (first | exact trivial | refine ⟨by rfl, ?_⟩ | refine ⟨by simp [setL], ?_⟩)) (by rfl) (by rfl) (by rfl) (by rfl) ?_
  refine X.assign (by rfl) (by rfl) ?_
  refine X.nil ?_
  cases h
  refine R.fin1 Try.results130 (by rfl) (by rfl) ?_
  rfl
theorem i_Overlap_pc (b0 : Int) (b1 : Int) (b2 : Int) (b3 : Int) (r : Int) (h : i_Overlap b0 b1 b2 b3 = some r) : PC Try.prog 188 [int b0, int b1, int b2, int b3] (int r) := by
  unfold i_Overlap at h
  refine PC.start Try.func188 Try.ntmps188 rfl ok188 rfl ?_
  refine Run.seq ?_
  refine Run.reg ?_
  refine X.assign (by rfl) (by rfl) ?_
  refine X.nil ?_
  refine Run.seq ?_
  refine Run.seq ?_
  refine Run.reg ?_
  refine X.move (by rfl) (by rfl) ?_
  refine X.move (by rfl) (by rfl) ?_
  refine X.move (by rfl) (by rfl) ?_
  refine X.move (by rfl) (by rfl) ?_
  refine X.buildSlice false elt25 zer3 (by rfl) (by rfl) (by rfl) (by rfl) (by rfl) (by rfl) (by repeat (first | exact trivial | refine ⟨by rfl, ?_⟩ | refine ⟨by simp [setL], ?_⟩)) (allSz_spec (by rfl)) (by rfl) (by rfl) (by rfl) ?_
  refine X.len_o elt25 (by rfl) (by rfl) (by first | rfl | simp [setL] | omega) (by first | exact List.length_map .. | rfl) (by rfl) (by rfl) ?_
  refine X.move (by rfl) (by rfl) ?_
  refine X.nil ?_
  obtain ⟨o1, ho1, h⟩ := bindE h
  refine R.join2 (β := Unit) [(0, int b0), (1, int b1), (2, int b2), (3, int b3)] [] (fun p14 S => S) (fun p14 M => M) (fun p14 => (Sum.inl p14) = o1) ?_ ?_
  · intro JJ4 hmeet3
    have hup2 := h; clear h; have h := ho1; clear ho1
    refine Run.block ?_
    refine R.bndO (n := 960) (by rfl) (fun hbd7 => ?_)
    replace hbd7 : ([b0, b1, b2, b3] : List Int).length ≤ 9223372036854775807 := by first | (rw [List.length_map] at hbd7; exact hbd7) | simp
    refine R.loop2 (β := Int) [(0, int b0), (1, int b1), (2, int b2), (3, int b3), (16, int (([b0, b1, b2, b3] : List Int).length : Int))] [(960, .obj false 3 1 (([b0, b1, b2, b3] : List Int).map int))] (fun bb S => (15, .own 960 (([b0, b1, b2, b3] : List Int).map int).length) :: (17, int bb) :: S) (fun bb M => M) (fun n bb => 0 ≤ bb ∧ bb + n = (([b0, b1, b2, b3] : List Int).length : Int) ∧ i_Overlap_L1 (([b0, b1, b2, b3] : List Int).drop bb.toNat) bb = some o1) ([b0, b1, b2, b3] : List Int).length (0 : Int) (by repeat (first | exact trivial | refine ⟨by rfl, ?_⟩ | refine ⟨by simp [setL], ?_⟩)) (by repeat (first | exact trivial | refine ⟨by rfl, ?_⟩ | refine ⟨by simp [setL], ?_⟩)) (by rfl) (by rfl) ⟨Int.le_refl _, by simp, h⟩ ?_
    clear h
    rintro JJ7 n7 z8 hag7 ⟨hza7, hzb7, h⟩
    refine Run.seq ?_
    refine Run.reg ?_
    refine X.bin (by rfl) (by rfl) (by rfl) (by rfl) (by intro h; cases h) (by rfl) ?_
    refine X.nil ?_
    refine Run.seq ?_
    refine R.cond (by rfl) (fun hc11 => ?_) (fun hc11 => ?_)
    · obtain ⟨x9, xs10, hd7, hx7, hds7, hlt7⟩ := drop_atI hza7 hc11
      rw [hd7] at h
      rw [i_Overlap_L1] at h
      refine Run.skip ?_
      refine Run.seq ?_
      refine Run.block ?_
      refine Run.seq ?_
      refine Run.reg ?_
      refine X.index_o elt25 (by rfl) (by rfl) (by first | rfl | simp [setL] | omega) (by rfl) (idxL_spec hx7).1 (idxL_map int hx7) (by rfl) (by rfl) (by rfl) ?_
      refine X.load_c shp3 (by rfl) (by rfl) (by rfl) (by rfl) ?_
      refine X.assign (by rfl) (by rfl) ?_
      refine X.nil ?_
      refine Run.seq ?_
      refine Run.reg ?_
      refine X.move (by rfl) (by rfl) ?_
      obtain ⟨v12, hv12, h⟩ := bindE h
      refine X.callP (i_within_pc _ _ _ _ hv12) (by rfl) (by rfl) (by rfl) (by repeat (first | exact trivial | refine ⟨by rfl, ?_⟩ | refine ⟨by simp [setL], ?_⟩)) (by rfl) (by rfl) (by rfl) (by rfl) ?_
      refine X.un (by rfl) (by rfl) (by rfl) ?_
      refine X.nil ?_
      refine R.cond (by rfl) (fun hc13 => ?_) (fun hc13 => ?_)
      · replace h := condT hc13 h
        refine Run.seq ?_
        refine Run.reg ?_
        refine X.assign (by rfl) (by rfl) ?_
        refine X.nil ?_
        cases h
        have h := hup2
        replace h := elimR h
        cases h
        refine R.fin1 Try.results188 (by rfl) (by rfl) ?_
        rfl
      · replace h := condF hc13 h
        refine Run.skip ?_
        refine Run.blk ?_
        refine Run.reg ?_
        refine X.add (by rfl) (by rfl) (by omega) (by rfl) ?_
        refine X.move (by rfl) (by rfl) ?_
        refine X.nil ?_
        exact hag7 (n7 - 1) (z8 + 1) _ _ (by omega) ⟨by first | omega | (dsimp only; omega), by first | omega | (dsimp only; omega), by first | (rw [hds7]; exact h) | (dsimp only; rw [hds7]; exact h)⟩ (by repeat (first | exact trivial | refine ⟨by rfl, ?_⟩ | refine ⟨by simp [setL], ?_⟩)) (by repeat (first | exact trivial | refine ⟨by rfl, ?_⟩ | refine ⟨by simp [setL], ?_⟩)) (by rfl) (by rfl)
    · rw [drop_endI hza7 hc11] at h
      rw [i_Overlap_L1] at h
      refine Run.exit (by rfl) ?_
      exact hmeet3 () _ _ (Option.some.inj h) (by repeat (first | exact trivial | refine ⟨by rfl, ?_⟩ | refine ⟨by simp [setL], ?_⟩)) (by repeat (first | exact trivial | refine ⟨by rfl, ?_⟩ | refine ⟨by simp [setL], ?_⟩)) (by rfl) (by rfl)
  rintro p14 rfl
  replace h := elimL h
  refine Run.seq ?_
  refine Run.seq ?_
  refine Run.reg ?_
  refine X.move (by rfl) (by rfl) ?_
  refine X.bin (by rfl) (by rfl) (by rfl) (by rfl) (by intro h; cases h) (by rfl) ?_
  refine X.nil ?_
  refine R.cond (by rfl) (fun hc16 => ?_) (fun hc16 => ?_)
  · replace h := condT hc16 h
    refine Run.seq ?_
    refine Run.reg ?_
    refine X.assign (by rfl) (by rfl) ?_
    refine X.nil ?_
    cases h
    refine R.fin1 Try.results188 (by rfl) (by rfl) ?_
    rfl
  · replace h := condF hc16 h
    refine Run.skip ?_
    refine Run.seq ?_
    refine Run.reg ?_
    refine X.move (by rfl) (by rfl) ?_
    refine X.move (by rfl) (by rfl) ?_
    refine X.addW (by rfl) (by rfl) (by rfl) ?_
    refine X.move (by rfl) (by rfl) ?_
    refine X.min2 (by rfl) (by rfl) (by rfl) ?_
    refine X.move (by rfl) (by rfl) ?_
    refine X.move (by rfl) (by rfl) ?_
    refine X.max2 (by rfl) (by rfl) (by rfl) ?_
    refine X.subW (by rfl) (by rfl) (by rfl) ?_
    refine X.max2 (by rfl) (by rfl) (by rfl) ?_
    refine X.assign (by rfl) (by rfl) ?_
    refine X.nil ?_
    cases h
    refine R.fin1 Try.results188 (by rfl) (by rfl) ?_
    rfl
theorem i_Project_minWork_pc (b0 : TProject) (b1 : TDomain) (b2 : Int) (b3 : Int) (b4 : Int) (b5 : Int) (r : Int) (h : i_Project_minWork b0 b1 b2 b3 b4 b5 = some r) : PC Try.prog 131 [eTProject b0, eTDomain b1, int b2, int b3, int b4, int b5] (int r) := by
  unfold i_Project_minWork at h
  refine PC.start Try.func131 Try.ntmps131 rfl ok131 rfl ?_
  refine Run.seq ?_
  refine Run.reg ?_
  refine X.box (by rfl) (by rfl) (by repeat (first | exact trivial | refine ⟨by rfl, ?_⟩ | refine ⟨by simp [setL], ?_⟩)) (by rfl) (by rfl) (by rfl) (by rfl) ?_
  refine X.box (by rfl) (by rfl) (by repeat (first | exact trivial | refine ⟨by rfl, ?_⟩ | refine ⟨by simp [setL], ?_⟩)) (by rfl) (by rfl) (by rfl) (by rfl) ?_
  refine X.assign (by rfl) (by rfl) ?_
  refine X.nil ?_
  refine Run.seq ?_
  refine Run.reg ?_
  refine X.assign (by rfl) (by rfl) ?_
  refine X.assign (by rfl) (by rfl) ?_
  refine X.nil ?_
  refine Run.seq ?_
  refine Run.seq ?_
  refine Run.reg ?_
  refine X.fieldAddr_l fld71_2 (by rfl) (by rfl) ?_
  refine X.load_l shp63 (by rfl) (by rfl) (by rfl) (by rfl) (by rfl) (by rfl) ?_
  refine X.move (by rfl) (by rfl) ?_
  obtain ⟨v1, hv1, h⟩ := bindE h
  refine X.index_s elt63 (by rfl) (by rfl) (idxL_spec hv1).1 (idxL_map l_int hv1) (by rfl) (by rfl) (by rfl) ?_
  refine X.load_c shp25 (by rfl) (by rfl) (by rfl) (by rfl) ?_
  refine X.len_s elt25 (by rfl) (by exact List.length_map ..) (by rfl) ?_
  refine X.move (by rfl) (by rfl) ?_
  refine X.nil ?_
  obtain ⟨o2, ho2, h⟩ := bindE h
  refine R.join2 (β := Int) [] [] (fun p25 S => (13, int p25) :: S) (fun p25 M => M) (fun p25 => p25 = o2) ?_ ?_
  · intro JJ5 hmeet4
    have hup3 := h; clear h; have h := ho2; clear ho2
    refine Run.block ?_
    refine R.bndS (t := 23) (by rfl) (fun hbd8 => ?_)
    replace hbd8 : v1.length ≤ 9223372036854775807 := by first | (rw [List.length_map] at hbd8; exact hbd8) | simp
    refine R.loop2 (β := Int × Int × Bool) [(2, int b2), (3, int b3), (4, int b4), (5, int b5), (6, .lptr 384 0), (7, .lptr 448 0), (23, .slice (v1.map int)), (24, int (v1.length : Int))] [(384, .blk true [int b0.Deadline, .slice (b0.Activities.map eTActivity), .slice (b0.Links.map eTLink), .slice (b0.Resources.map eTResource), .slice (b0.Stocks.map int)]), (448, .blk true [.slice (b1.MinStart.map int), .slice (b1.MaxStart.map int), .slice (b1.Modes.map l_int)])] (fun bb S => (13, int bb.2.1) :: (14, bool bb.2.2) :: (25, int bb.1) :: S) (fun bb M => M) (fun n bb => 0 ≤ bb.1 ∧ bb.1 + n = (v1.length : Int) ∧ i_Project_minWork_L1 b0 b1 b2 b3 b4 b5 (v1.drop bb.1.toNat) bb.1 bb.2.1 bb.2.2 = some o2) v1.length (0, 0, false) (by repeat (first | exact trivial | refine ⟨by rfl, ?_⟩ | refine ⟨by simp [setL], ?_⟩)) (by repeat (first | exact trivial | refine ⟨by rfl, ?_⟩ | refine ⟨by simp [setL], ?_⟩)) (by rfl) (by rfl) ⟨Int.le_refl _, by simp, h⟩ ?_
    clear h
    rintro JJ8 n8 ⟨z9, a10, a11⟩ hag8 ⟨hza8, hzb8, h⟩
    dsimp only at hza8 hzb8 h
    refine Run.seq ?_
    refine Run.reg ?_
    refine X.bin (by rfl) (by rfl) (by rfl) (by rfl) (by intro h; cases h) (by rfl) ?_
    refine X.nil ?_
    refine Run.seq ?_
    refine R.cond (by rfl) (fun hc14 => ?_) (fun hc14 => ?_)
    · obtain ⟨x12, xs13, hd8, hx8, hds8, hlt8⟩ := drop_atI hza8 hc14
      rw [hd8] at h
      rw [i_Project_minWork_L1] at h
      refine Run.skip ?_
      refine Run.seq ?_
      refine Run.block ?_
      refine Run.seq ?_
      refine Run.reg ?_
      refine X.index_s elt25 (by rfl) (by rfl) (idxL_spec hx8).1 (idxL_map int hx8) (by rfl) (by rfl) (by rfl) ?_
      refine X.load_c shp3 (by rfl) (by rfl) (by rfl) (by rfl) ?_
      refine X.assign (by rfl) (by rfl) ?_
      refine X.nil ?_
      refine Run.seq ?_
      refine Run.reg ?_
      refine X.fieldAddr_l fld34_1 (by rfl) (by rfl) ?_
      refine X.load_l shp30 (by rfl) (by rfl) (by rfl) (by rfl) (by rfl) (by rfl) ?_
      refine X.move (by rfl) (by rfl) ?_
      obtain ⟨v15, hv15, h⟩ := bindE h
      refine X.index_s elt30 (by rfl) (by rfl) (idxL_spec hv15).1 (idxL_map eTActivity hv15) (by rfl) (by rfl) (by rfl) ?_
      refine X.fieldAddr_c fld127_2 (by rfl) (by rfl) ?_
      refine X.load_c shp125 (by rfl) (by rfl) (by rfl) (by rfl) ?_
      refine X.move (by rfl) (by rfl) ?_
      obtain ⟨v16, hv16, h⟩ := bindE h
      refine X.index_s elt125 (by rfl) (by rfl) (idxL_spec hv16).1 (idxL_map eTMode hv16) (by rfl) (by rfl) (by rfl) ?_
      refine X.load_c shp129 (by rfl) (by rfl) (by rfl) (by rfl) ?_
      refine X.alloc zer129 (by rfl) (by rfl) (by rfl) ?_
      refine X.store_l shp129 (by rfl) (by rfl) (by rfl) (by rfl) (by repeat (first | exact trivial | refine ⟨by rfl, ?_⟩ | refine ⟨by simp [setL], ?_⟩)) (by rfl) (by rfl) (by rfl) ?_
      refine X.nil ?_
      refine Run.seq ?_
      refine Run.draw (footOf [(1, ([448], [])), (6, ([1088], [])), (11, ([448], [])), (16, ([1088], [])), (22, ([1088], []))]) mixed (by kernel_rfl) (by kernel_rfl) ?_
      refine X.fieldAddr_l fld71_0 (by rfl) (by rfl) ?_
      refine X.load_l shp25 (by rfl) (by rfl) (by rfl) (by rfl) (by rfl) (by rfl) ?_
      refine X.move (by rfl) (by rfl) ?_
      obtain ⟨v17, hv17, h⟩ := bindE h
      refine X.index_s elt25 (by rfl) (by rfl) (idxL_spec hv17).1 (idxL_map int hv17) (by rfl) (by rfl) (by rfl) ?_
      refine X.load_c shp3 (by rfl) (by rfl) (by rfl) (by rfl) ?_
      refine X.fieldAddr_l fld129_0 (by rfl) (by rfl) ?_
      refine X.load_l shp3 (by rfl) (by rfl) (by rfl) (by rfl) (by rfl) (by rfl) ?_
      refine X.move (by rfl) (by rfl) ?_
      refine X.move (by rfl) (by rfl) ?_
      obtain ⟨v18, hv18, h⟩ := bindE h
      refine X.callP (i_Overlap_pc _ _ _ _ _ hv18) (by rfl) (by rfl) (by rfl) (by repeat (first | exact trivial | refine ⟨by rfl, ?_⟩ | refine ⟨by simp [setL], ?_⟩)) (by rfl) (by rfl) (by rfl) (by rfl) ?_
      refine X.fieldAddr_l fld71_1 (by rfl) (by rfl) ?_
      refine X.load_l shp25 (by rfl) (by rfl) (by rfl) (by rfl) (by rfl) (by rfl) ?_
      refine X.move (by rfl) (by rfl) ?_
      obtain ⟨v19, hv19, h⟩ := bindE h
      refine X.index_s elt25 (by rfl) (by rfl) (idxL_spec hv19).1 (idxL_map int hv19) (by rfl) (by rfl) (by rfl) ?_
      refine X.load_c shp3 (by rfl) (by rfl) (by rfl) (by rfl) ?_
      refine X.fieldAddr_l fld129_0 (by rfl) (by rfl) ?_
      refine X.load_l shp3 (by rfl) (by rfl) (by rfl) (by rfl) (by rfl) (by rfl) ?_
      refine X.move (by rfl) (by rfl) ?_
      refine X.move (by rfl) (by rfl) ?_
      obtain ⟨v20, hv20, h⟩ := bindE h
      refine X.callP (i_Overlap_pc _ _ _ _ _ hv20) (by rfl) (by rfl) (by rfl) (by repeat (first | exact trivial | refine ⟨by rfl, ?_⟩ | refine ⟨by simp [setL], ?_⟩)) (by rfl) (by rfl) (by rfl) (by rfl) ?_
      refine X.min2 (by rfl) (by rfl) (by rfl) ?_
      refine X.fieldAddr_l fld129_1 (by rfl) (by rfl) ?_
      refine X.load_l shp25 (by rfl) (by rfl) (by rfl) (by rfl) (by rfl) (by rfl) ?_
      refine X.move (by rfl) (by rfl) ?_
      obtain ⟨v21, hv21, h⟩ := bindE h
      refine X.index_s elt25 (by rfl) (by rfl) (idxL_spec hv21).1 (idxL_map int hv21) (by rfl) (by rfl) (by rfl) ?_
      refine X.load_c shp3 (by rfl) (by rfl) (by rfl) (by rfl) ?_
      refine X.mulW (by rfl) (by rfl) (by rfl) ?_
      refine X.assign (by rfl) (by rfl) ?_
      refine X.nil ?_
      refine Run.seq ?_
      obtain ⟨e22, he22, h2⟩ := bindE h
      refine R.regG [(2, int b2), (3, int b3), (4, int b4), (5, int b5), (6, .lptr 384 0), (7, .lptr 448 0), (13, int a10), (14, bool a11), (18, int (W ((min v18 v20) * v21))), (23, .slice (v1.map int)), (24, int (v1.length : Int)), (25, int z9), (71, bool e22)] [(384, .blk true [int b0.Deadline, .slice (b0.Activities.map eTActivity), .slice (b0.Links.map eTLink), .slice (b0.Resources.map eTResource), .slice (b0.Stocks.map int)]), (448, .blk true [.slice (b1.MinStart.map int), .slice (b1.MaxStart.map int), .slice (b1.Modes.map l_int)])] ?_ ?_
      · clear h; have h := he22; clear he22 h2
        refine X.move (by rfl) (by rfl) ?_
        refine X.un (by rfl) (by rfl) (by rfl) ?_
        refine X.move (by rfl) (by rfl) ?_
        refine X.ifG (by rfl) (by rfl) (by rfl) (fun hb23 => ?_) (fun hb23 => ?_)
        · replace h := condF hb23 h
          refine X.move (by rfl) (by rfl) ?_
          refine X.gyes (by rfl) (by rfl) (by first | rfl | assumption | simp_all) ?_
          refine X.move (by rfl) (by rfl) ?_
          refine X.gyes (by rfl) (by rfl) (by first | rfl | assumption | simp_all) ?_
          refine X.bin (by rfl) (by rfl) (by rfl) (by rfl) (by intro h; cases h) (by rfl) ?_
          refine X.pickF (by rfl) (by first | rfl | assumption | simp_all) (by rfl) (by rfl) ?_
          cases h
          exact X.endG (by repeat (first | exact trivial | refine ⟨by rfl, ?_⟩ | refine ⟨by simp [setL], ?_⟩)) (by repeat (first | exact trivial | refine ⟨by rfl, ?_⟩ | refine ⟨by simp [setL], ?_⟩)) (by rfl) (by rfl)
        · replace h := condT hb23 h
          refine X.gno (by rfl) (by rfl) (by first | rfl | assumption | simp_all) (by rfl) ?_
          refine X.gno (by rfl) (by rfl) (by first | rfl | assumption | simp_all) (by rfl) ?_
          refine X.pickT (by rfl) (by first | rfl | assumption | simp_all) (by rfl) (by rfl) ?_
          cases h
          exact X.endG (by repeat (first | exact trivial | refine ⟨by rfl, ?_⟩ | refine ⟨by simp [setL], ?_⟩)) (by repeat (first | exact trivial | refine ⟨by rfl, ?_⟩ | refine ⟨by simp [setL], ?_⟩)) (by rfl) (by rfl)
      replace h := h2; clear h2
      refine R.cond (by rfl) (fun hc24 => ?_) (fun hc24 => ?_)
      · replace h := condT hc24 h
        refine Run.reg ?_
        refine X.move (by rfl) (by rfl) ?_
        refine X.assign (by rfl) (by rfl) ?_
        refine X.assign (by rfl) (by rfl) ?_
        refine X.nil ?_
        refine Run.blk ?_
        refine Run.reg ?_
        refine X.add (by rfl) (by rfl) (by omega) (by rfl) ?_
        refine X.move (by rfl) (by rfl) ?_
        refine X.nil ?_
        exact hag8 (n8 - 1) (z9 + 1, (W ((min v18 v20) * v21)), true) _ _ (by omega) ⟨by first | omega | (dsimp only; omega), by first | omega | (dsimp only; omega), by first | (rw [hds8]; exact h) | (dsimp only; rw [hds8]; exact h)⟩ (by repeat (first | exact trivial | refine ⟨by rfl, ?_⟩ | refine ⟨by simp [setL], ?_⟩)) (by repeat (first | exact trivial | refine ⟨by rfl, ?_⟩ | refine ⟨by simp [setL], ?_⟩)) (by rfl) (by rfl)
      · replace h := condF hc24 h
        refine Run.skip ?_
        refine Run.blk ?_
        refine Run.reg ?_
        refine X.add (by rfl) (by rfl) (by omega) (by rfl) ?_
        refine X.move (by rfl) (by rfl) ?_
        refine X.nil ?_
        exact hag8 (n8 - 1) (z9 + 1, a10, a11) _ _ (by omega) ⟨by first | omega | (dsimp only; omega), by first | omega | (dsimp only; omega), by first | (rw [hds8]; exact h) | (dsimp only; rw [hds8]; exact h)⟩ (by repeat (first | exact trivial | refine ⟨by rfl, ?_⟩ | refine ⟨by simp [setL], ?_⟩)) (by repeat (first | exact trivial | refine ⟨by rfl, ?_⟩ | refine ⟨by simp [setL], ?_⟩)) (by rfl) (by rfl)
    · rw [drop_endI hza8 hc14] at h
      rw [i_Project_minWork_L1] at h
      refine Run.exit (by rfl) ?_
      exact hmeet4 a10 _ _ (Option.some.inj h) (by repeat (first | exact trivial | refine ⟨by rfl, ?_⟩ | refine ⟨by simp [setL], ?_⟩)) (by repeat (first | exact trivial | refine ⟨by rfl, ?_⟩ | refine ⟨by simp [setL], ?_⟩)) (by rfl) (by rfl)
  rintro p25 rfl
  refine Run.seq ?_
  refine Run.reg ?_
  refine X.move (by rfl) (by rfl) ?_
  refine X.assign (by rfl) (by rfl) ?_
  refine X.nil ?_
  cases h
  refine R.fin1 Try.results131 (by rfl) (by rfl) ?_
  rfl
end Go.Px.Ytjncefleglnnjaa
