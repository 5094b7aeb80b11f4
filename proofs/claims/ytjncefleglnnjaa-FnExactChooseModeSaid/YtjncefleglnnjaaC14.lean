/-
  PROVED: contracts of functions of the program over pure values. No condition beyond those that each theorem names.
-/
import Derived.Test.YtjncefleglnnjaaProg
import Derived.Test.YtjncefleglnnjaaD1
import Derived.Test.YtjncefleglnnjaaC1
import Derived.Test.YtjncefleglnnjaaC2
import Derived.Test.YtjncefleglnnjaaC7
namespace Go.Px.Ytjncefleglnnjaa
set_option linter.unusedSimpArgs false
set_option linter.unusedVariables false
open Go.Px Go.Proofs
theorem ok82 : okFn Try.prog 82 = true := by kernel_rfl
theorem ok21 : okFn Try.prog 21 = true := by kernel_rfl
theorem ok84 : okFn Try.prog 84 = true := by kernel_rfl
theorem ok22 : okFn Try.prog 22 = true := by kernel_rfl
theorem ok4 : okFn Try.prog 4 = true := by kernel_rfl
theorem s_ClampedSum_pc (b0 : List Int) (r : Int) (h : s_ClampedSum b0 = some r) : PC Try.prog 82 [.slice (b0.map int)] (int r) := by
  unfold s_ClampedSum at h
  refine PC.start Try.func82 Try.ntmps82 rfl ok82 rfl ?_
  refine Run.seq ?_
  refine Run.reg ?_
  refine X.assign (by rfl) (by rfl) ?_
  refine X.nil ?_
  refine Run.seq ?_
  refine Run.reg ?_
  refine X.assign (by rfl) (by rfl) ?_
  refine X.nil ?_
  refine Run.seq ?_
  refine Run.seq ?_
  refine Run.reg ?_
  refine X.move (by rfl) (by rfl) ?_
  refine X.len_s elt25 (by rfl) (by exact List.length_map ..) (by rfl) ?_
  refine X.move (by rfl) (by rfl) ?_
  refine X.nil ?_
  obtain ⟨o1, ho1, h⟩ := bindE h
  refine R.join2 (β := Int) [] [] (fun p15 S => (3, int p15) :: S) (fun p15 M => M) (fun p15 => p15 = o1) ?_ ?_
  · intro JJ4 hmeet3
    have hup2 := h; clear h; have h := ho1; clear ho1
    refine Run.block ?_
    refine R.bndS (t := 0) (by rfl) (fun hbd7 => ?_)
    replace hbd7 : b0.length ≤ 9223372036854775807 := by first | (rw [List.length_map] at hbd7; exact hbd7) | simp
    refine R.loop2 (β := Int × Int) [(6, .slice (b0.map int)), (7, int (b0.length : Int))] [] (fun bb S => (3, int bb.2) :: (8, int bb.1) :: S) (fun bb M => M) (fun n bb => 0 ≤ bb.1 ∧ bb.1 + n = (b0.length : Int) ∧ s_ClampedSum_L1 (b0.drop bb.1.toNat) bb.1 bb.2 = some o1) b0.length (0, 0) (by repeat (first | exact trivial | refine ⟨by rfl, ?_⟩ | refine ⟨by simp [setL], ?_⟩)) (by repeat (first | exact trivial | refine ⟨by rfl, ?_⟩ | refine ⟨by simp [setL], ?_⟩)) (by rfl) (by rfl) ⟨Int.le_refl _, by simp, h⟩ ?_
    clear h
    rintro JJ7 n7 ⟨z8, a9⟩ hag7 ⟨hza7, hzb7, h⟩
    dsimp only at hza7 hzb7 h
    refine Run.seq ?_
    refine Run.reg ?_
    refine X.bin (by rfl) (by rfl) (by rfl) (by rfl) (by intro h; cases h) (by rfl) ?_
    refine X.nil ?_
    refine Run.seq ?_
    refine R.cond (by rfl) (fun hc12 => ?_) (fun hc12 => ?_)
    · obtain ⟨x10, xs11, hd7, hx7, hds7, hlt7⟩ := drop_atI hza7 hc12
      rw [hd7] at h
      rw [s_ClampedSum_L1] at h
      refine Run.skip ?_
      refine Run.seq ?_
      refine Run.block ?_
      refine Run.seq ?_
      refine Run.reg ?_
      refine X.index_s elt25 (by rfl) (by rfl) (idxL_spec hx7).1 (idxL_map int hx7) (by rfl) (by rfl) (by rfl) ?_
      refine X.load_c shp3 (by rfl) (by rfl) (by rfl) (by rfl) ?_
      refine X.assign (by rfl) (by rfl) ?_
      refine X.nil ?_
      refine Run.reg ?_
      refine X.move (by rfl) (by rfl) ?_
      refine X.move (by rfl) (by rfl) ?_
      obtain ⟨v13, hv13, h⟩ := bindE h
      refine X.callP (s_l02Min_pc _ _ _ hv13) (by rfl) (by rfl) (by rfl) (by repeat (first | exact trivial | refine ⟨by rfl, ?_⟩ | refine ⟨by simp [setL], ?_⟩)) (by rfl) (by rfl) (by rfl) (by rfl) ?_
      obtain ⟨v14, hv14, h⟩ := bindE h
      refine X.callP (s_l02Max_pc _ _ _ hv14) (by rfl) (by rfl) (by rfl) (by repeat (first | exact trivial | refine ⟨by rfl, ?_⟩ | refine ⟨by simp [setL], ?_⟩)) (by rfl) (by rfl) (by rfl) (by rfl) ?_
      refine X.addW (by rfl) (by rfl) (by rfl) ?_
      refine X.assign (by rfl) (by rfl) ?_
      refine X.nil ?_
      refine Run.blk ?_
      refine Run.reg ?_
      refine X.add (by rfl) (by rfl) (by omega) (by rfl) ?_
      refine X.move (by rfl) (by rfl) ?_
      refine X.nil ?_
      exact hag7 (n7 - 1) (z8 + 1, (W (a9 + v14))) _ _ (by omega) ⟨by first | omega | (dsimp only; omega), by first | omega | (dsimp only; omega), by first | (rw [hds7]; exact h) | (dsimp only; rw [hds7]; exact h)⟩ (by repeat (first | exact trivial | refine ⟨by rfl, ?_⟩ | refine ⟨by simp [setL], ?_⟩)) (by repeat (first | exact trivial | refine ⟨by rfl, ?_⟩ | refine ⟨by simp [setL], ?_⟩)) (by rfl) (by rfl)
    · rw [drop_endI hza7 hc12] at h
      rw [s_ClampedSum_L1] at h
      refine Run.exit (by rfl) ?_
      exact hmeet3 a9 _ _ (Option.some.inj h) (by repeat (first | exact trivial | refine ⟨by rfl, ?_⟩ | refine ⟨by simp [setL], ?_⟩)) (by repeat (first | exact trivial | refine ⟨by rfl, ?_⟩ | refine ⟨by simp [setL], ?_⟩)) (by rfl) (by rfl)
  rintro p15 rfl
  refine Run.seq ?_
  refine Run.reg ?_
  refine X.move (by rfl) (by rfl) ?_
  refine X.assign (by rfl) (by rfl) ?_
  refine X.nil ?_
  cases h
  refine R.fin1 Try.results82 (by rfl) (by rfl) ?_
  rfl
theorem s_ChooseMode_pc (b0 : TProject) (b1 : Int) (b2 : Bool) (r : Int) (h : s_ChooseMode b0 b1 b2 = some r) : PC Try.prog 21 [eTProject b0, int b1, bool b2] (int r) := by
  unfold s_ChooseMode at h
  refine PC.start Try.func21 Try.ntmps21 rfl ok21 rfl ?_
  refine Run.seq ?_
  refine Run.reg ?_
  refine X.box (by rfl) (by rfl) (by repeat (first | exact trivial | refine ⟨by rfl, ?_⟩ | refine ⟨by simp [setL], ?_⟩)) (by rfl) (by rfl) (by rfl) (by rfl) ?_
  refine X.assign (by rfl) (by rfl) ?_
  refine X.nil ?_
  refine Run.seq ?_
  refine Run.seq ?_
  obtain ⟨v1, hv1, h⟩ := bindE h
  obtain ⟨e2, he2, h2⟩ := bindE h
  refine R.regG [(1, int b1), (2, bool b2), (3, .lptr 192 0), (22, bool e2)] [(192, .blk true [int b0.Deadline, .slice (b0.Activities.map eTActivity), .slice (b0.Links.map eTLink), .slice (b0.Resources.map eTResource), .slice (b0.Stocks.map int)])] ?_ ?_
  · clear h; have h := he2; clear he2 h2
    refine X.load_l shp34 (by rfl) (by rfl) (by rfl) (by rfl) (by rfl) (by rfl) ?_
    refine X.callP (s_ProjectOk_pc _ _ hv1) (by rfl) (by rfl) (by rfl) (by repeat (first | exact trivial | refine ⟨by rfl, ?_⟩ | refine ⟨by simp [setL], ?_⟩)) (by rfl) (by rfl) (by rfl) (by rfl) ?_
    refine X.un (by rfl) (by rfl) (by rfl) ?_
    refine X.move (by rfl) (by rfl) ?_
    refine X.ifG (by rfl) (by rfl) (by rfl) (fun hb3 => ?_) (fun hb3 => ?_)
    · replace h := condF hb3 h
      refine X.move (by rfl) (by rfl) ?_
      refine X.gyes (by rfl) (by rfl) (by first | rfl | assumption | simp_all) ?_
      refine X.fieldAddr_l fld34_1 (by rfl) (by rfl) ?_
      refine X.gyes (by rfl) (by rfl) (by first | rfl | assumption | simp_all) ?_
      refine X.load_l shp30 (by rfl) (by rfl) (by rfl) (by rfl) (by rfl) (by rfl) ?_
      refine X.gyes (by rfl) (by rfl) (by first | rfl | assumption | simp_all) ?_
      refine X.len_s elt30 (by rfl) (by exact List.length_map ..) (by rfl) ?_
      refine X.gyes (by rfl) (by rfl) (by first | rfl | assumption | simp_all) ?_
      refine X.subW (by rfl) (by rfl) (by rfl) ?_
      refine X.gyes (by rfl) (by rfl) (by first | rfl | assumption | simp_all) ?_
      obtain ⟨v4, hv4, h⟩ := bindE h
      refine X.callP (s_l01In_pc _ _ _ _ hv4) (by rfl) (by rfl) (by rfl) (by repeat (first | exact trivial | refine ⟨by rfl, ?_⟩ | refine ⟨by simp [setL], ?_⟩)) (by rfl) (by rfl) (by rfl) (by rfl) ?_
      refine X.gyes (by rfl) (by rfl) (by first | rfl | assumption | simp_all) ?_
      refine X.un (by rfl) (by rfl) (by rfl) ?_
      refine X.pickF (by rfl) (by first | rfl | assumption | simp_all) (by rfl) (by rfl) ?_
      cases h
      exact X.endG (by repeat (first | exact trivial | refine ⟨by rfl, ?_⟩ | refine ⟨by simp [setL], ?_⟩)) (by repeat (first | exact trivial | refine ⟨by rfl, ?_⟩ | refine ⟨by simp [setL], ?_⟩)) (by rfl) (by rfl)
    · replace h := condT hb3 h
      refine X.gno (by rfl) (by rfl) (by first | rfl | assumption | simp_all) (by rfl) ?_
      refine X.gno (by rfl) (by rfl) (by first | rfl | assumption | simp_all) (by rfl) ?_
      refine X.gno (by rfl) (by rfl) (by first | rfl | assumption | simp_all) (by rfl) ?_
      refine X.gno (by rfl) (by rfl) (by first | rfl | assumption | simp_all) (by rfl) ?_
      refine X.gno (by rfl) (by rfl) (by first | rfl | assumption | simp_all) (by rfl) ?_
      refine X.gno (by rfl) (by rfl) (by first | rfl | assumption | simp_all) (by rfl) ?_
      refine X.pickT (by rfl) (by first | rfl | assumption | simp_all) (by rfl) (by rfl) ?_
      cases h
      exact X.endG (by repeat (first | exact trivial | refine ⟨by rfl, ?_⟩ | refine ⟨by simp [setL], ?_⟩)) (by repeat (first | exact trivial | refine ⟨by rfl, ?_⟩ | refine ⟨by simp [setL], ?_⟩)) (by rfl) (by rfl)
  replace h := h2; clear h2
  refine R.cond (by rfl) (fun hc5 => ?_) (fun hc5 => ?_)
  · replace h := condT hc5 h
    refine Run.seq ?_
    refine Run.reg ?_
    refine X.assign (by rfl) (by rfl) ?_
    refine X.nil ?_
    cases h
    refine R.fin1 Try.results21 (by rfl) (by rfl) ?_
    rfl
  · replace h := condF hc5 h
    refine Run.skip ?_
    refine Run.seq ?_
    refine Run.reg ?_
    refine X.assign (by rfl) (by rfl) ?_
    refine X.nil ?_
    refine Run.seq ?_
    refine Run.seq ?_
    refine Run.reg ?_
    refine X.fieldAddr_l fld34_1 (by rfl) (by rfl) ?_
    refine X.load_l shp30 (by rfl) (by rfl) (by rfl) (by rfl) (by rfl) (by rfl) ?_
    refine X.move (by rfl) (by rfl) ?_
    obtain ⟨v6, hv6, h⟩ := bindE h
    refine X.index_s elt30 (by rfl) (by rfl) (idxL_spec hv6).1 (idxL_map eTActivity hv6) (by rfl) (by rfl) (by rfl) ?_
    refine X.fieldAddr_c fld127_2 (by rfl) (by rfl) ?_
    refine X.load_c shp125 (by rfl) (by rfl) (by rfl) (by rfl) ?_
    refine X.len_s elt125 (by rfl) (by exact List.length_map ..) (by rfl) ?_
    refine X.move (by rfl) (by rfl) ?_
    refine X.nil ?_
    obtain ⟨o7, ho7, h⟩ := bindE h
    refine R.join2 (β := Int) [] [] (fun p28 S => (7, int p28) :: S) (fun p28 M => M) (fun p28 => p28 = o7) ?_ ?_
    · intro JJ10 hmeet9
      have hup8 := h; clear h; have h := ho7; clear ho7
      refine Run.block ?_
      refine R.bndS (t := 28) (by rfl) (fun hbd13 => ?_)
      replace hbd13 : v6.Modes.length ≤ 9223372036854775807 := by first | (rw [List.length_map] at hbd13; exact hbd13) | simp
      refine R.loop2 (β := Int × Int) [(1, int b1), (2, bool b2), (3, .lptr 192 0), (28, .slice (v6.Modes.map eTMode)), (29, int (v6.Modes.length : Int))] [(192, .blk true [int b0.Deadline, .slice (b0.Activities.map eTActivity), .slice (b0.Links.map eTLink), .slice (b0.Resources.map eTResource), .slice (b0.Stocks.map int)])] (fun bb S => (7, int bb.2) :: (30, int bb.1) :: S) (fun bb M => M) (fun n bb => 0 ≤ bb.1 ∧ bb.1 + n = (v6.Modes.length : Int) ∧ s_ChooseMode_L1 b2 v6 (v6.Modes.drop bb.1.toNat) bb.1 bb.2 = some o7) v6.Modes.length (0, 0) (by repeat (first | exact trivial | refine ⟨by rfl, ?_⟩ | refine ⟨by simp [setL], ?_⟩)) (by repeat (first | exact trivial | refine ⟨by rfl, ?_⟩ | refine ⟨by simp [setL], ?_⟩)) (by rfl) (by rfl) ⟨Int.le_refl _, by simp, h⟩ ?_
      clear h
      rintro JJ13 n13 ⟨z14, a15⟩ hag13 ⟨hza13, hzb13, h⟩
      dsimp only at hza13 hzb13 h
      refine Run.seq ?_
      refine Run.reg ?_
      refine X.bin (by rfl) (by rfl) (by rfl) (by rfl) (by intro h; cases h) (by rfl) ?_
      refine X.nil ?_
      refine Run.seq ?_
      refine R.cond (by rfl) (fun hc18 => ?_) (fun hc18 => ?_)
      · obtain ⟨x16, xs17, hd13, hx13, hds13, hlt13⟩ := drop_atI hza13 hc18
        rw [hd13] at h
        rw [s_ChooseMode_L1] at h
        refine Run.skip ?_
        refine Run.seq ?_
        refine Run.block ?_
        refine Run.seq ?_
        refine Run.reg ?_
        refine X.move (by rfl) (by rfl) ?_
        refine X.index_s elt125 (by rfl) (by rfl) (idxL_spec hx13).1 (idxL_map eTMode hx13) (by rfl) (by rfl) (by rfl) ?_
        refine X.load_c shp129 (by rfl) (by rfl) (by rfl) (by rfl) ?_
        refine X.alloc zer129 (by rfl) (by rfl) (by rfl) ?_
        refine X.assign (by rfl) (by rfl) ?_
        refine X.store_l shp129 (by rfl) (by rfl) (by rfl) (by rfl) (by repeat (first | exact trivial | refine ⟨by rfl, ?_⟩ | refine ⟨by simp [setL], ?_⟩)) (by rfl) (by rfl) (by rfl) ?_
        refine X.nil ?_
        refine Run.seq ?_
        refine Run.reg ?_
        refine X.fieldAddr_l fld34_1 (by rfl) (by rfl) ?_
        refine X.load_l shp30 (by rfl) (by rfl) (by rfl) (by rfl) (by rfl) (by rfl) ?_
        refine X.move (by rfl) (by rfl) ?_
        refine X.index_s elt30 (by rfl) (by rfl) (idxL_spec hv6).1 (idxL_map eTActivity hv6) (by rfl) (by rfl) (by rfl) ?_
        refine X.fieldAddr_c fld127_2 (by rfl) (by rfl) ?_
        refine X.load_c shp125 (by rfl) (by rfl) (by rfl) (by rfl) ?_
        refine X.move (by rfl) (by rfl) ?_
        obtain ⟨v19, hv19, h⟩ := bindE h
        refine X.index_s elt125 (by rfl) (by rfl) (idxL_spec hv19).1 (idxL_map eTMode hv19) (by rfl) (by rfl) (by rfl) ?_
        refine X.load_c shp129 (by rfl) (by rfl) (by rfl) (by rfl) ?_
        refine X.alloc zer129 (by rfl) (by rfl) (by rfl) ?_
        refine X.store_l shp129 (by rfl) (by rfl) (by rfl) (by rfl) (by repeat (first | exact trivial | refine ⟨by rfl, ?_⟩ | refine ⟨by simp [setL], ?_⟩)) (by rfl) (by rfl) (by rfl) ?_
        refine X.nil ?_
        refine Run.seq ?_
        obtain ⟨e20, he20, h2⟩ := bindE h
        refine R.drawG [(1, int b1), (2, bool b2), (3, .lptr 192 0), (7, int a15), (8, int z14), (28, .slice (v6.Modes.map eTMode)), (29, int (v6.Modes.length : Int)), (30, int z14), (72, bool e20)] [(192, .blk true [int b0.Deadline, .slice (b0.Activities.map eTActivity), .slice (b0.Links.map eTLink), .slice (b0.Resources.map eTResource), .slice (b0.Stocks.map int)])] (footOf [(3, ([576], [])), (6, ([576], [])), (10, ([640], [])), (13, ([640], [])), (23, ([576], [])), (25, ([640], []))]) mixed (by kernel_rfl) (by kernel_rfl) ?_ ?_
        · clear h; have h := he20; clear he20 h2
          refine X.move (by rfl) (by rfl) ?_
          refine X.move (by rfl) (by rfl) ?_
          refine X.ifG (by rfl) (by rfl) (by rfl) (fun hb21 => ?_) (fun hb21 => ?_)
          · replace h := condT hb21 h
            refine X.fieldAddr_l fld129_1 (by rfl) (by rfl) ?_
            refine X.gyes (by rfl) (by rfl) (by first | rfl | assumption | simp_all) ?_
            refine X.load_l shp25 (by rfl) (by rfl) (by rfl) (by rfl) (by rfl) (by rfl) ?_
            refine X.gyes (by rfl) (by rfl) (by first | rfl | assumption | simp_all) ?_
            obtain ⟨v22, hv22, h⟩ := bindE h
            refine X.callP (s_ClampedSum_pc _ _ hv22) (by rfl) (by rfl) (by rfl) (by repeat (first | exact trivial | refine ⟨by rfl, ?_⟩ | refine ⟨by simp [setL], ?_⟩)) (by rfl) (by rfl) (by rfl) (by rfl) ?_
            refine X.gyes (by rfl) (by rfl) (by first | rfl | assumption | simp_all) ?_
            refine X.fieldAddr_l fld129_2 (by rfl) (by rfl) ?_
            refine X.gyes (by rfl) (by rfl) (by first | rfl | assumption | simp_all) ?_
            refine X.load_l shp25 (by rfl) (by rfl) (by rfl) (by rfl) (by rfl) (by rfl) ?_
            refine X.gyes (by rfl) (by rfl) (by first | rfl | assumption | simp_all) ?_
            obtain ⟨v23, hv23, h⟩ := bindE h
            refine X.callP (s_ClampedSum_pc _ _ hv23) (by rfl) (by rfl) (by rfl) (by repeat (first | exact trivial | refine ⟨by rfl, ?_⟩ | refine ⟨by simp [setL], ?_⟩)) (by rfl) (by rfl) (by rfl) (by rfl) ?_
            refine X.gyes (by rfl) (by rfl) (by first | rfl | assumption | simp_all) ?_
            refine X.addW (by rfl) (by rfl) (by rfl) ?_
            refine X.gyes (by rfl) (by rfl) (by first | rfl | assumption | simp_all) ?_
            refine X.fieldAddr_l fld129_1 (by rfl) (by rfl) ?_
            refine X.gyes (by rfl) (by rfl) (by first | rfl | assumption | simp_all) ?_
            refine X.load_l shp25 (by rfl) (by rfl) (by rfl) (by rfl) (by rfl) (by rfl) ?_
            refine X.gyes (by rfl) (by rfl) (by first | rfl | assumption | simp_all) ?_
            obtain ⟨v24, hv24, h⟩ := bindE h
            refine X.callP (s_ClampedSum_pc _ _ hv24) (by rfl) (by rfl) (by rfl) (by repeat (first | exact trivial | refine ⟨by rfl, ?_⟩ | refine ⟨by simp [setL], ?_⟩)) (by rfl) (by rfl) (by rfl) (by rfl) ?_
            refine X.gyes (by rfl) (by rfl) (by first | rfl | assumption | simp_all) ?_
            refine X.fieldAddr_l fld129_2 (by rfl) (by rfl) ?_
            refine X.gyes (by rfl) (by rfl) (by first | rfl | assumption | simp_all) ?_
            refine X.load_l shp25 (by rfl) (by rfl) (by rfl) (by rfl) (by rfl) (by rfl) ?_
            refine X.gyes (by rfl) (by rfl) (by first | rfl | assumption | simp_all) ?_
            obtain ⟨v25, hv25, h⟩ := bindE h
            refine X.callP (s_ClampedSum_pc _ _ hv25) (by rfl) (by rfl) (by rfl) (by repeat (first | exact trivial | refine ⟨by rfl, ?_⟩ | refine ⟨by simp [setL], ?_⟩)) (by rfl) (by rfl) (by rfl) (by rfl) ?_
            refine X.gyes (by rfl) (by rfl) (by first | rfl | assumption | simp_all) ?_
            refine X.addW (by rfl) (by rfl) (by rfl) ?_
            refine X.gyes (by rfl) (by rfl) (by first | rfl | assumption | simp_all) ?_
            refine X.bin (by rfl) (by rfl) (by rfl) (by rfl) (by intro h; cases h) (by rfl) ?_
            refine X.pickT (by rfl) (by first | rfl | assumption | simp_all) (by rfl) (by rfl) ?_
            refine X.move (by rfl) (by rfl) ?_
            refine X.ifG (by rfl) (by rfl) (by rfl) (fun hb26 => ?_) (fun hb26 => ?_)
            · replace h := condF hb26 h
              refine X.move (by rfl) (by rfl) ?_
              refine X.gyes (by rfl) (by rfl) (by first | rfl | assumption | simp_all) ?_
              refine X.un (by rfl) (by rfl) (by rfl) ?_
              refine X.gyes (by rfl) (by rfl) (by first | rfl | assumption | simp_all) ?_
              refine X.move (by rfl) (by rfl) ?_
              refine X.gno (by rfl) (by rfl) (by first | rfl | assumption | simp_all) (by rfl) ?_
              refine X.gno (by rfl) (by rfl) (by first | rfl | assumption | simp_all) (by rfl) ?_
              refine X.gno (by rfl) (by rfl) (by first | rfl | assumption | simp_all) (by rfl) ?_
              refine X.gno (by rfl) (by rfl) (by first | rfl | assumption | simp_all) (by rfl) ?_
              refine X.gno (by rfl) (by rfl) (by first | rfl | assumption | simp_all) (by rfl) ?_
              refine X.gyes (by rfl) (by rfl) (by first | rfl | assumption | simp_all) ?_
              refine X.pickF (by rfl) (by first | rfl | assumption | simp_all) (by rfl) (by rfl) ?_
              refine X.pickF (by rfl) (by first | rfl | assumption | simp_all) (by rfl) (by rfl) ?_
              cases h
              exact X.endG (by repeat (first | exact trivial | refine ⟨by rfl, ?_⟩ | refine ⟨by simp [setL], ?_⟩)) (by repeat (first | exact trivial | refine ⟨by rfl, ?_⟩ | refine ⟨by simp [setL], ?_⟩)) (by rfl) (by rfl)
            · replace h := condT hb26 h
              refine X.gno (by rfl) (by rfl) (by first | rfl | assumption | simp_all) (by rfl) ?_
              refine X.gno (by rfl) (by rfl) (by first | rfl | assumption | simp_all) (by rfl) ?_
              refine X.gU (by rfl) (by rfl) (by rfl) ?_
              refine X.gU (by rfl) (by rfl) (by rfl) ?_
              refine X.gU (by rfl) (by rfl) (by rfl) ?_
              refine X.gU (by rfl) (by rfl) (by rfl) ?_
              refine X.gU (by rfl) (by rfl) (by rfl) ?_
              refine X.gno (by rfl) (by rfl) (by first | rfl | assumption | simp_all) (by rfl) ?_
              refine X.pickT (by rfl) (by first | rfl | assumption | simp_all) (by rfl) (by rfl) ?_
              cases h
              exact X.endG (by repeat (first | exact trivial | refine ⟨by rfl, ?_⟩ | refine ⟨by simp [setL], ?_⟩)) (by repeat (first | exact trivial | refine ⟨by rfl, ?_⟩ | refine ⟨by simp [setL], ?_⟩)) (by rfl) (by rfl)
          · replace h := condF hb21 h
            refine X.gno (by rfl) (by rfl) (by first | rfl | assumption | simp_all) (by rfl) ?_
            refine X.gno (by rfl) (by rfl) (by first | rfl | assumption | simp_all) (by rfl) ?_
            refine X.gno (by rfl) (by rfl) (by first | rfl | assumption | simp_all) (by rfl) ?_
            refine X.gno (by rfl) (by rfl) (by first | rfl | assumption | simp_all) (by rfl) ?_
            refine X.gno (by rfl) (by rfl) (by first | rfl | assumption | simp_all) (by rfl) ?_
            refine X.gno (by rfl) (by rfl) (by first | rfl | assumption | simp_all) (by rfl) ?_
            refine X.gno (by rfl) (by rfl) (by first | rfl | assumption | simp_all) (by rfl) ?_
            refine X.gno (by rfl) (by rfl) (by first | rfl | assumption | simp_all) (by rfl) ?_
            refine X.gno (by rfl) (by rfl) (by first | rfl | assumption | simp_all) (by rfl) ?_
            refine X.gno (by rfl) (by rfl) (by first | rfl | assumption | simp_all) (by rfl) ?_
            refine X.gno (by rfl) (by rfl) (by first | rfl | assumption | simp_all) (by rfl) ?_
            refine X.gno (by rfl) (by rfl) (by first | rfl | assumption | simp_all) (by rfl) ?_
            refine X.gno (by rfl) (by rfl) (by first | rfl | assumption | simp_all) (by rfl) ?_
            refine X.gno (by rfl) (by rfl) (by first | rfl | assumption | simp_all) (by rfl) ?_
            refine X.pickF (by rfl) (by first | rfl | assumption | simp_all) (by rfl) (by rfl) ?_
            refine X.move (by rfl) (by rfl) ?_
            refine X.gyes (by rfl) (by rfl) (by first | rfl | assumption | simp_all) ?_
            refine X.move (by rfl) (by rfl) ?_
            refine X.gyes (by rfl) (by rfl) (by first | rfl | assumption | simp_all) ?_
            refine X.un (by rfl) (by rfl) (by rfl) ?_
            refine X.gyes (by rfl) (by rfl) (by first | rfl | assumption | simp_all) ?_
            refine X.move (by rfl) (by rfl) ?_
            refine X.gyes (by rfl) (by rfl) (by first | rfl | assumption | simp_all) ?_
            refine X.fieldAddr_l fld129_0 (by rfl) (by rfl) ?_
            refine X.gyes (by rfl) (by rfl) (by first | rfl | assumption | simp_all) ?_
            refine X.load_l shp3 (by rfl) (by rfl) (by rfl) (by rfl) (by rfl) (by rfl) ?_
            refine X.gyes (by rfl) (by rfl) (by first | rfl | assumption | simp_all) ?_
            refine X.fieldAddr_l fld129_0 (by rfl) (by rfl) ?_
            refine X.gyes (by rfl) (by rfl) (by first | rfl | assumption | simp_all) ?_
            refine X.load_l shp3 (by rfl) (by rfl) (by rfl) (by rfl) (by rfl) (by rfl) ?_
            refine X.gyes (by rfl) (by rfl) (by first | rfl | assumption | simp_all) ?_
            refine X.bin (by rfl) (by rfl) (by rfl) (by rfl) (by intro h; cases h) (by rfl) ?_
            refine X.gyes (by rfl) (by rfl) (by first | rfl | assumption | simp_all) ?_
            refine X.pickT (by rfl) (by first | rfl | assumption | simp_all) (by rfl) (by rfl) ?_
            refine X.pickF (by rfl) (by first | rfl | assumption | simp_all) (by rfl) (by rfl) ?_
            cases h
            exact X.endG (by repeat (first | exact trivial | refine ⟨by rfl, ?_⟩ | refine ⟨by simp [setL], ?_⟩)) (by repeat (first | exact trivial | refine ⟨by rfl, ?_⟩ | refine ⟨by simp [setL], ?_⟩)) (by rfl) (by rfl)
        replace h := h2; clear h2
        refine R.cond (by rfl) (fun hc27 => ?_) (fun hc27 => ?_)
        · replace h := condT hc27 h
          refine Run.reg ?_
          refine X.move (by rfl) (by rfl) ?_
          refine X.assign (by rfl) (by rfl) ?_
          refine X.nil ?_
          refine Run.blk ?_
          refine Run.reg ?_
          refine X.add (by rfl) (by rfl) (by omega) (by rfl) ?_
          refine X.move (by rfl) (by rfl) ?_
          refine X.nil ?_
          exact hag13 (n13 - 1) (z14 + 1, z14) _ _ (by omega) ⟨by first | omega | (dsimp only; omega), by first | omega | (dsimp only; omega), by first | (rw [hds13]; exact h) | (dsimp only; rw [hds13]; exact h)⟩ (by repeat (first | exact trivial | refine ⟨by rfl, ?_⟩ | refine ⟨by simp [setL], ?_⟩)) (by repeat (first | exact trivial | refine ⟨by rfl, ?_⟩ | refine ⟨by simp [setL], ?_⟩)) (by rfl) (by rfl)
        · replace h := condF hc27 h
          refine Run.skip ?_
          refine Run.blk ?_
          refine Run.reg ?_
          refine X.add (by rfl) (by rfl) (by omega) (by rfl) ?_
          refine X.move (by rfl) (by rfl) ?_
          refine X.nil ?_
          exact hag13 (n13 - 1) (z14 + 1, a15) _ _ (by omega) ⟨by first | omega | (dsimp only; omega), by first | omega | (dsimp only; omega), by first | (rw [hds13]; exact h) | (dsimp only; rw [hds13]; exact h)⟩ (by repeat (first | exact trivial | refine ⟨by rfl, ?_⟩ | refine ⟨by simp [setL], ?_⟩)) (by repeat (first | exact trivial | refine ⟨by rfl, ?_⟩ | refine ⟨by simp [setL], ?_⟩)) (by rfl) (by rfl)
      · rw [drop_endI hza13 hc18] at h
        rw [s_ChooseMode_L1] at h
        refine Run.exit (by rfl) ?_
        exact hmeet9 a15 _ _ (Option.some.inj h) (by repeat (first | exact trivial | refine ⟨by rfl, ?_⟩ | refine ⟨by simp [setL], ?_⟩)) (by repeat (first | exact trivial | refine ⟨by rfl, ?_⟩ | refine ⟨by simp [setL], ?_⟩)) (by rfl) (by rfl)
    rintro p28 rfl
    refine Run.seq ?_
    refine Run.reg ?_
    refine X.move (by rfl) (by rfl) ?_
    refine X.assign (by rfl) (by rfl) ?_
    refine X.nil ?_
    cases h
    refine R.fin1 Try.results21 (by rfl) (by rfl) ?_
    rfl
theorem i_ClampedSum_pc (b0 : List Int) (r : Int) (h : i_ClampedSum b0 = some r) : PC Try.prog 84 [.slice (b0.map int)] (int r) := by
  unfold i_ClampedSum at h
  refine PC.start Try.func84 Try.ntmps84 rfl ok84 rfl ?_
  refine Run.seq ?_
  refine Run.reg ?_
  refine X.assign (by rfl) (by rfl) ?_
  refine X.nil ?_
  refine Run.seq ?_
  refine Run.reg ?_
  refine X.assign (by rfl) (by rfl) ?_
  refine X.nil ?_
  refine Run.seq ?_
  refine Run.seq ?_
  refine Run.reg ?_
  refine X.move (by rfl) (by rfl) ?_
  refine X.len_s elt25 (by rfl) (by exact List.length_map ..) (by rfl) ?_
  refine X.move (by rfl) (by rfl) ?_
  refine X.nil ?_
  obtain ⟨o1, ho1, h⟩ := bindE h
  refine R.join2 (β := Int) [] [] (fun p13 S => (3, int p13) :: S) (fun p13 M => M) (fun p13 => p13 = o1) ?_ ?_
  · intro JJ4 hmeet3
    have hup2 := h; clear h; have h := ho1; clear ho1
    refine Run.block ?_
    refine R.bndS (t := 0) (by rfl) (fun hbd7 => ?_)
    replace hbd7 : b0.length ≤ 9223372036854775807 := by first | (rw [List.length_map] at hbd7; exact hbd7) | simp
    refine R.loop2 (β := Int × Int) [(6, .slice (b0.map int)), (7, int (b0.length : Int))] [] (fun bb S => (3, int bb.2) :: (8, int bb.1) :: S) (fun bb M => M) (fun n bb => 0 ≤ bb.1 ∧ bb.1 + n = (b0.length : Int) ∧ i_ClampedSum_L1 (b0.drop bb.1.toNat) bb.1 bb.2 = some o1) b0.length (0, 0) (by repeat (first | exact trivial | refine ⟨by rfl, ?_⟩ | refine ⟨by simp [setL], ?_⟩)) (by repeat (first | exact trivial | refine ⟨by rfl, ?_⟩ | refine ⟨by simp [setL], ?_⟩)) (by rfl) (by rfl) ⟨Int.le_refl _, by simp, h⟩ ?_
    clear h
    rintro JJ7 n7 ⟨z8, a9⟩ hag7 ⟨hza7, hzb7, h⟩
    dsimp only at hza7 hzb7 h
    refine Run.seq ?_
    refine Run.reg ?_
    refine X.bin (by rfl) (by rfl) (by rfl) (by rfl) (by intro h; cases h) (by rfl) ?_
    refine X.nil ?_
    refine Run.seq ?_
    refine R.cond (by rfl) (fun hc12 => ?_) (fun hc12 => ?_)
    · obtain ⟨x10, xs11, hd7, hx7, hds7, hlt7⟩ := drop_atI hza7 hc12
      rw [hd7] at h
      rw [i_ClampedSum_L1] at h
      refine Run.skip ?_
      refine Run.seq ?_
      refine Run.block ?_
      refine Run.seq ?_
      refine Run.reg ?_
      refine X.index_s elt25 (by rfl) (by rfl) (idxL_spec hx7).1 (idxL_map int hx7) (by rfl) (by rfl) (by rfl) ?_
      refine X.load_c shp3 (by rfl) (by rfl) (by rfl) (by rfl) ?_
      refine X.assign (by rfl) (by rfl) ?_
      refine X.nil ?_
      refine Run.reg ?_
      refine X.move (by rfl) (by rfl) ?_
      refine X.move (by rfl) (by rfl) ?_
      refine X.max2 (by rfl) (by rfl) (by rfl) ?_
      refine X.min2 (by rfl) (by rfl) (by rfl) ?_
      refine X.addW (by rfl) (by rfl) (by rfl) ?_
      refine X.assign (by rfl) (by rfl) ?_
      refine X.nil ?_
      refine Run.blk ?_
      refine Run.reg ?_
      refine X.add (by rfl) (by rfl) (by omega) (by rfl) ?_
      refine X.move (by rfl) (by rfl) ?_
      refine X.nil ?_
      exact hag7 (n7 - 1) (z8 + 1, (W (a9 + (min (max x10 (-100000)) 100000)))) _ _ (by omega) ⟨by first | omega | (dsimp only; omega), by first | omega | (dsimp only; omega), by first | (rw [hds7]; exact h) | (dsimp only; rw [hds7]; exact h)⟩ (by repeat (first | exact trivial | refine ⟨by rfl, ?_⟩ | refine ⟨by simp [setL], ?_⟩)) (by repeat (first | exact trivial | refine ⟨by rfl, ?_⟩ | refine ⟨by simp [setL], ?_⟩)) (by rfl) (by rfl)
    · rw [drop_endI hza7 hc12] at h
      rw [i_ClampedSum_L1] at h
      refine Run.exit (by rfl) ?_
      exact hmeet3 a9 _ _ (Option.some.inj h) (by repeat (first | exact trivial | refine ⟨by rfl, ?_⟩ | refine ⟨by simp [setL], ?_⟩)) (by repeat (first | exact trivial | refine ⟨by rfl, ?_⟩ | refine ⟨by simp [setL], ?_⟩)) (by rfl) (by rfl)
  rintro p13 rfl
  refine Run.seq ?_
  refine Run.reg ?_
  refine X.move (by rfl) (by rfl) ?_
  refine X.assign (by rfl) (by rfl) ?_
  refine X.nil ?_
  cases h
  refine R.fin1 Try.results84 (by rfl) (by rfl) ?_
  rfl
theorem i_ChooseMode_pc (b0 : TProject) (b1 : Int) (b2 : Bool) (r : Int) (h : i_ChooseMode b0 b1 b2 = some r) : PC Try.prog 22 [eTProject b0, int b1, bool b2] (int r) := by
  unfold i_ChooseMode at h
  refine PC.start Try.func22 Try.ntmps22 rfl ok22 rfl ?_
  refine Run.seq ?_
  refine Run.reg ?_
  refine X.box (by rfl) (by rfl) (by repeat (first | exact trivial | refine ⟨by rfl, ?_⟩ | refine ⟨by simp [setL], ?_⟩)) (by rfl) (by rfl) (by rfl) (by rfl) ?_
  refine X.assign (by rfl) (by rfl) ?_
  refine X.nil ?_
  refine Run.seq ?_
  refine Run.seq ?_
  obtain ⟨v1, hv1, h⟩ := bindE h
  obtain ⟨e2, he2, h2⟩ := bindE h
  refine R.regG [(1, int b1), (2, bool b2), (3, .lptr 192 0), (20, bool e2)] [(192, .blk true [int b0.Deadline, .slice (b0.Activities.map eTActivity), .slice (b0.Links.map eTLink), .slice (b0.Resources.map eTResource), .slice (b0.Stocks.map int)])] ?_ ?_
  · clear h; have h := he2; clear he2 h2
    refine X.load_l shp34 (by rfl) (by rfl) (by rfl) (by rfl) (by rfl) (by rfl) ?_
    refine X.callP (i_ProjectOk_pc _ _ hv1) (by rfl) (by rfl) (by rfl) (by repeat (first | exact trivial | refine ⟨by rfl, ?_⟩ | refine ⟨by simp [setL], ?_⟩)) (by rfl) (by rfl) (by rfl) (by rfl) ?_
    refine X.un (by rfl) (by rfl) (by rfl) ?_
    refine X.move (by rfl) (by rfl) ?_
    refine X.ifG (by rfl) (by rfl) (by rfl) (fun hb3 => ?_) (fun hb3 => ?_)
    · replace h := condF hb3 h
      refine X.load_l shp34 (by rfl) (by rfl) (by rfl) (by rfl) (by rfl) (by rfl) ?_
      refine X.gyes (by rfl) (by rfl) (by first | rfl | assumption | simp_all) ?_
      refine X.move (by rfl) (by rfl) ?_
      refine X.gyes (by rfl) (by rfl) (by first | rfl | assumption | simp_all) ?_
      obtain ⟨v4, hv4, h⟩ := bindE h
      refine X.callP (i_Project_hasActivity_pc _ _ _ hv4) (by rfl) (by rfl) (by rfl) (by repeat (first | exact trivial | refine ⟨by rfl, ?_⟩ | refine ⟨by simp [setL], ?_⟩)) (by rfl) (by rfl) (by rfl) (by rfl) ?_
      refine X.gyes (by rfl) (by rfl) (by first | rfl | assumption | simp_all) ?_
      refine X.un (by rfl) (by rfl) (by rfl) ?_
      refine X.pickF (by rfl) (by first | rfl | assumption | simp_all) (by rfl) (by rfl) ?_
      cases h
      exact X.endG (by repeat (first | exact trivial | refine ⟨by rfl, ?_⟩ | refine ⟨by simp [setL], ?_⟩)) (by repeat (first | exact trivial | refine ⟨by rfl, ?_⟩ | refine ⟨by simp [setL], ?_⟩)) (by rfl) (by rfl)
    · replace h := condT hb3 h
      refine X.gno (by rfl) (by rfl) (by first | rfl | assumption | simp_all) (by rfl) ?_
      refine X.gno (by rfl) (by rfl) (by first | rfl | assumption | simp_all) (by rfl) ?_
      refine X.gno (by rfl) (by rfl) (by first | rfl | assumption | simp_all) (by rfl) ?_
      refine X.pickT (by rfl) (by first | rfl | assumption | simp_all) (by rfl) (by rfl) ?_
      cases h
      exact X.endG (by repeat (first | exact trivial | refine ⟨by rfl, ?_⟩ | refine ⟨by simp [setL], ?_⟩)) (by repeat (first | exact trivial | refine ⟨by rfl, ?_⟩ | refine ⟨by simp [setL], ?_⟩)) (by rfl) (by rfl)
  replace h := h2; clear h2
  refine R.cond (by rfl) (fun hc5 => ?_) (fun hc5 => ?_)
  · replace h := condT hc5 h
    refine Run.seq ?_
    refine Run.reg ?_
    refine X.assign (by rfl) (by rfl) ?_
    refine X.nil ?_
    cases h
    refine R.fin1 Try.results22 (by rfl) (by rfl) ?_
    rfl
  · replace h := condF hc5 h
    refine Run.skip ?_
    refine Run.seq ?_
    refine Run.reg ?_
    refine X.assign (by rfl) (by rfl) ?_
    refine X.assign (by rfl) (by rfl) ?_
    refine X.nil ?_
    refine Run.seq ?_
    refine Run.seq ?_
    refine Run.reg ?_
    refine X.fieldAddr_l fld34_1 (by rfl) (by rfl) ?_
    refine X.load_l shp30 (by rfl) (by rfl) (by rfl) (by rfl) (by rfl) (by rfl) ?_
    refine X.move (by rfl) (by rfl) ?_
    obtain ⟨v6, hv6, h⟩ := bindE h
    refine X.index_s elt30 (by rfl) (by rfl) (idxL_spec hv6).1 (idxL_map eTActivity hv6) (by rfl) (by rfl) (by rfl) ?_
    refine X.fieldAddr_c fld127_2 (by rfl) (by rfl) ?_
    refine X.load_c shp125 (by rfl) (by rfl) (by rfl) (by rfl) ?_
    refine X.len_s elt125 (by rfl) (by exact List.length_map ..) (by rfl) ?_
    refine X.move (by rfl) (by rfl) ?_
    refine X.nil ?_
    obtain ⟨o7, ho7, h⟩ := bindE h
    refine R.join2 (β := Int) [] [] (fun p31 S => (7, int p31) :: S) (fun p31 M => M) (fun p31 => p31 = o7) ?_ ?_
    · intro JJ10 hmeet9
      have hup8 := h; clear h; have h := ho7; clear ho7
      refine Run.block ?_
      refine R.bndS (t := 26) (by rfl) (fun hbd13 => ?_)
      replace hbd13 : v6.Modes.length ≤ 9223372036854775807 := by first | (rw [List.length_map] at hbd13; exact hbd13) | simp
      refine R.loop2 (β := Int × Int × Int) [(2, bool b2), (26, .slice (v6.Modes.map eTMode)), (27, int (v6.Modes.length : Int))] [] (fun bb S => (7, int bb.2.1) :: (8, int bb.2.2) :: (28, int bb.1) :: S) (fun bb M => M) (fun n bb => 0 ≤ bb.1 ∧ bb.1 + n = (v6.Modes.length : Int) ∧ i_ChooseMode_L1 b2 (v6.Modes.drop bb.1.toNat) bb.1 bb.2.1 bb.2.2 = some o7) v6.Modes.length (0, 0, 0) (by repeat (first | exact trivial | refine ⟨by rfl, ?_⟩ | refine ⟨by simp [setL], ?_⟩)) (by repeat (first | exact trivial | refine ⟨by rfl, ?_⟩ | refine ⟨by simp [setL], ?_⟩)) (by rfl) (by rfl) ⟨Int.le_refl _, by simp, h⟩ ?_
      clear h
      rintro JJ13 n13 ⟨z14, a15, a16⟩ hag13 ⟨hza13, hzb13, h⟩
      dsimp only at hza13 hzb13 h
      refine Run.seq ?_
      refine Run.reg ?_
      refine X.bin (by rfl) (by rfl) (by rfl) (by rfl) (by intro h; cases h) (by rfl) ?_
      refine X.nil ?_
      refine Run.seq ?_
      refine R.cond (by rfl) (fun hc19 => ?_) (fun hc19 => ?_)
      · obtain ⟨x17, xs18, hd13, hx13, hds13, hlt13⟩ := drop_atI hza13 hc19
        rw [hd13] at h
        rw [i_ChooseMode_L1] at h
        refine Run.skip ?_
        refine Run.seq ?_
        refine Run.block ?_
        refine Run.seq ?_
        refine Run.reg ?_
        refine X.move (by rfl) (by rfl) ?_
        refine X.index_s elt125 (by rfl) (by rfl) (idxL_spec hx13).1 (idxL_map eTMode hx13) (by rfl) (by rfl) (by rfl) ?_
        refine X.load_c shp129 (by rfl) (by rfl) (by rfl) (by rfl) ?_
        refine X.alloc zer129 (by rfl) (by rfl) (by rfl) ?_
        refine X.assign (by rfl) (by rfl) ?_
        refine X.store_l shp129 (by rfl) (by rfl) (by rfl) (by rfl) (by repeat (first | exact trivial | refine ⟨by rfl, ?_⟩ | refine ⟨by simp [setL], ?_⟩)) (by rfl) (by rfl) (by rfl) ?_
        refine X.nil ?_
        refine Run.seq ?_
        refine Run.reg ?_
        refine X.fieldAddr_l fld129_0 (by rfl) (by rfl) ?_
        refine X.load_l shp3 (by rfl) (by rfl) (by rfl) (by rfl) (by rfl) (by rfl) ?_
        refine X.assign (by rfl) (by rfl) ?_
        refine X.nil ?_
        refine Run.seq ?_
        refine Run.seq ?_
        refine Run.reg ?_
        refine X.move (by rfl) (by rfl) ?_
        refine X.nil ?_
        obtain ⟨o20, ho20, h⟩ := bindE h
        refine R.join2 (β := Int) [(2, bool b2), (7, int a15), (8, int a16), (9, int z14), (26, .slice (v6.Modes.map eTMode)), (27, int (v6.Modes.length : Int)), (28, int z14)] [] (fun p27 S => (11, int p27) :: S) (fun p27 M => M) (fun p27 => p27 = o20) ?_ ?_
        · intro JJ23 hmeet22
          have hup21 := h; clear h; have h := ho20; clear ho20
          refine R.cond (by rfl) (fun hc24 => ?_) (fun hc24 => ?_)
          · replace h := condT hc24 h
            refine Run.draw (footOf [(1, ([640], [])), (4, ([640], []))]) mixed (by kernel_rfl) (by kernel_rfl) ?_
            refine X.fieldAddr_l fld129_1 (by rfl) (by rfl) ?_
            refine X.load_l shp25 (by rfl) (by rfl) (by rfl) (by rfl) (by rfl) (by rfl) ?_
            obtain ⟨v25, hv25, h⟩ := bindE h
            refine X.callP (i_ClampedSum_pc _ _ hv25) (by rfl) (by rfl) (by rfl) (by repeat (first | exact trivial | refine ⟨by rfl, ?_⟩ | refine ⟨by simp [setL], ?_⟩)) (by rfl) (by rfl) (by rfl) (by rfl) ?_
            refine X.fieldAddr_l fld129_2 (by rfl) (by rfl) ?_
            refine X.load_l shp25 (by rfl) (by rfl) (by rfl) (by rfl) (by rfl) (by rfl) ?_
            obtain ⟨v26, hv26, h⟩ := bindE h
            refine X.callP (i_ClampedSum_pc _ _ hv26) (by rfl) (by rfl) (by rfl) (by repeat (first | exact trivial | refine ⟨by rfl, ?_⟩ | refine ⟨by simp [setL], ?_⟩)) (by rfl) (by rfl) (by rfl) (by rfl) ?_
            refine X.addW (by rfl) (by rfl) (by rfl) ?_
            refine X.assign (by rfl) (by rfl) ?_
            refine X.nil ?_
            exact hmeet22 (W (v25 + v26)) _ _ (Option.some.inj h) (by repeat (first | exact trivial | refine ⟨by rfl, ?_⟩ | refine ⟨by simp [setL], ?_⟩)) (by repeat (first | exact trivial | refine ⟨by rfl, ?_⟩ | refine ⟨by simp [setL], ?_⟩)) (by rfl) (by rfl)
          · replace h := condF hc24 h
            refine Run.skip ?_
            exact hmeet22 x17.Duration _ _ (Option.some.inj h) (by repeat (first | exact trivial | refine ⟨by rfl, ?_⟩ | refine ⟨by simp [setL], ?_⟩)) (by repeat (first | exact trivial | refine ⟨by rfl, ?_⟩ | refine ⟨by simp [setL], ?_⟩)) (by rfl) (by rfl)
        rintro p27 rfl
        refine Run.seq ?_
        obtain ⟨e28, he28, h2⟩ := bindE h
        refine R.regG [(2, bool b2), (7, int a15), (8, int a16), (9, int z14), (11, int p27), (26, .slice (v6.Modes.map eTMode)), (27, int (v6.Modes.length : Int)), (28, int z14), (49, bool e28)] [] ?_ ?_
        · clear h; have h := he28; clear he28 h2
          refine X.move (by rfl) (by rfl) ?_
          refine X.bin (by rfl) (by rfl) (by rfl) (by rfl) (by intro h; cases h) (by rfl) ?_
          refine X.move (by rfl) (by rfl) ?_
          refine X.ifG (by rfl) (by rfl) (by rfl) (fun hb29 => ?_) (fun hb29 => ?_)
          · replace h := condF hb29 h
            refine X.move (by rfl) (by rfl) ?_
            refine X.gyes (by rfl) (by rfl) (by first | rfl | assumption | simp_all) ?_
            refine X.move (by rfl) (by rfl) ?_
            refine X.gyes (by rfl) (by rfl) (by first | rfl | assumption | simp_all) ?_
            refine X.bin (by rfl) (by rfl) (by rfl) (by rfl) (by intro h; cases h) (by rfl) ?_
            refine X.pickF (by rfl) (by first | rfl | assumption | simp_all) (by rfl) (by rfl) ?_
            cases h
            exact X.endG (by repeat (first | exact trivial | refine ⟨by rfl, ?_⟩ | refine ⟨by simp [setL], ?_⟩)) (by repeat (first | exact trivial | refine ⟨by rfl, ?_⟩ | refine ⟨by simp [setL], ?_⟩)) (by rfl) (by rfl)
          · replace h := condT hb29 h
            refine X.gno (by rfl) (by rfl) (by first | rfl | assumption | simp_all) (by rfl) ?_
            refine X.gno (by rfl) (by rfl) (by first | rfl | assumption | simp_all) (by rfl) ?_
            refine X.pickT (by rfl) (by first | rfl | assumption | simp_all) (by rfl) (by rfl) ?_
            cases h
            exact X.endG (by repeat (first | exact trivial | refine ⟨by rfl, ?_⟩ | refine ⟨by simp [setL], ?_⟩)) (by repeat (first | exact trivial | refine ⟨by rfl, ?_⟩ | refine ⟨by simp [setL], ?_⟩)) (by rfl) (by rfl)
        replace h := h2; clear h2
        refine R.cond (by rfl) (fun hc30 => ?_) (fun hc30 => ?_)
        · replace h := condT hc30 h
          refine Run.reg ?_
          refine X.move (by rfl) (by rfl) ?_
          refine X.move (by rfl) (by rfl) ?_
          refine X.assign (by rfl) (by rfl) ?_
          refine X.assign (by rfl) (by rfl) ?_
          refine X.nil ?_
          refine Run.blk ?_
          refine Run.reg ?_
          refine X.add (by rfl) (by rfl) (by omega) (by rfl) ?_
          refine X.move (by rfl) (by rfl) ?_
          refine X.nil ?_
          exact hag13 (n13 - 1) (z14 + 1, z14, p27) _ _ (by omega) ⟨by first | omega | (dsimp only; omega), by first | omega | (dsimp only; omega), by first | (rw [hds13]; exact h) | (dsimp only; rw [hds13]; exact h)⟩ (by repeat (first | exact trivial | refine ⟨by rfl, ?_⟩ | refine ⟨by simp [setL], ?_⟩)) (by repeat (first | exact trivial | refine ⟨by rfl, ?_⟩ | refine ⟨by simp [setL], ?_⟩)) (by rfl) (by rfl)
        · replace h := condF hc30 h
          refine Run.skip ?_
          refine Run.blk ?_
          refine Run.reg ?_
          refine X.add (by rfl) (by rfl) (by omega) (by rfl) ?_
          refine X.move (by rfl) (by rfl) ?_
          refine X.nil ?_
          exact hag13 (n13 - 1) (z14 + 1, a15, a16) _ _ (by omega) ⟨by first | omega | (dsimp only; omega), by first | omega | (dsimp only; omega), by first | (rw [hds13]; exact h) | (dsimp only; rw [hds13]; exact h)⟩ (by repeat (first | exact trivial | refine ⟨by rfl, ?_⟩ | refine ⟨by simp [setL], ?_⟩)) (by repeat (first | exact trivial | refine ⟨by rfl, ?_⟩ | refine ⟨by simp [setL], ?_⟩)) (by rfl) (by rfl)
      · rw [drop_endI hza13 hc19] at h
        rw [i_ChooseMode_L1] at h
        refine Run.exit (by rfl) ?_
        exact hmeet9 a15 _ _ (Option.some.inj h) (by repeat (first | exact trivial | refine ⟨by rfl, ?_⟩ | refine ⟨by simp [setL], ?_⟩)) (by repeat (first | exact trivial | refine ⟨by rfl, ?_⟩ | refine ⟨by simp [setL], ?_⟩)) (by rfl) (by rfl)
    rintro p31 rfl
    refine Run.seq ?_
    refine Run.reg ?_
    refine X.move (by rfl) (by rfl) ?_
    refine X.assign (by rfl) (by rfl) ?_
    refine X.nil ?_
    cases h
    refine R.fin1 Try.results22 (by rfl) (by rfl) ?_
    rfl
theorem w_FnExactChooseMode_pc (b0 : TProject) (b1 : Int) (b2 : Bool) (r : Bool) (h : w_FnExactChooseMode b0 b1 b2 = some r) : PC Try.prog 4 [eTProject b0, int b1, bool b2] (bool r) := by
  unfold w_FnExactChooseMode at h
  refine PC.start Try.func4 Try.ntmps4 rfl ok4 rfl ?_
  refine Run.seq ?_
  refine Run.reg ?_
  refine X.box (by rfl) (by rfl) (by repeat (first | exact trivial | refine ⟨by rfl, ?_⟩ | refine ⟨by simp [setL], ?_⟩)) (by rfl) (by rfl) (by rfl) (by rfl) ?_
  refine X.assign (by rfl) (by rfl) ?_
  refine X.nil ?_
  refine Run.seq ?_
  refine Run.reg ?_
  refine X.assign (by rfl) (by rfl) ?_
  refine X.nil ?_
  refine Run.seq ?_
  refine Run.reg ?_
  refine X.load_l shp27 (by rfl) (by rfl) (by rfl) (by rfl) (by rfl) (by rfl) ?_
  refine X.move (by rfl) (by rfl) ?_
  obtain ⟨v1, hv1, h⟩ := bindE h
  refine X.callP (w_szProject_pc _ _ _ hv1) (by rfl) (by rfl) (by rfl) (by repeat (first | exact trivial | refine ⟨by rfl, ?_⟩ | refine ⟨by simp [setL], ?_⟩)) (by rfl) (by rfl) (by rfl) (by rfl) ?_
  refine X.assign (by rfl) (by rfl) ?_
  refine X.nil ?_
  refine Run.seq ?_
  refine Run.seq ?_
  refine Run.reg ?_
  refine X.move (by rfl) (by rfl) ?_
  refine X.bin (by rfl) (by rfl) (by rfl) (by rfl) (by intro h; cases h) (by rfl) ?_
  refine X.nil ?_
  refine R.cond (by rfl) (fun hc2 => ?_) (fun hc2 => ?_)
  · replace h := condT hc2 h
    refine Run.seq ?_
    refine Run.reg ?_
    refine X.assign (by rfl) (by rfl) ?_
    refine X.nil ?_
    cases h
    refine R.fin1 Try.results4 (by rfl) (by rfl) ?_
    rfl
  · replace h := condF hc2 h
    refine Run.skip ?_
    refine Run.seq ?_
    refine Run.reg ?_
    refine X.load_l shp27 (by rfl) (by rfl) (by rfl) (by rfl) (by rfl) (by rfl) ?_
    obtain ⟨v3, hv3, h⟩ := bindE h
    refine X.callA (w_toProject_pc _ _ hv3) (by rfl) (by rfl) (by rfl) (by repeat (first | exact trivial | refine ⟨by rfl, ?_⟩ | refine ⟨by simp [setL], ?_⟩)) (by rfl) (by rfl) (by rfl) (by rfl) (by rfl) (by rfl) ?_
    refine X.move (by rfl) (by rfl) ?_
    refine X.move (by rfl) (by rfl) ?_
    obtain ⟨v4, hv4, h⟩ := bindE h
    refine X.callP (s_ChooseMode_pc _ _ _ _ hv4) (by rfl) (by rfl) (by rfl) (by repeat (first | exact trivial | refine ⟨by rfl, ?_⟩ | refine ⟨by simp [setL], ?_⟩)) (by rfl) (by rfl) (by rfl) (by rfl) ?_
    refine X.assign (by rfl) (by rfl) ?_
    refine X.nil ?_
    refine Run.seq ?_
    refine Run.reg ?_
    refine X.load_l shp27 (by rfl) (by rfl) (by rfl) (by rfl) (by rfl) (by rfl) ?_
    obtain ⟨v5, hv5, h⟩ := bindE h
    refine X.callA (w_toProject_pc _ _ hv5) (by rfl) (by rfl) (by rfl) (by repeat (first | exact trivial | refine ⟨by rfl, ?_⟩ | refine ⟨by simp [setL], ?_⟩)) (by rfl) (by rfl) (by rfl) (by rfl) (by rfl) (by rfl) ?_
    refine X.alloc zer34 (by rfl) (by rfl) (by rfl) ?_
    refine X.store_l shp34 (by rfl) (by rfl) (by rfl) (by rfl) (by repeat (first | exact trivial | refine ⟨by rfl, ?_⟩ | refine ⟨by simp [setL], ?_⟩)) (by rfl) (by rfl) (by rfl) ?_
    refine X.nil ?_
    refine Run.seq ?_
    refine Run.reg ?_
    refine X.load_l shp34 (by rfl) (by rfl) (by rfl) (by rfl) (by rfl) (by rfl) ?_
    refine X.move (by rfl) (by rfl) ?_
    refine X.move (by rfl) (by rfl) ?_
    obtain ⟨v6, hv6, h⟩ := bindE h
    refine X.callP (i_ChooseMode_pc _ _ _ _ hv6) (by rfl) (by rfl) (by rfl) (by repeat (first | exact trivial | refine ⟨by rfl, ?_⟩ | refine ⟨by simp [setL], ?_⟩)) (by rfl) (by rfl) (by rfl) (by rfl) ?_
    refine X.assign (by rfl) (by rfl) ?_
    refine X.nil ?_
    refine Run.seq ?_
    refine Run.seq ?_
    refine Run.reg ?_
    refine X.move (by rfl) (by rfl) ?_
    refine X.move (by rfl) (by rfl) ?_
    refine X.bin (by rfl) (by rfl) (by rfl) (by rfl) (by intro h; cases h) (by rfl) ?_
    refine X.nil ?_
    refine R.cond (by rfl) (fun hc7 => ?_) (fun hc7 => ?_)
    · replace h := condT hc7 h
      refine Run.seq ?_
      refine Run.reg ?_
      refine X.assign (by rfl) (by rfl) ?_
      refine X.nil ?_
      cases h
      refine R.fin1 Try.results4 (by rfl) (by rfl) ?_
      rfl
    · replace h := condF hc7 h
      refine Run.skip ?_
      refine Run.seq ?_
      refine Run.seq ?_
      refine Run.draw (footOf [(0, ([576], [])), (1, ([192], [])), (2, ([], [2048, 2049, 2050, 2051])), (3, ([1408, 1409, 1410, 1411, 2048, 2049, 2050, 2051], []))]) mixed (by kernel_rfl) (by kernel_rfl) ?_
      refine X.load_l shp34 (by rfl) (by rfl) (by rfl) (by rfl) (by rfl) (by rfl) ?_
      refine X.load_l shp27 (by rfl) (by rfl) (by rfl) (by rfl) (by rfl) (by rfl) ?_
      obtain ⟨v8, hv8, h⟩ := bindE h
      refine X.callA (w_toProject_pc _ _ hv8) (by rfl) (by rfl) (by rfl) (by repeat (first | exact trivial | refine ⟨by rfl, ?_⟩ | refine ⟨by simp [setL], ?_⟩)) (by rfl) (by rfl) (by rfl) (by rfl) (by rfl) (by rfl) ?_
      obtain ⟨v9, hv9, h⟩ := bindE h
      refine X.callP (w_eqProject_pc _ _ _ hv9) (by rfl) (by rfl) (by rfl) (by repeat (first | exact trivial | refine ⟨by rfl, ?_⟩ | refine ⟨by simp [setL], ?_⟩)) (by rfl) (by rfl) (by rfl) (by rfl) ?_
      refine X.un (by rfl) (by rfl) (by rfl) ?_
      refine X.nil ?_
      refine R.cond (by rfl) (fun hc10 => ?_) (fun hc10 => ?_)
      · replace h := condT hc10 h
        refine Run.seq ?_
        refine Run.reg ?_
        refine X.assign (by rfl) (by rfl) ?_
        refine X.nil ?_
        cases h
        refine R.fin1 Try.results4 (by rfl) (by rfl) ?_
        rfl
      · replace h := condF hc10 h
        refine Run.skip ?_
        refine Run.seq ?_
        refine Run.reg ?_
        refine X.assign (by rfl) (by rfl) ?_
        refine X.nil ?_
        cases h
        refine R.fin1 Try.results4 (by rfl) (by rfl) ?_
        rfl
end Go.Px.Ytjncefleglnnjaa
