/-
  PROVED: contracts of functions of the program over pure values. No condition beyond those that each theorem names.
-/
import Derived.Test.YthdejnjjdihmfaaProg
import Derived.Test.YthdejnjjdihmfaaD
namespace Go.Px.Ythdejnjjdihmfaa
set_option linter.unusedSimpArgs false
set_option linter.unusedVariables false
open Go.Px Go.Proofs
theorem shp30 : shp Try.prog 30 = some (true, 3) := by kernel_rfl
theorem fld30_0 : fldOff Try.prog 30 0 = some 0 := by kernel_rfl
theorem shp28 : shp Try.prog 28 = some (true, 2) := by kernel_rfl
theorem fld28_0 : fldOff Try.prog 28 0 = some 0 := by kernel_rfl
theorem shp26 : shp Try.prog 26 = some (false, 1) := by kernel_rfl
theorem elt26 : eltOf Try.prog 26 = some (3, 1, 8) := by kernel_rfl
theorem ok39 : okFn Try.prog 39 = true := by kernel_rfl
theorem fld28_1 : fldOff Try.prog 28 1 = some 1 := by kernel_rfl
theorem ok38 : okFn Try.prog 38 = true := by kernel_rfl
theorem fld30_1 : fldOff Try.prog 30 1 = some 2 := by kernel_rfl
theorem ok15 : okFn Try.prog 15 = true := by kernel_rfl
theorem zer35 : zeroPV Try.prog 35 = some [.nils, .nils, .nils] := by kernel_rfl
theorem zer33 : zeroPV Try.prog 33 = some [.nils, .nils] := by kernel_rfl
theorem zer3 : zeroPV Try.prog 3 = some [.lit (.int .i64 0)] := by kernel_rfl
theorem shp3 : shp Try.prog 3 = some (false, 1) := by kernel_rfl
theorem ok43 : okFn Try.prog 43 = true := by kernel_rfl
theorem fld33_0 : fldOff Try.prog 33 0 = some 0 := by kernel_rfl
theorem fld33_1 : fldOff Try.prog 33 1 = some 1 := by kernel_rfl
theorem shp33 : shp Try.prog 33 = some (true, 2) := by kernel_rfl
theorem ok42 : okFn Try.prog 42 = true := by kernel_rfl
theorem fld35_0 : fldOff Try.prog 35 0 = some 0 := by kernel_rfl
theorem fld35_1 : fldOff Try.prog 35 1 = some 2 := by kernel_rfl
theorem shp35 : shp Try.prog 35 = some (true, 3) := by kernel_rfl
theorem ok17 : okFn Try.prog 17 = true := by kernel_rfl
theorem mixed : Try.prog.follows .mixedOrders = true := by kernel_rfl
theorem ok41 : okFn Try.prog 41 = true := by kernel_rfl
theorem ok40 : okFn Try.prog 40 = true := by kernel_rfl
theorem ok16 : okFn Try.prog 16 = true := by kernel_rfl
theorem ok45 : okFn Try.prog 45 = true := by kernel_rfl
theorem ok44 : okFn Try.prog 44 = true := by kernel_rfl
theorem ok18 : okFn Try.prog 18 = true := by kernel_rfl
theorem ok46 : okFn Try.prog 46 = true := by kernel_rfl
theorem ok29 : okFn Try.prog 29 = true := by kernel_rfl
theorem ok19 : okFn Try.prog 19 = true := by kernel_rfl
theorem ok6 : okFn Try.prog 6 = true := by kernel_rfl
theorem shp42 : shp Try.prog 42 = some (true, 6) := by kernel_rfl
theorem fld42_2 : fldOff Try.prog 42 2 = some 5 := by kernel_rfl
theorem shp40 : shp Try.prog 40 = some (false, 1) := by kernel_rfl
theorem elt40 : eltOf Try.prog 40 = some (85, 3, 24) := by kernel_rfl
theorem ok47 : okFn Try.prog 47 = true := by kernel_rfl
theorem ok20 : okFn Try.prog 20 = true := by kernel_rfl
theorem zer48 : zeroPV Try.prog 48 = some [.lit (.int .i64 0), .lit (.int .i64 0), .lit (.int .i64 0), .lit (.int .i64 0), .lit (.int .i64 0), .nils] := by kernel_rfl
theorem fld42_0 : fldOff Try.prog 42 0 = some 0 := by kernel_rfl
theorem fld48_0 : fldOff Try.prog 48 0 = some 0 := by kernel_rfl
theorem fld42_1 : fldOff Try.prog 42 1 = some 1 := by kernel_rfl
theorem shp39 : shp Try.prog 39 = some (true, 4) := by kernel_rfl
theorem zer45 : zeroPV Try.prog 45 = some [.lit (.int .i64 0), .lit (.int .i64 0), .lit (.int .i64 0), .lit (.int .i64 0)] := by kernel_rfl
theorem fld39_0 : fldOff Try.prog 39 0 = some 0 := by kernel_rfl
theorem fld45_0 : fldOff Try.prog 45 0 = some 0 := by kernel_rfl
theorem fld39_1 : fldOff Try.prog 39 1 = some 1 := by kernel_rfl
theorem fld45_1 : fldOff Try.prog 45 1 = some 1 := by kernel_rfl
theorem fld39_2 : fldOff Try.prog 39 2 = some 2 := by kernel_rfl
theorem fld45_2 : fldOff Try.prog 45 2 = some 2 := by kernel_rfl
theorem fld39_3 : fldOff Try.prog 39 3 = some 3 := by kernel_rfl
theorem fld45_3 : fldOff Try.prog 45 3 = some 3 := by kernel_rfl
theorem shp45 : shp Try.prog 45 = some (true, 4) := by kernel_rfl
theorem ok49 : okFn Try.prog 49 = true := by kernel_rfl
theorem fld48_1 : fldOff Try.prog 48 1 = some 1 := by kernel_rfl
theorem elt46 : eltOf Try.prog 46 = some (79, 3, 24) := by kernel_rfl
theorem zer79 : zeroPV Try.prog 79 = some [.lit (.int .i64 0), .lit (.int .i64 0), .lit (.int .i64 0)] := by kernel_rfl
theorem shp85 : shp Try.prog 85 = some (true, 3) := by kernel_rfl
theorem fld85_0 : fldOff Try.prog 85 0 = some 0 := by kernel_rfl
theorem fld79_0 : fldOff Try.prog 79 0 = some 0 := by kernel_rfl
theorem fld85_1 : fldOff Try.prog 85 1 = some 1 := by kernel_rfl
theorem fld79_1 : fldOff Try.prog 79 1 = some 1 := by kernel_rfl
theorem fld85_2 : fldOff Try.prog 85 2 = some 2 := by kernel_rfl
theorem fld79_2 : fldOff Try.prog 79 2 = some 2 := by kernel_rfl
theorem shp79 : shp Try.prog 79 = some (true, 3) := by kernel_rfl
theorem ok60 : okFn Try.prog 60 = true := by kernel_rfl
theorem ok50 : okFn Try.prog 50 = true := by kernel_rfl
theorem fld48_2 : fldOff Try.prog 48 2 = some 5 := by kernel_rfl
theorem shp46 : shp Try.prog 46 = some (false, 1) := by kernel_rfl
theorem shp48 : shp Try.prog 48 = some (true, 6) := by kernel_rfl
theorem ok22 : okFn Try.prog 22 = true := by kernel_rfl
theorem flat45 : flatOf Try.prog 45 = some [0, 0, 0, 0] := by kernel_rfl
theorem flat79 : flatOf Try.prog 79 = some [0, 0, 0] := by kernel_rfl
theorem ok48 : okFn Try.prog 48 = true := by kernel_rfl
theorem ok21 : okFn Try.prog 21 = true := by kernel_rfl
theorem ok51 : okFn Try.prog 51 = true := by kernel_rfl
theorem ok23 : okFn Try.prog 23 = true := by kernel_rfl
theorem ok52 : okFn Try.prog 52 = true := by kernel_rfl
theorem ok61 : okFn Try.prog 61 = true := by kernel_rfl
theorem ok53 : okFn Try.prog 53 = true := by kernel_rfl
theorem ok24 : okFn Try.prog 24 = true := by kernel_rfl
theorem ok7 : okFn Try.prog 7 = true := by kernel_rfl
theorem w_szIntS_pc (b0 : List Int) (b1 : Int) (r : Int) (h : w_szIntS b0 b1 = some r) : PC Try.prog 39 [.slice (b0.map int), int b1] (int r) := by
  unfold w_szIntS at h
  refine PC.start Try.func39 Try.ntmps39 rfl ok39 rfl ?_
  refine Run.seq ?_
  refine Run.reg ?_
  refine X.assign (by rfl) (by rfl) ?_
  refine X.nil ?_
  refine Run.seq ?_
  refine Run.reg ?_
  refine X.move (by rfl) (by rfl) ?_
  refine X.move (by rfl) (by rfl) ?_
  refine X.len_s elt26 (by rfl) (by exact List.length_map ..) (by rfl) ?_
  refine X.subW (by rfl) (by rfl) (by rfl) ?_
  refine X.assign (by rfl) (by rfl) ?_
  refine X.nil ?_
  refine Run.seq ?_
  refine Run.seq ?_
  refine Run.reg ?_
  refine X.move (by rfl) (by rfl) ?_
  refine X.bin (by rfl) (by rfl) (by rfl) (by rfl) (by intro h; cases h) (by rfl) ?_
  refine X.nil ?_
  refine R.cond (by rfl) (fun hc1 => ?_) (fun hc1 => ?_)
  · replace h := condT hc1 h
    refine Run.seq ?_
    refine Run.reg ?_
    refine X.assign (by rfl) (by rfl) ?_
    refine X.nil ?_
    cases h
    refine R.fin1 Try.results39 (by rfl) (by rfl) ?_
    rfl
  · replace h := condF hc1 h
    refine Run.skip ?_
    refine Run.seq ?_
    refine Run.reg ?_
    refine X.move (by rfl) (by rfl) ?_
    refine X.assign (by rfl) (by rfl) ?_
    refine X.nil ?_
    cases h
    refine R.fin1 Try.results39 (by rfl) (by rfl) ?_
    rfl
theorem w_szSchedule_pc (b0 : TSchedule) (b1 : Int) (r : Int) (h : w_szSchedule b0 b1 = some r) : PC Try.prog 38 [eTSchedule b0, int b1] (int r) := by
  unfold w_szSchedule at h
  refine PC.start Try.func38 Try.ntmps38 rfl ok38 rfl ?_
  refine Run.seq ?_
  refine Run.reg ?_
  refine X.box (by rfl) (by rfl) (by repeat (first | exact trivial | refine ⟨by rfl, ?_⟩ | refine ⟨by simp [setL], ?_⟩)) (by rfl) (by rfl) (by rfl) (by rfl) ?_
  refine X.assign (by rfl) (by rfl) ?_
  refine X.nil ?_
  refine Run.seq ?_
  refine Run.reg ?_
  refine X.fieldAddr_l fld28_0 (by rfl) (by rfl) ?_
  refine X.load_l shp26 (by rfl) (by rfl) (by rfl) (by rfl) (by rfl) (by rfl) ?_
  refine X.move (by rfl) (by rfl) ?_
  obtain ⟨v1, hv1, h⟩ := bindE h
  refine X.callP (w_szIntS_pc _ _ _ hv1) (by rfl) (by rfl) (by rfl) (by repeat (first | exact trivial | refine ⟨by rfl, ?_⟩ | refine ⟨by simp [setL], ?_⟩)) (by rfl) (by rfl) (by rfl) (by rfl) ?_
  refine X.assign (by rfl) (by rfl) ?_
  refine X.nil ?_
  refine Run.seq ?_
  refine Run.seq ?_
  refine Run.reg ?_
  refine X.move (by rfl) (by rfl) ?_
  refine X.bin (by rfl) (by rfl) (by rfl) (by rfl) (by intro h; cases h) (by rfl) ?_
  refine X.nil ?_
  refine R.cond (by rfl) (fun hc2 => ?_) (fun hc2 => ?_)
  · replace h := condT hc2 h
    refine Run.seq ?_
    refine Run.reg ?_
    refine X.assign (by rfl) (by rfl) ?_
    refine X.nil ?_
    cases h
    refine R.fin1 Try.results38 (by rfl) (by rfl) ?_
    rfl
  · replace h := condF hc2 h
    refine Run.skip ?_
    refine Run.seq ?_
    refine Run.reg ?_
    refine X.fieldAddr_l fld28_1 (by rfl) (by rfl) ?_
    refine X.load_l shp26 (by rfl) (by rfl) (by rfl) (by rfl) (by rfl) (by rfl) ?_
    refine X.move (by rfl) (by rfl) ?_
    obtain ⟨v3, hv3, h⟩ := bindE h
    refine X.callP (w_szIntS_pc _ _ _ hv3) (by rfl) (by rfl) (by rfl) (by repeat (first | exact trivial | refine ⟨by rfl, ?_⟩ | refine ⟨by simp [setL], ?_⟩)) (by rfl) (by rfl) (by rfl) (by rfl) ?_
    refine X.assign (by rfl) (by rfl) ?_
    refine X.nil ?_
    refine Run.seq ?_
    refine Run.seq ?_
    refine Run.reg ?_
    refine X.move (by rfl) (by rfl) ?_
    refine X.bin (by rfl) (by rfl) (by rfl) (by rfl) (by intro h; cases h) (by rfl) ?_
    refine X.nil ?_
    refine R.cond (by rfl) (fun hc4 => ?_) (fun hc4 => ?_)
    · replace h := condT hc4 h
      refine Run.seq ?_
      refine Run.reg ?_
      refine X.assign (by rfl) (by rfl) ?_
      refine X.nil ?_
      cases h
      refine R.fin1 Try.results38 (by rfl) (by rfl) ?_
      rfl
    · replace h := condF hc4 h
      refine Run.skip ?_
      refine Run.seq ?_
      refine Run.reg ?_
      refine X.move (by rfl) (by rfl) ?_
      refine X.assign (by rfl) (by rfl) ?_
      refine X.nil ?_
      cases h
      refine R.fin1 Try.results38 (by rfl) (by rfl) ?_
      rfl
theorem w_szPlan_pc (b0 : TPlan) (b1 : Int) (r : Int) (h : w_szPlan b0 b1 = some r) : PC Try.prog 15 [eTPlan b0, int b1] (int r) := by
  unfold w_szPlan at h
  refine PC.start Try.func15 Try.ntmps15 rfl ok15 rfl ?_
  refine Run.seq ?_
  refine Run.reg ?_
  refine X.box (by rfl) (by rfl) (by repeat (first | exact trivial | refine ⟨by rfl, ?_⟩ | refine ⟨by simp [setL], ?_⟩)) (by rfl) (by rfl) (by rfl) (by rfl) ?_
  refine X.assign (by rfl) (by rfl) ?_
  refine X.nil ?_
  refine Run.seq ?_
  refine Run.reg ?_
  refine X.fieldAddr_l fld30_0 (by rfl) (by rfl) ?_
  refine X.load_l shp28 (by rfl) (by rfl) (by rfl) (by rfl) (by rfl) (by rfl) ?_
  refine X.move (by rfl) (by rfl) ?_
  obtain ⟨v1, hv1, h⟩ := bindE h
  refine X.callP (w_szSchedule_pc _ _ _ hv1) (by rfl) (by rfl) (by rfl) (by repeat (first | exact trivial | refine ⟨by rfl, ?_⟩ | refine ⟨by simp [setL], ?_⟩)) (by rfl) (by rfl) (by rfl) (by rfl) ?_
  refine X.assign (by rfl) (by rfl) ?_
  refine X.nil ?_
  refine Run.seq ?_
  refine Run.seq ?_
  refine Run.reg ?_
  refine X.move (by rfl) (by rfl) ?_
  refine X.bin (by rfl) (by rfl) (by rfl) (by rfl) (by intro h; cases h) (by rfl) ?_
  refine X.nil ?_
  refine R.cond (by rfl) (fun hc2 => ?_) (fun hc2 => ?_)
  · replace h := condT hc2 h
    refine Run.seq ?_
    refine Run.reg ?_
    refine X.assign (by rfl) (by rfl) ?_
    refine X.nil ?_
    cases h
    refine R.fin1 Try.results15 (by rfl) (by rfl) ?_
    rfl
  · replace h := condF hc2 h
    refine Run.skip ?_
    refine Run.seq ?_
    refine Run.reg ?_
    refine X.fieldAddr_l fld30_1 (by rfl) (by rfl) ?_
    refine X.load_l shp26 (by rfl) (by rfl) (by rfl) (by rfl) (by rfl) (by rfl) ?_
    refine X.move (by rfl) (by rfl) ?_
    obtain ⟨v3, hv3, h⟩ := bindE h
    refine X.callP (w_szIntS_pc _ _ _ hv3) (by rfl) (by rfl) (by rfl) (by repeat (first | exact trivial | refine ⟨by rfl, ?_⟩ | refine ⟨by simp [setL], ?_⟩)) (by rfl) (by rfl) (by rfl) (by rfl) ?_
    refine X.assign (by rfl) (by rfl) ?_
    refine X.nil ?_
    refine Run.seq ?_
    refine Run.seq ?_
    refine Run.reg ?_
    refine X.move (by rfl) (by rfl) ?_
    refine X.bin (by rfl) (by rfl) (by rfl) (by rfl) (by intro h; cases h) (by rfl) ?_
    refine X.nil ?_
    refine R.cond (by rfl) (fun hc4 => ?_) (fun hc4 => ?_)
    · replace h := condT hc4 h
      refine Run.seq ?_
      refine Run.reg ?_
      refine X.assign (by rfl) (by rfl) ?_
      refine X.nil ?_
      cases h
      refine R.fin1 Try.results15 (by rfl) (by rfl) ?_
      rfl
    · replace h := condF hc4 h
      refine Run.skip ?_
      refine Run.seq ?_
      refine Run.reg ?_
      refine X.move (by rfl) (by rfl) ?_
      refine X.assign (by rfl) (by rfl) ?_
      refine X.nil ?_
      cases h
      refine R.fin1 Try.results15 (by rfl) (by rfl) ?_
      rfl
theorem w_toIntS_pc (b0 : List Int) (r : List Int) (h : w_toIntS b0 = some r) : PC Try.prog 43 [.slice (b0.map int)] (.fresh false 3 1 (r.map int)) := by
  unfold w_toIntS at h
  refine PC.start Try.func43 Try.ntmps43 rfl ok43 rfl ?_
  refine Run.seq ?_
  refine Run.reg ?_
  refine X.assign (by rfl) (by rfl) ?_
  refine X.nil ?_
  refine Run.seq ?_
  refine Run.reg ?_
  refine X.move (by rfl) (by rfl) ?_
  refine X.len_s elt26 (by rfl) (by exact List.length_map ..) (by rfl) ?_
  obtain ⟨v1, hv1, h⟩ := bindE h
  refine X.makeSlice2 int hv1 elt26 zer3 (by rfl) (by rfl) (by rfl) (by simp [PV.plain]) (by rfl) (by rfl) (by rfl) (by rfl) (by rfl) (by rfl) ?_
  refine X.assign (by rfl) (by rfl) ?_
  refine X.nil ?_
  refine Run.seq ?_
  refine Run.seq ?_
  refine Run.reg ?_
  refine X.assign (by rfl) (by rfl) ?_
  refine X.nil ?_
  obtain ⟨o2, ho2, h⟩ := bindE h
  refine R.join2 (β := (List Int)) [] [] (fun p15 S => (3, .own 448 (p15.map int).length) :: S) (fun p15 M => (448, .obj true 3 1 (p15.map int)) :: M) (fun p15 => p15 = o2) ?_ ?_
  · intro JJ5 hmeet4
    have hup3 := h; clear h; have h := ho2; clear ho2
    refine Run.block ?_
    refine R.bndS (t := 0) (by rfl) (fun hbd8 => ?_)
    replace hbd8 : b0.length ≤ 9223372036854775807 := by first | (rw [List.length_map] at hbd8; exact hbd8) | simp
    refine R.loop2 (β := Int × (List Int)) [(0, .slice (b0.map int))] [] (fun bb S => (3, .own 448 (bb.2.map int).length) :: (4, int bb.1) :: S) (fun bb M => (448, .obj true 3 1 (bb.2.map int)) :: M) (fun n bb => 0 ≤ bb.1 ∧ bb.1 + n = (b0.length : Int) ∧ w_toIntS_L1 (b0.drop bb.1.toNat) bb.1 bb.2 = some o2) b0.length (0, v1) (by repeat (first | exact trivial | refine ⟨by rfl, ?_⟩ | refine ⟨by simp [setL], ?_⟩)) (by repeat (first | exact trivial | refine ⟨by rfl, ?_⟩ | refine ⟨by simp [setL], ?_⟩)) (by rfl) (by rfl) ⟨Int.le_refl _, by simp, h⟩ ?_
    clear h
    rintro JJ8 n8 ⟨z9, a10⟩ hag8 ⟨hza8, hzb8, h⟩
    dsimp only at hza8 hzb8 h
    refine Run.seq ?_
    refine Run.seq ?_
    refine Run.reg ?_
    refine X.move (by rfl) (by rfl) ?_
    refine X.move (by rfl) (by rfl) ?_
    refine X.len_s elt26 (by rfl) (by exact List.length_map ..) (by rfl) ?_
    refine X.bin (by rfl) (by rfl) (by rfl) (by rfl) (by intro h; cases h) (by rfl) ?_
    refine X.nil ?_
    refine R.cond (by rfl) (fun hc13 => ?_) (fun hc13 => ?_)
    · obtain ⟨x11, xs12, hd8, hx8, hds8, hlt8⟩ := drop_atI hza8 hc13
      rw [hd8] at h
      rw [w_toIntS_L1] at h
      refine Run.skip ?_
      refine Run.seq ?_
      refine Run.block ?_
      refine Run.reg ?_
      refine X.move (by rfl) (by rfl) ?_
      refine X.move (by rfl) (by rfl) ?_
      refine X.move (by rfl) (by rfl) ?_
      refine X.move (by rfl) (by rfl) ?_
      refine X.index_s elt26 (by rfl) (by rfl) (idxL_spec hx8).1 (idxL_map int hx8) (by rfl) (by rfl) (by rfl) ?_
      refine X.load_c shp3 (by rfl) (by rfl) (by rfl) (by rfl) ?_
      obtain ⟨v14, hv14, h⟩ := bindE h
      refine X.index_x elt26 (by rfl) (by rfl) (by first | rfl | simp [setL] | omega) (by rfl) (by exact (Int.toNat_of_nonneg (idxL_spec hv14).1).symm) (by have := idxL_lt hv14; simpa using this) (by rfl) (by rfl) ?_
      refine X.store_e2 shp3 (by rfl) (by rfl) (by first | rfl | simp [setL] | omega) (idxL_map _ hv14) (by rfl) (by rfl) (by repeat (first | exact trivial | refine ⟨by rfl, ?_⟩ | refine ⟨by simp [setL], ?_⟩)) (by rfl) (by rfl) (by rfl) (by rfl) (by exact setL_map _ _ _ x11) ?_
      refine X.nil ?_
      refine Run.blk ?_
      refine Run.reg ?_
      refine X.move (by rfl) (by rfl) ?_
      refine X.add (by rfl) (by rfl) (by omega) (by rfl) ?_
      refine X.assign (by rfl) (by rfl) ?_
      refine X.nil ?_
      refine R.castS (t := 3) (.own 448 ((setL a10 z9 x11).map int).length) (by rfl) (.inl (by first | rfl | simp [setL])) ?_
      exact hag8 (n8 - 1) (z9 + 1, (setL a10 z9 x11)) _ _ (by omega) ⟨by first | omega | (dsimp only; omega), by first | omega | (dsimp only; omega), by first | (rw [hds8]; exact h) | (dsimp only; rw [hds8]; exact h)⟩ (by repeat (first | exact trivial | refine ⟨by rfl, ?_⟩ | refine ⟨by simp [setL], ?_⟩)) (by repeat (first | exact trivial | refine ⟨by rfl, ?_⟩ | refine ⟨by simp [setL], ?_⟩)) (by rfl) (by rfl)
    · rw [drop_endI hza8 hc13] at h
      rw [w_toIntS_L1] at h
      refine Run.exit (by rfl) ?_
      exact hmeet4 a10 _ _ (Option.some.inj h) (by repeat (first | exact trivial | refine ⟨by rfl, ?_⟩ | refine ⟨by simp [setL], ?_⟩)) (by repeat (first | exact trivial | refine ⟨by rfl, ?_⟩ | refine ⟨by simp [setL], ?_⟩)) (by rfl) (by rfl)
  rintro p15 rfl
  refine Run.seq ?_
  refine Run.reg ?_
  refine X.move (by rfl) (by rfl) ?_
  refine X.assign (by rfl) (by rfl) ?_
  refine X.nil ?_
  cases h
  refine R.pubObj (n := 448) (by rfl) ?_
  refine R.fin1o Try.results43 (by rfl) (by rfl) (by first | rfl | simp [setL] | omega) ?_
  rfl
theorem w_toSchedule_pc (b0 : TSchedule) (r : TSchedule) (h : w_toSchedule b0 = some r) : PC Try.prog 42 [eTSchedule b0] (.agg [.fresh false 3 1 (r.Starts.map int), .fresh false 3 1 (r.Modes.map int)]) := by
  unfold w_toSchedule at h
  refine PC.start Try.func42 Try.ntmps42 rfl ok42 rfl ?_
  refine Run.seq ?_
  refine Run.reg ?_
  refine X.box (by rfl) (by rfl) (by repeat (first | exact trivial | refine ⟨by rfl, ?_⟩ | refine ⟨by simp [setL], ?_⟩)) (by rfl) (by rfl) (by rfl) (by rfl) ?_
  refine X.alloc zer33 (by rfl) (by rfl) (by rfl) ?_
  refine X.nil ?_
  refine Run.seq ?_
  refine Run.reg ?_
  refine X.alloc zer33 (by rfl) (by rfl) (by rfl) ?_
  refine X.nil ?_
  refine Run.seq ?_
  refine Run.reg ?_
  refine X.fieldAddr_l fld28_0 (by rfl) (by rfl) ?_
  refine X.load_l shp26 (by rfl) (by rfl) (by rfl) (by rfl) (by rfl) (by rfl) ?_
  obtain ⟨v1, hv1, h⟩ := bindE h
  refine X.callF (w_toIntS_pc _ _ hv1) (by rfl) (by rfl) (by rfl) (by repeat (first | exact trivial | refine ⟨by rfl, ?_⟩ | refine ⟨by simp [setL], ?_⟩)) (by rfl) (by rfl) (by rfl) (by rfl) ?_
  refine X.fieldAddr_l fld33_0 (by rfl) (by rfl) ?_
  refine X.store_l shp26 (by rfl) (by rfl) (by rfl) (by rfl) (by repeat (first | exact trivial | refine ⟨by rfl, ?_⟩ | refine ⟨by simp [setL], ?_⟩)) (by rfl) (by rfl) (by rfl) ?_
  refine X.nil ?_
  refine Run.seq ?_
  refine Run.reg ?_
  refine X.fieldAddr_l fld28_1 (by rfl) (by rfl) ?_
  refine X.load_l shp26 (by rfl) (by rfl) (by rfl) (by rfl) (by rfl) (by rfl) ?_
  obtain ⟨v2, hv2, h⟩ := bindE h
  refine X.callF (w_toIntS_pc _ _ hv2) (by rfl) (by rfl) (by rfl) (by repeat (first | exact trivial | refine ⟨by rfl, ?_⟩ | refine ⟨by simp [setL], ?_⟩)) (by rfl) (by rfl) (by rfl) (by rfl) ?_
  refine X.fieldAddr_l fld33_1 (by rfl) (by rfl) ?_
  refine X.store_l shp26 (by rfl) (by rfl) (by rfl) (by rfl) (by repeat (first | exact trivial | refine ⟨by rfl, ?_⟩ | refine ⟨by simp [setL], ?_⟩)) (by rfl) (by rfl) (by rfl) ?_
  refine X.nil ?_
  refine Run.seq ?_
  refine Run.reg ?_
  refine X.load_l shp33 (by rfl) (by rfl) (by rfl) (by rfl) (by rfl) (by rfl) ?_
  refine X.store_l shp33 (by rfl) (by rfl) (by rfl) (by rfl) (by repeat (first | exact trivial | refine ⟨by rfl, ?_⟩ | refine ⟨by simp [setL], ?_⟩)) (by rfl) (by rfl) (by rfl) ?_
  refine X.nil ?_
  cases h
  refine R.finC Try.results42 shp33 (by rfl) (by rfl) (by rfl) (by rfl) (by repeat (first | exact trivial | refine ⟨by rfl, ?_⟩ | refine ⟨by simp [setL], ?_⟩)) ?_
  rfl
theorem w_toPlan_pc (b0 : TPlan) (r : TPlan) (h : w_toPlan b0 = some r) : PC Try.prog 17 [eTPlan b0] (.agg [.fresh false 3 1 (r.Schedule.Starts.map int), .fresh false 3 1 (r.Schedule.Modes.map int), .fresh false 3 1 (r.Done.map int)]) := by
  unfold w_toPlan at h
  refine PC.start Try.func17 Try.ntmps17 rfl ok17 rfl ?_
  refine Run.seq ?_
  refine Run.reg ?_
  refine X.box (by rfl) (by rfl) (by repeat (first | exact trivial | refine ⟨by rfl, ?_⟩ | refine ⟨by simp [setL], ?_⟩)) (by rfl) (by rfl) (by rfl) (by rfl) ?_
  refine X.alloc zer35 (by rfl) (by rfl) (by rfl) ?_
  refine X.nil ?_
  refine Run.seq ?_
  refine Run.reg ?_
  refine X.alloc zer35 (by rfl) (by rfl) (by rfl) ?_
  refine X.nil ?_
  refine Run.seq ?_
  refine Run.reg ?_
  refine X.fieldAddr_l fld30_0 (by rfl) (by rfl) ?_
  refine X.load_l shp28 (by rfl) (by rfl) (by rfl) (by rfl) (by rfl) (by rfl) ?_
  obtain ⟨v1, hv1, h⟩ := bindE h
  refine X.callA (w_toSchedule_pc _ _ hv1) (by rfl) (by rfl) (by rfl) (by repeat (first | exact trivial | refine ⟨by rfl, ?_⟩ | refine ⟨by simp [setL], ?_⟩)) (by rfl) (by rfl) (by rfl) (by rfl) (by rfl) (by rfl) ?_
  refine X.fieldAddr_l fld35_0 (by rfl) (by rfl) ?_
  refine X.store_l shp33 (by rfl) (by rfl) (by rfl) (by rfl) (by repeat (first | exact trivial | refine ⟨by rfl, ?_⟩ | refine ⟨by simp [setL], ?_⟩)) (by rfl) (by rfl) (by rfl) ?_
  refine X.nil ?_
  refine Run.seq ?_
  refine Run.reg ?_
  refine X.fieldAddr_l fld30_1 (by rfl) (by rfl) ?_
  refine X.load_l shp26 (by rfl) (by rfl) (by rfl) (by rfl) (by rfl) (by rfl) ?_
  obtain ⟨v2, hv2, h⟩ := bindE h
  refine X.callF (w_toIntS_pc _ _ hv2) (by rfl) (by rfl) (by rfl) (by repeat (first | exact trivial | refine ⟨by rfl, ?_⟩ | refine ⟨by simp [setL], ?_⟩)) (by rfl) (by rfl) (by rfl) (by rfl) ?_
  refine X.fieldAddr_l fld35_1 (by rfl) (by rfl) ?_
  refine X.store_l shp26 (by rfl) (by rfl) (by rfl) (by rfl) (by repeat (first | exact trivial | refine ⟨by rfl, ?_⟩ | refine ⟨by simp [setL], ?_⟩)) (by rfl) (by rfl) (by rfl) ?_
  refine X.nil ?_
  refine Run.seq ?_
  refine Run.reg ?_
  refine X.load_l shp35 (by rfl) (by rfl) (by rfl) (by rfl) (by rfl) (by rfl) ?_
  refine X.store_l shp35 (by rfl) (by rfl) (by rfl) (by rfl) (by repeat (first | exact trivial | refine ⟨by rfl, ?_⟩ | refine ⟨by simp [setL], ?_⟩)) (by rfl) (by rfl) (by rfl) ?_
  refine X.nil ?_
  cases h
  refine R.finC Try.results17 shp35 (by rfl) (by rfl) (by rfl) (by rfl) (by repeat (first | exact trivial | refine ⟨by rfl, ?_⟩ | refine ⟨by simp [setL], ?_⟩)) ?_
  rfl
theorem s_SetEqual_pc (b0 : List Int) (b1 : List Int) (r : Bool) (h : s_SetEqual b0 b1 = some r) : PC Try.prog 41 [.slice (b0.map int), .slice (b1.map int)] (bool r) := by
  unfold s_SetEqual at h
  refine PC.start Try.func41 Try.ntmps41 rfl ok41 rfl ?_
  refine Run.seq ?_
  refine Run.reg ?_
  refine X.assign (by rfl) (by rfl) ?_
  refine X.nil ?_
  refine Run.seq ?_
  refine Run.seq ?_
  refine Run.reg ?_
  refine X.move (by rfl) (by rfl) ?_
  refine X.len_s elt26 (by rfl) (by exact List.length_map ..) (by rfl) ?_
  refine X.move (by rfl) (by rfl) ?_
  refine X.len_s elt26 (by rfl) (by exact List.length_map ..) (by rfl) ?_
  refine X.bin (by rfl) (by rfl) (by rfl) (by rfl) (by intro h; cases h) (by rfl) ?_
  refine X.nil ?_
  refine R.cond (by rfl) (fun hc1 => ?_) (fun hc1 => ?_)
  · replace h := condT hc1 h
    refine Run.seq ?_
    refine Run.reg ?_
    refine X.assign (by rfl) (by rfl) ?_
    refine X.nil ?_
    cases h
    refine R.fin1 Try.results41 (by rfl) (by rfl) ?_
    rfl
  · replace h := condF hc1 h
    refine Run.skip ?_
    refine Run.seq ?_
    refine Run.seq ?_
    refine Run.reg ?_
    refine X.move (by rfl) (by rfl) ?_
    refine X.len_s elt26 (by rfl) (by exact List.length_map ..) (by rfl) ?_
    refine X.move (by rfl) (by rfl) ?_
    refine X.nil ?_
    obtain ⟨o2, ho2, h⟩ := bindE h
    refine R.join2 (β := Unit) [] [] (fun p15 S => S) (fun p15 M => M) (fun p15 => (Sum.inl p15) = o2) ?_ ?_
    · intro JJ5 hmeet4
      have hup3 := h; clear h; have h := ho2; clear ho2
      refine Run.block ?_
      refine R.bndS (t := 0) (by rfl) (fun hbd8 => ?_)
      replace hbd8 : b0.length ≤ 9223372036854775807 := by first | (rw [List.length_map] at hbd8; exact hbd8) | simp
      refine R.loop2 (β := Int) [(0, .slice (b0.map int)), (1, .slice (b1.map int)), (12, int (b0.length : Int))] [] (fun bb S => (13, int bb) :: S) (fun bb M => M) (fun n bb => 0 ≤ bb ∧ bb + n = (b0.length : Int) ∧ s_SetEqual_L1 b1 (b0.drop bb.toNat) bb = some o2) b0.length (0 : Int) (by repeat (first | exact trivial | refine ⟨by rfl, ?_⟩ | refine ⟨by simp [setL], ?_⟩)) (by repeat (first | exact trivial | refine ⟨by rfl, ?_⟩ | refine ⟨by simp [setL], ?_⟩)) (by rfl) (by rfl) ⟨Int.le_refl _, by simp, h⟩ ?_
      clear h
      rintro JJ8 n8 z9 hag8 ⟨hza8, hzb8, h⟩
      refine Run.seq ?_
      refine Run.reg ?_
      refine X.bin (by rfl) (by rfl) (by rfl) (by rfl) (by intro h; cases h) (by rfl) ?_
      refine X.nil ?_
      refine Run.seq ?_
      refine R.cond (by rfl) (fun hc12 => ?_) (fun hc12 => ?_)
      · obtain ⟨x10, xs11, hd8, hx8, hds8, hlt8⟩ := drop_atI hza8 hc12
        rw [hd8] at h
        rw [s_SetEqual_L1] at h
        refine Run.skip ?_
        refine Run.seq ?_
        refine Run.block ?_
        refine Run.seq ?_
        refine Run.reg ?_
        refine X.move (by rfl) (by rfl) ?_
        refine X.assign (by rfl) (by rfl) ?_
        refine X.nil ?_
        refine Run.seq ?_
        refine Run.draw (footOf []) mixed (by kernel_rfl) (by kernel_rfl) ?_
        refine X.move (by rfl) (by rfl) ?_
        refine X.move (by rfl) (by rfl) ?_
        refine X.index_s elt26 (by rfl) (by rfl) (idxL_spec hx8).1 (idxL_map int hx8) (by rfl) (by rfl) (by rfl) ?_
        refine X.load_c shp3 (by rfl) (by rfl) (by rfl) (by rfl) ?_
        refine X.move (by rfl) (by rfl) ?_
        refine X.move (by rfl) (by rfl) ?_
        obtain ⟨v13, hv13, h⟩ := bindE h
        refine X.index_s elt26 (by rfl) (by rfl) (idxL_spec hv13).1 (idxL_map int hv13) (by rfl) (by rfl) (by rfl) ?_
        refine X.load_c shp3 (by rfl) (by rfl) (by rfl) (by rfl) ?_
        refine X.bin (by rfl) (by rfl) (by rfl) (by rfl) (by intro h; cases h) (by rfl) ?_
        refine X.nil ?_
        refine R.cond (by rfl) (fun hc14 => ?_) (fun hc14 => ?_)
        · replace h := condT hc14 h
          refine Run.seq ?_
          refine Run.reg ?_
          refine X.assign (by rfl) (by rfl) ?_
          refine X.nil ?_
          cases h
          have h := hup3
          replace h := elimR h
          cases h
          refine R.fin1 Try.results41 (by rfl) (by rfl) ?_
          rfl
        · replace h := condF hc14 h
          refine Run.skip ?_
          refine Run.blk ?_
          refine Run.reg ?_
          refine X.add (by rfl) (by rfl) (by omega) (by rfl) ?_
          refine X.move (by rfl) (by rfl) ?_
          refine X.nil ?_
          exact hag8 (n8 - 1) (z9 + 1) _ _ (by omega) ⟨by first | omega | (dsimp only; omega), by first | omega | (dsimp only; omega), by first | (rw [hds8]; exact h) | (dsimp only; rw [hds8]; exact h)⟩ (by repeat (first | exact trivial | refine ⟨by rfl, ?_⟩ | refine ⟨by simp [setL], ?_⟩)) (by repeat (first | exact trivial | refine ⟨by rfl, ?_⟩ | refine ⟨by simp [setL], ?_⟩)) (by rfl) (by rfl)
      · rw [drop_endI hza8 hc12] at h
        rw [s_SetEqual_L1] at h
        refine Run.exit (by rfl) ?_
        exact hmeet4 () _ _ (Option.some.inj h) (by repeat (first | exact trivial | refine ⟨by rfl, ?_⟩ | refine ⟨by simp [setL], ?_⟩)) (by repeat (first | exact trivial | refine ⟨by rfl, ?_⟩ | refine ⟨by simp [setL], ?_⟩)) (by rfl) (by rfl)
    rintro p15 rfl
    replace h := elimL h
    refine Run.seq ?_
    refine Run.reg ?_
    refine X.assign (by rfl) (by rfl) ?_
    refine X.nil ?_
    cases h
    refine R.fin1 Try.results41 (by rfl) (by rfl) ?_
    rfl
theorem s_ScheduleEqual_pc (b0 : TSchedule) (b1 : TSchedule) (r : Bool) (h : s_ScheduleEqual b0 b1 = some r) : PC Try.prog 40 [eTSchedule b0, eTSchedule b1] (bool r) := by
  unfold s_ScheduleEqual at h
  refine PC.start Try.func40 Try.ntmps40 rfl ok40 rfl ?_
  refine Run.seq ?_
  refine Run.reg ?_
  refine X.box (by rfl) (by rfl) (by repeat (first | exact trivial | refine ⟨by rfl, ?_⟩ | refine ⟨by simp [setL], ?_⟩)) (by rfl) (by rfl) (by rfl) (by rfl) ?_
  refine X.box (by rfl) (by rfl) (by repeat (first | exact trivial | refine ⟨by rfl, ?_⟩ | refine ⟨by simp [setL], ?_⟩)) (by rfl) (by rfl) (by rfl) (by rfl) ?_
  refine X.assign (by rfl) (by rfl) ?_
  refine X.nil ?_
  refine Run.seq ?_
  obtain ⟨v1, hv1, h⟩ := bindE h
  obtain ⟨e2, he2, h2⟩ := bindE h
  refine R.regG [(4, bool e2)] [] ?_ ?_
  · clear h; have h := he2; clear he2 h2
    refine X.fieldAddr_l fld33_0 (by rfl) (by rfl) ?_
    refine X.load_l shp26 (by rfl) (by rfl) (by rfl) (by rfl) (by rfl) (by rfl) ?_
    refine X.fieldAddr_l fld33_0 (by rfl) (by rfl) ?_
    refine X.load_l shp26 (by rfl) (by rfl) (by rfl) (by rfl) (by rfl) (by rfl) ?_
    refine X.callP (s_SetEqual_pc _ _ _ hv1) (by rfl) (by rfl) (by rfl) (by repeat (first | exact trivial | refine ⟨by rfl, ?_⟩ | refine ⟨by simp [setL], ?_⟩)) (by rfl) (by rfl) (by rfl) (by rfl) ?_
    refine X.move (by rfl) (by rfl) ?_
    refine X.ifG (by rfl) (by rfl) (by rfl) (fun hb3 => ?_) (fun hb3 => ?_)
    · replace h := condT hb3 h
      refine X.fieldAddr_l fld33_1 (by rfl) (by rfl) ?_
      refine X.gyes (by rfl) (by rfl) (by first | rfl | assumption | simp_all) ?_
      refine X.load_l shp26 (by rfl) (by rfl) (by rfl) (by rfl) (by rfl) (by rfl) ?_
      refine X.gyes (by rfl) (by rfl) (by first | rfl | assumption | simp_all) ?_
      refine X.fieldAddr_l fld33_1 (by rfl) (by rfl) ?_
      refine X.gyes (by rfl) (by rfl) (by first | rfl | assumption | simp_all) ?_
      refine X.load_l shp26 (by rfl) (by rfl) (by rfl) (by rfl) (by rfl) (by rfl) ?_
      refine X.gyes (by rfl) (by rfl) (by first | rfl | assumption | simp_all) ?_
      obtain ⟨v4, hv4, h⟩ := bindE h
      refine X.callP (s_SetEqual_pc _ _ _ hv4) (by rfl) (by rfl) (by rfl) (by repeat (first | exact trivial | refine ⟨by rfl, ?_⟩ | refine ⟨by simp [setL], ?_⟩)) (by rfl) (by rfl) (by rfl) (by rfl) ?_
      refine X.pickT (by rfl) (by first | rfl | assumption | simp_all) (by rfl) (by rfl) ?_
      refine X.assign (by rfl) (by rfl) ?_
      cases h
      exact X.endG (by repeat (first | exact trivial | refine ⟨by rfl, ?_⟩ | refine ⟨by simp [setL], ?_⟩)) (by repeat (first | exact trivial | refine ⟨by rfl, ?_⟩ | refine ⟨by simp [setL], ?_⟩)) (by rfl) (by rfl)
    · replace h := condF hb3 h
      refine X.gno (by rfl) (by rfl) (by first | rfl | assumption | simp_all) (by rfl) ?_
      refine X.gno (by rfl) (by rfl) (by first | rfl | assumption | simp_all) (by rfl) ?_
      refine X.gno (by rfl) (by rfl) (by first | rfl | assumption | simp_all) (by rfl) ?_
      refine X.gno (by rfl) (by rfl) (by first | rfl | assumption | simp_all) (by rfl) ?_
      refine X.pickF (by rfl) (by first | rfl | assumption | simp_all) (by rfl) (by rfl) ?_
      refine X.assign (by rfl) (by rfl) ?_
      cases h
      exact X.endG (by repeat (first | exact trivial | refine ⟨by rfl, ?_⟩ | refine ⟨by simp [setL], ?_⟩)) (by repeat (first | exact trivial | refine ⟨by rfl, ?_⟩ | refine ⟨by simp [setL], ?_⟩)) (by rfl) (by rfl)
  replace h := h2; clear h2
  cases h
  refine R.fin1 Try.results40 (by rfl) (by rfl) ?_
  rfl
theorem s_PlanEqual_pc (b0 : TPlan) (b1 : TPlan) (r : Bool) (h : s_PlanEqual b0 b1 = some r) : PC Try.prog 16 [eTPlan b0, eTPlan b1] (bool r) := by
  unfold s_PlanEqual at h
  refine PC.start Try.func16 Try.ntmps16 rfl ok16 rfl ?_
  refine Run.seq ?_
  refine Run.reg ?_
  refine X.box (by rfl) (by rfl) (by repeat (first | exact trivial | refine ⟨by rfl, ?_⟩ | refine ⟨by simp [setL], ?_⟩)) (by rfl) (by rfl) (by rfl) (by rfl) ?_
  refine X.box (by rfl) (by rfl) (by repeat (first | exact trivial | refine ⟨by rfl, ?_⟩ | refine ⟨by simp [setL], ?_⟩)) (by rfl) (by rfl) (by rfl) (by rfl) ?_
  refine X.assign (by rfl) (by rfl) ?_
  refine X.nil ?_
  refine Run.seq ?_
  obtain ⟨v1, hv1, h⟩ := bindE h
  obtain ⟨e2, he2, h2⟩ := bindE h
  refine R.regG [(4, bool e2)] [] ?_ ?_
  · clear h; have h := he2; clear he2 h2
    refine X.fieldAddr_l fld35_0 (by rfl) (by rfl) ?_
    refine X.load_l shp33 (by rfl) (by rfl) (by rfl) (by rfl) (by rfl) (by rfl) ?_
    refine X.fieldAddr_l fld35_0 (by rfl) (by rfl) ?_
    refine X.load_l shp33 (by rfl) (by rfl) (by rfl) (by rfl) (by rfl) (by rfl) ?_
    refine X.callP (s_ScheduleEqual_pc _ _ _ hv1) (by rfl) (by rfl) (by rfl) (by repeat (first | exact trivial | refine ⟨by rfl, ?_⟩ | refine ⟨by simp [setL], ?_⟩)) (by rfl) (by rfl) (by rfl) (by rfl) ?_
    refine X.move (by rfl) (by rfl) ?_
    refine X.ifG (by rfl) (by rfl) (by rfl) (fun hb3 => ?_) (fun hb3 => ?_)
    · replace h := condT hb3 h
      refine X.fieldAddr_l fld35_1 (by rfl) (by rfl) ?_
      refine X.gyes (by rfl) (by rfl) (by first | rfl | assumption | simp_all) ?_
      refine X.load_l shp26 (by rfl) (by rfl) (by rfl) (by rfl) (by rfl) (by rfl) ?_
      refine X.gyes (by rfl) (by rfl) (by first | rfl | assumption | simp_all) ?_
      refine X.fieldAddr_l fld35_1 (by rfl) (by rfl) ?_
      refine X.gyes (by rfl) (by rfl) (by first | rfl | assumption | simp_all) ?_
      refine X.load_l shp26 (by rfl) (by rfl) (by rfl) (by rfl) (by rfl) (by rfl) ?_
      refine X.gyes (by rfl) (by rfl) (by first | rfl | assumption | simp_all) ?_
      obtain ⟨v4, hv4, h⟩ := bindE h
      refine X.callP (s_SetEqual_pc _ _ _ hv4) (by rfl) (by rfl) (by rfl) (by repeat (first | exact trivial | refine ⟨by rfl, ?_⟩ | refine ⟨by simp [setL], ?_⟩)) (by rfl) (by rfl) (by rfl) (by rfl) ?_
      refine X.pickT (by rfl) (by first | rfl | assumption | simp_all) (by rfl) (by rfl) ?_
      refine X.assign (by rfl) (by rfl) ?_
      cases h
      exact X.endG (by repeat (first | exact trivial | refine ⟨by rfl, ?_⟩ | refine ⟨by simp [setL], ?_⟩)) (by repeat (first | exact trivial | refine ⟨by rfl, ?_⟩ | refine ⟨by simp [setL], ?_⟩)) (by rfl) (by rfl)
    · replace h := condF hb3 h
      refine X.gno (by rfl) (by rfl) (by first | rfl | assumption | simp_all) (by rfl) ?_
      refine X.gno (by rfl) (by rfl) (by first | rfl | assumption | simp_all) (by rfl) ?_
      refine X.gno (by rfl) (by rfl) (by first | rfl | assumption | simp_all) (by rfl) ?_
      refine X.gno (by rfl) (by rfl) (by first | rfl | assumption | simp_all) (by rfl) ?_
      refine X.pickF (by rfl) (by first | rfl | assumption | simp_all) (by rfl) (by rfl) ?_
      refine X.assign (by rfl) (by rfl) ?_
      cases h
      exact X.endG (by repeat (first | exact trivial | refine ⟨by rfl, ?_⟩ | refine ⟨by simp [setL], ?_⟩)) (by repeat (first | exact trivial | refine ⟨by rfl, ?_⟩ | refine ⟨by simp [setL], ?_⟩)) (by rfl) (by rfl)
  replace h := h2; clear h2
  cases h
  refine R.fin1 Try.results16 (by rfl) (by rfl) ?_
  rfl
theorem slices_Equal_int_pc (b0 : List Int) (b1 : List Int) (r : Bool) (h : slices_Equal_int b0 b1 = some r) : PC Try.prog 45 [.slice (b0.map int), .slice (b1.map int)] (bool r) := by
  unfold slices_Equal_int at h
  refine PC.start Try.func45 Try.ntmps45 rfl ok45 rfl ?_
  refine Run.seq ?_
  refine Run.reg ?_
  refine X.assign (by rfl) (by rfl) ?_
  refine X.nil ?_
  refine Run.seq ?_
  refine Run.seq ?_
  refine Run.reg ?_
  refine X.move (by rfl) (by rfl) ?_
  refine X.len_s elt26 (by rfl) (by exact List.length_map ..) (by rfl) ?_
  refine X.move (by rfl) (by rfl) ?_
  refine X.len_s elt26 (by rfl) (by exact List.length_map ..) (by rfl) ?_
  refine X.bin (by rfl) (by rfl) (by rfl) (by rfl) (by intro h; cases h) (by rfl) ?_
  refine X.nil ?_
  refine R.cond (by rfl) (fun hc1 => ?_) (fun hc1 => ?_)
  · replace h := condT hc1 h
    refine Run.seq ?_
    refine Run.reg ?_
    refine X.assign (by rfl) (by rfl) ?_
    refine X.nil ?_
    cases h
    refine R.fin1 Try.results45 (by rfl) (by rfl) ?_
    rfl
  · replace h := condF hc1 h
    refine Run.skip ?_
    refine Run.seq ?_
    refine Run.seq ?_
    refine Run.reg ?_
    refine X.move (by rfl) (by rfl) ?_
    refine X.len_s elt26 (by rfl) (by exact List.length_map ..) (by rfl) ?_
    refine X.move (by rfl) (by rfl) ?_
    refine X.nil ?_
    obtain ⟨o2, ho2, h⟩ := bindE h
    refine R.join2 (β := Unit) [] [] (fun p15 S => S) (fun p15 M => M) (fun p15 => (Sum.inl p15) = o2) ?_ ?_
    · intro JJ5 hmeet4
      have hup3 := h; clear h; have h := ho2; clear ho2
      refine Run.block ?_
      refine R.bndS (t := 0) (by rfl) (fun hbd8 => ?_)
      replace hbd8 : b0.length ≤ 9223372036854775807 := by first | (rw [List.length_map] at hbd8; exact hbd8) | simp
      refine R.loop2 (β := Int) [(0, .slice (b0.map int)), (1, .slice (b1.map int)), (12, int (b0.length : Int))] [] (fun bb S => (13, int bb) :: S) (fun bb M => M) (fun n bb => 0 ≤ bb ∧ bb + n = (b0.length : Int) ∧ slices_Equal_int_L1 b1 (b0.drop bb.toNat) bb = some o2) b0.length (0 : Int) (by repeat (first | exact trivial | refine ⟨by rfl, ?_⟩ | refine ⟨by simp [setL], ?_⟩)) (by repeat (first | exact trivial | refine ⟨by rfl, ?_⟩ | refine ⟨by simp [setL], ?_⟩)) (by rfl) (by rfl) ⟨Int.le_refl _, by simp, h⟩ ?_
      clear h
      rintro JJ8 n8 z9 hag8 ⟨hza8, hzb8, h⟩
      refine Run.seq ?_
      refine Run.reg ?_
      refine X.bin (by rfl) (by rfl) (by rfl) (by rfl) (by intro h; cases h) (by rfl) ?_
      refine X.nil ?_
      refine Run.seq ?_
      refine R.cond (by rfl) (fun hc12 => ?_) (fun hc12 => ?_)
      · obtain ⟨x10, xs11, hd8, hx8, hds8, hlt8⟩ := drop_atI hza8 hc12
        rw [hd8] at h
        rw [slices_Equal_int_L1] at h
        refine Run.skip ?_
        refine Run.seq ?_
        refine Run.block ?_
        refine Run.seq ?_
        refine Run.reg ?_
        refine X.move (by rfl) (by rfl) ?_
        refine X.assign (by rfl) (by rfl) ?_
        refine X.nil ?_
        refine Run.seq ?_
        refine Run.draw (footOf []) mixed (by kernel_rfl) (by kernel_rfl) ?_
        refine X.move (by rfl) (by rfl) ?_
        refine X.move (by rfl) (by rfl) ?_
        refine X.index_s elt26 (by rfl) (by rfl) (idxL_spec hx8).1 (idxL_map int hx8) (by rfl) (by rfl) (by rfl) ?_
        refine X.load_c shp3 (by rfl) (by rfl) (by rfl) (by rfl) ?_
        refine X.move (by rfl) (by rfl) ?_
        refine X.move (by rfl) (by rfl) ?_
        obtain ⟨v13, hv13, h⟩ := bindE h
        refine X.index_s elt26 (by rfl) (by rfl) (idxL_spec hv13).1 (idxL_map int hv13) (by rfl) (by rfl) (by rfl) ?_
        refine X.load_c shp3 (by rfl) (by rfl) (by rfl) (by rfl) ?_
        refine X.bin (by rfl) (by rfl) (by rfl) (by rfl) (by intro h; cases h) (by rfl) ?_
        refine X.nil ?_
        refine R.cond (by rfl) (fun hc14 => ?_) (fun hc14 => ?_)
        · replace h := condT hc14 h
          refine Run.seq ?_
          refine Run.reg ?_
          refine X.assign (by rfl) (by rfl) ?_
          refine X.nil ?_
          cases h
          have h := hup3
          replace h := elimR h
          cases h
          refine R.fin1 Try.results45 (by rfl) (by rfl) ?_
          rfl
        · replace h := condF hc14 h
          refine Run.skip ?_
          refine Run.blk ?_
          refine Run.reg ?_
          refine X.add (by rfl) (by rfl) (by omega) (by rfl) ?_
          refine X.move (by rfl) (by rfl) ?_
          refine X.nil ?_
          exact hag8 (n8 - 1) (z9 + 1) _ _ (by omega) ⟨by first | omega | (dsimp only; omega), by first | omega | (dsimp only; omega), by first | (rw [hds8]; exact h) | (dsimp only; rw [hds8]; exact h)⟩ (by repeat (first | exact trivial | refine ⟨by rfl, ?_⟩ | refine ⟨by simp [setL], ?_⟩)) (by repeat (first | exact trivial | refine ⟨by rfl, ?_⟩ | refine ⟨by simp [setL], ?_⟩)) (by rfl) (by rfl)
      · rw [drop_endI hza8 hc12] at h
        rw [slices_Equal_int_L1] at h
        refine Run.exit (by rfl) ?_
        exact hmeet4 () _ _ (Option.some.inj h) (by repeat (first | exact trivial | refine ⟨by rfl, ?_⟩ | refine ⟨by simp [setL], ?_⟩)) (by repeat (first | exact trivial | refine ⟨by rfl, ?_⟩ | refine ⟨by simp [setL], ?_⟩)) (by rfl) (by rfl)
    rintro p15 rfl
    replace h := elimL h
    refine Run.seq ?_
    refine Run.reg ?_
    refine X.assign (by rfl) (by rfl) ?_
    refine X.nil ?_
    cases h
    refine R.fin1 Try.results45 (by rfl) (by rfl) ?_
    rfl
theorem i_ScheduleEqual_pc (b0 : TSchedule) (b1 : TSchedule) (r : Bool) (h : i_ScheduleEqual b0 b1 = some r) : PC Try.prog 44 [eTSchedule b0, eTSchedule b1] (bool r) := by
  unfold i_ScheduleEqual at h
  refine PC.start Try.func44 Try.ntmps44 rfl ok44 rfl ?_
  refine Run.seq ?_
  refine Run.reg ?_
  refine X.box (by rfl) (by rfl) (by repeat (first | exact trivial | refine ⟨by rfl, ?_⟩ | refine ⟨by simp [setL], ?_⟩)) (by rfl) (by rfl) (by rfl) (by rfl) ?_
  refine X.box (by rfl) (by rfl) (by repeat (first | exact trivial | refine ⟨by rfl, ?_⟩ | refine ⟨by simp [setL], ?_⟩)) (by rfl) (by rfl) (by rfl) (by rfl) ?_
  refine X.assign (by rfl) (by rfl) ?_
  refine X.nil ?_
  refine Run.seq ?_
  obtain ⟨v1, hv1, h⟩ := bindE h
  obtain ⟨e2, he2, h2⟩ := bindE h
  refine R.regG [(4, bool e2)] [] ?_ ?_
  · clear h; have h := he2; clear he2 h2
    refine X.fieldAddr_l fld33_0 (by rfl) (by rfl) ?_
    refine X.load_l shp26 (by rfl) (by rfl) (by rfl) (by rfl) (by rfl) (by rfl) ?_
    refine X.fieldAddr_l fld33_0 (by rfl) (by rfl) ?_
    refine X.load_l shp26 (by rfl) (by rfl) (by rfl) (by rfl) (by rfl) (by rfl) ?_
    refine X.callP (slices_Equal_int_pc _ _ _ hv1) (by rfl) (by rfl) (by rfl) (by repeat (first | exact trivial | refine ⟨by rfl, ?_⟩ | refine ⟨by simp [setL], ?_⟩)) (by rfl) (by rfl) (by rfl) (by rfl) ?_
    refine X.move (by rfl) (by rfl) ?_
    refine X.ifG (by rfl) (by rfl) (by rfl) (fun hb3 => ?_) (fun hb3 => ?_)
    · replace h := condT hb3 h
      refine X.fieldAddr_l fld33_1 (by rfl) (by rfl) ?_
      refine X.gyes (by rfl) (by rfl) (by first | rfl | assumption | simp_all) ?_
      refine X.load_l shp26 (by rfl) (by rfl) (by rfl) (by rfl) (by rfl) (by rfl) ?_
      refine X.gyes (by rfl) (by rfl) (by first | rfl | assumption | simp_all) ?_
      refine X.fieldAddr_l fld33_1 (by rfl) (by rfl) ?_
      refine X.gyes (by rfl) (by rfl) (by first | rfl | assumption | simp_all) ?_
      refine X.load_l shp26 (by rfl) (by rfl) (by rfl) (by rfl) (by rfl) (by rfl) ?_
      refine X.gyes (by rfl) (by rfl) (by first | rfl | assumption | simp_all) ?_
      obtain ⟨v4, hv4, h⟩ := bindE h
      refine X.callP (slices_Equal_int_pc _ _ _ hv4) (by rfl) (by rfl) (by rfl) (by repeat (first | exact trivial | refine ⟨by rfl, ?_⟩ | refine ⟨by simp [setL], ?_⟩)) (by rfl) (by rfl) (by rfl) (by rfl) ?_
      refine X.pickT (by rfl) (by first | rfl | assumption | simp_all) (by rfl) (by rfl) ?_
      refine X.assign (by rfl) (by rfl) ?_
      cases h
      exact X.endG (by repeat (first | exact trivial | refine ⟨by rfl, ?_⟩ | refine ⟨by simp [setL], ?_⟩)) (by repeat (first | exact trivial | refine ⟨by rfl, ?_⟩ | refine ⟨by simp [setL], ?_⟩)) (by rfl) (by rfl)
    · replace h := condF hb3 h
      refine X.gno (by rfl) (by rfl) (by first | rfl | assumption | simp_all) (by rfl) ?_
      refine X.gno (by rfl) (by rfl) (by first | rfl | assumption | simp_all) (by rfl) ?_
      refine X.gno (by rfl) (by rfl) (by first | rfl | assumption | simp_all) (by rfl) ?_
      refine X.gno (by rfl) (by rfl) (by first | rfl | assumption | simp_all) (by rfl) ?_
      refine X.pickF (by rfl) (by first | rfl | assumption | simp_all) (by rfl) (by rfl) ?_
      refine X.assign (by rfl) (by rfl) ?_
      cases h
      exact X.endG (by repeat (first | exact trivial | refine ⟨by rfl, ?_⟩ | refine ⟨by simp [setL], ?_⟩)) (by repeat (first | exact trivial | refine ⟨by rfl, ?_⟩ | refine ⟨by simp [setL], ?_⟩)) (by rfl) (by rfl)
  replace h := h2; clear h2
  cases h
  refine R.fin1 Try.results44 (by rfl) (by rfl) ?_
  rfl
theorem i_PlanEqual_pc (b0 : TPlan) (b1 : TPlan) (r : Bool) (h : i_PlanEqual b0 b1 = some r) : PC Try.prog 18 [eTPlan b0, eTPlan b1] (bool r) := by
  unfold i_PlanEqual at h
  refine PC.start Try.func18 Try.ntmps18 rfl ok18 rfl ?_
  refine Run.seq ?_
  refine Run.reg ?_
  refine X.box (by rfl) (by rfl) (by repeat (first | exact trivial | refine ⟨by rfl, ?_⟩ | refine ⟨by simp [setL], ?_⟩)) (by rfl) (by rfl) (by rfl) (by rfl) ?_
  refine X.box (by rfl) (by rfl) (by repeat (first | exact trivial | refine ⟨by rfl, ?_⟩ | refine ⟨by simp [setL], ?_⟩)) (by rfl) (by rfl) (by rfl) (by rfl) ?_
  refine X.assign (by rfl) (by rfl) ?_
  refine X.nil ?_
  refine Run.seq ?_
  obtain ⟨v1, hv1, h⟩ := bindE h
  obtain ⟨e2, he2, h2⟩ := bindE h
  refine R.regG [(4, bool e2)] [] ?_ ?_
  · clear h; have h := he2; clear he2 h2
    refine X.fieldAddr_l fld35_0 (by rfl) (by rfl) ?_
    refine X.load_l shp33 (by rfl) (by rfl) (by rfl) (by rfl) (by rfl) (by rfl) ?_
    refine X.fieldAddr_l fld35_0 (by rfl) (by rfl) ?_
    refine X.load_l shp33 (by rfl) (by rfl) (by rfl) (by rfl) (by rfl) (by rfl) ?_
    refine X.callP (i_ScheduleEqual_pc _ _ _ hv1) (by rfl) (by rfl) (by rfl) (by repeat (first | exact trivial | refine ⟨by rfl, ?_⟩ | refine ⟨by simp [setL], ?_⟩)) (by rfl) (by rfl) (by rfl) (by rfl) ?_
    refine X.move (by rfl) (by rfl) ?_
    refine X.ifG (by rfl) (by rfl) (by rfl) (fun hb3 => ?_) (fun hb3 => ?_)
    · replace h := condT hb3 h
      refine X.fieldAddr_l fld35_1 (by rfl) (by rfl) ?_
      refine X.gyes (by rfl) (by rfl) (by first | rfl | assumption | simp_all) ?_
      refine X.load_l shp26 (by rfl) (by rfl) (by rfl) (by rfl) (by rfl) (by rfl) ?_
      refine X.gyes (by rfl) (by rfl) (by first | rfl | assumption | simp_all) ?_
      refine X.fieldAddr_l fld35_1 (by rfl) (by rfl) ?_
      refine X.gyes (by rfl) (by rfl) (by first | rfl | assumption | simp_all) ?_
      refine X.load_l shp26 (by rfl) (by rfl) (by rfl) (by rfl) (by rfl) (by rfl) ?_
      refine X.gyes (by rfl) (by rfl) (by first | rfl | assumption | simp_all) ?_
      obtain ⟨v4, hv4, h⟩ := bindE h
      refine X.callP (slices_Equal_int_pc _ _ _ hv4) (by rfl) (by rfl) (by rfl) (by repeat (first | exact trivial | refine ⟨by rfl, ?_⟩ | refine ⟨by simp [setL], ?_⟩)) (by rfl) (by rfl) (by rfl) (by rfl) ?_
      refine X.pickT (by rfl) (by first | rfl | assumption | simp_all) (by rfl) (by rfl) ?_
      refine X.assign (by rfl) (by rfl) ?_
      cases h
      exact X.endG (by repeat (first | exact trivial | refine ⟨by rfl, ?_⟩ | refine ⟨by simp [setL], ?_⟩)) (by repeat (first | exact trivial | refine ⟨by rfl, ?_⟩ | refine ⟨by simp [setL], ?_⟩)) (by rfl) (by rfl)
    · replace h := condF hb3 h
      refine X.gno (by rfl) (by rfl) (by first | rfl | assumption | simp_all) (by rfl) ?_
      refine X.gno (by rfl) (by rfl) (by first | rfl | assumption | simp_all) (by rfl) ?_
      refine X.gno (by rfl) (by rfl) (by first | rfl | assumption | simp_all) (by rfl) ?_
      refine X.gno (by rfl) (by rfl) (by first | rfl | assumption | simp_all) (by rfl) ?_
      refine X.pickF (by rfl) (by first | rfl | assumption | simp_all) (by rfl) (by rfl) ?_
      refine X.assign (by rfl) (by rfl) ?_
      cases h
      exact X.endG (by repeat (first | exact trivial | refine ⟨by rfl, ?_⟩ | refine ⟨by simp [setL], ?_⟩)) (by repeat (first | exact trivial | refine ⟨by rfl, ?_⟩ | refine ⟨by simp [setL], ?_⟩)) (by rfl) (by rfl)
  replace h := h2; clear h2
  cases h
  refine R.fin1 Try.results18 (by rfl) (by rfl) ?_
  rfl
theorem w_eqIntS_pc (b0 : List Int) (b1 : List Int) (r : Bool) (h : w_eqIntS b0 b1 = some r) : PC Try.prog 46 [.slice (b0.map int), .slice (b1.map int)] (bool r) := by
  unfold w_eqIntS at h
  refine PC.start Try.func46 Try.ntmps46 rfl ok46 rfl ?_
  refine Run.seq ?_
  refine Run.reg ?_
  refine X.assign (by rfl) (by rfl) ?_
  refine X.nil ?_
  refine Run.seq ?_
  refine Run.seq ?_
  refine Run.reg ?_
  refine X.move (by rfl) (by rfl) ?_
  refine X.len_s elt26 (by rfl) (by exact List.length_map ..) (by rfl) ?_
  refine X.move (by rfl) (by rfl) ?_
  refine X.len_s elt26 (by rfl) (by exact List.length_map ..) (by rfl) ?_
  refine X.bin (by rfl) (by rfl) (by rfl) (by rfl) (by intro h; cases h) (by rfl) ?_
  refine X.nil ?_
  refine R.cond (by rfl) (fun hc1 => ?_) (fun hc1 => ?_)
  · replace h := condT hc1 h
    refine Run.seq ?_
    refine Run.reg ?_
    refine X.assign (by rfl) (by rfl) ?_
    refine X.nil ?_
    cases h
    refine R.fin1 Try.results46 (by rfl) (by rfl) ?_
    rfl
  · replace h := condF hc1 h
    refine Run.skip ?_
    refine Run.seq ?_
    refine Run.seq ?_
    refine Run.reg ?_
    refine X.assign (by rfl) (by rfl) ?_
    refine X.nil ?_
    obtain ⟨o2, ho2, h⟩ := bindE h
    refine R.join2 (β := Unit) [] [] (fun p15 S => S) (fun p15 M => M) (fun p15 => (Sum.inl p15) = o2) ?_ ?_
    · intro JJ5 hmeet4
      have hup3 := h; clear h; have h := ho2; clear ho2
      refine Run.block ?_
      refine R.bndS (t := 0) (by rfl) (fun hbd8 => ?_)
      replace hbd8 : b0.length ≤ 9223372036854775807 := by first | (rw [List.length_map] at hbd8; exact hbd8) | simp
      refine R.loop2 (β := Int) [(0, .slice (b0.map int)), (1, .slice (b1.map int))] [] (fun bb S => (5, int bb) :: S) (fun bb M => M) (fun n bb => 0 ≤ bb ∧ bb + n = (b0.length : Int) ∧ w_eqIntS_L1 b1 (b0.drop bb.toNat) bb = some o2) b0.length (0 : Int) (by repeat (first | exact trivial | refine ⟨by rfl, ?_⟩ | refine ⟨by simp [setL], ?_⟩)) (by repeat (first | exact trivial | refine ⟨by rfl, ?_⟩ | refine ⟨by simp [setL], ?_⟩)) (by rfl) (by rfl) ⟨Int.le_refl _, by simp, h⟩ ?_
      clear h
      rintro JJ8 n8 z9 hag8 ⟨hza8, hzb8, h⟩
      refine Run.seq ?_
      refine Run.seq ?_
      refine Run.reg ?_
      refine X.move (by rfl) (by rfl) ?_
      refine X.move (by rfl) (by rfl) ?_
      refine X.len_s elt26 (by rfl) (by exact List.length_map ..) (by rfl) ?_
      refine X.bin (by rfl) (by rfl) (by rfl) (by rfl) (by intro h; cases h) (by rfl) ?_
      refine X.nil ?_
      refine R.cond (by rfl) (fun hc12 => ?_) (fun hc12 => ?_)
      · obtain ⟨x10, xs11, hd8, hx8, hds8, hlt8⟩ := drop_atI hza8 hc12
        rw [hd8] at h
        rw [w_eqIntS_L1] at h
        refine Run.skip ?_
        refine Run.seq ?_
        refine Run.block ?_
        refine Run.seq ?_
        refine Run.draw (footOf []) mixed (by kernel_rfl) (by kernel_rfl) ?_
        refine X.move (by rfl) (by rfl) ?_
        refine X.move (by rfl) (by rfl) ?_
        refine X.index_s elt26 (by rfl) (by rfl) (idxL_spec hx8).1 (idxL_map int hx8) (by rfl) (by rfl) (by rfl) ?_
        refine X.load_c shp3 (by rfl) (by rfl) (by rfl) (by rfl) ?_
        refine X.move (by rfl) (by rfl) ?_
        refine X.move (by rfl) (by rfl) ?_
        obtain ⟨v13, hv13, h⟩ := bindE h
        refine X.index_s elt26 (by rfl) (by rfl) (idxL_spec hv13).1 (idxL_map int hv13) (by rfl) (by rfl) (by rfl) ?_
        refine X.load_c shp3 (by rfl) (by rfl) (by rfl) (by rfl) ?_
        refine X.bin (by rfl) (by rfl) (by rfl) (by rfl) (by intro h; cases h) (by rfl) ?_
        refine X.nil ?_
        refine R.cond (by rfl) (fun hc14 => ?_) (fun hc14 => ?_)
        · replace h := condT hc14 h
          refine Run.seq ?_
          refine Run.reg ?_
          refine X.assign (by rfl) (by rfl) ?_
          refine X.nil ?_
          cases h
          have h := hup3
          replace h := elimR h
          cases h
          refine R.fin1 Try.results46 (by rfl) (by rfl) ?_
          rfl
        · replace h := condF hc14 h
          refine Run.skip ?_
          refine Run.blk ?_
          refine Run.reg ?_
          refine X.move (by rfl) (by rfl) ?_
          refine X.add (by rfl) (by rfl) (by omega) (by rfl) ?_
          refine X.assign (by rfl) (by rfl) ?_
          refine X.nil ?_
          exact hag8 (n8 - 1) (z9 + 1) _ _ (by omega) ⟨by first | omega | (dsimp only; omega), by first | omega | (dsimp only; omega), by first | (rw [hds8]; exact h) | (dsimp only; rw [hds8]; exact h)⟩ (by repeat (first | exact trivial | refine ⟨by rfl, ?_⟩ | refine ⟨by simp [setL], ?_⟩)) (by repeat (first | exact trivial | refine ⟨by rfl, ?_⟩ | refine ⟨by simp [setL], ?_⟩)) (by rfl) (by rfl)
      · rw [drop_endI hza8 hc12] at h
        rw [w_eqIntS_L1] at h
        refine Run.exit (by rfl) ?_
        exact hmeet4 () _ _ (Option.some.inj h) (by repeat (first | exact trivial | refine ⟨by rfl, ?_⟩ | refine ⟨by simp [setL], ?_⟩)) (by repeat (first | exact trivial | refine ⟨by rfl, ?_⟩ | refine ⟨by simp [setL], ?_⟩)) (by rfl) (by rfl)
    rintro p15 rfl
    replace h := elimL h
    refine Run.seq ?_
    refine Run.reg ?_
    refine X.assign (by rfl) (by rfl) ?_
    refine X.nil ?_
    cases h
    refine R.fin1 Try.results46 (by rfl) (by rfl) ?_
    rfl
theorem w_eqSchedule_pc (b0 : TSchedule) (b1 : TSchedule) (r : Bool) (h : w_eqSchedule b0 b1 = some r) : PC Try.prog 29 [eTSchedule b0, eTSchedule b1] (bool r) := by
  unfold w_eqSchedule at h
  refine PC.start Try.func29 Try.ntmps29 rfl ok29 rfl ?_
  refine Run.seq ?_
  refine Run.reg ?_
  refine X.box (by rfl) (by rfl) (by repeat (first | exact trivial | refine ⟨by rfl, ?_⟩ | refine ⟨by simp [setL], ?_⟩)) (by rfl) (by rfl) (by rfl) (by rfl) ?_
  refine X.box (by rfl) (by rfl) (by repeat (first | exact trivial | refine ⟨by rfl, ?_⟩ | refine ⟨by simp [setL], ?_⟩)) (by rfl) (by rfl) (by rfl) (by rfl) ?_
  refine X.assign (by rfl) (by rfl) ?_
  refine X.nil ?_
  refine Run.seq ?_
  refine Run.seq ?_
  refine Run.reg ?_
  refine X.fieldAddr_l fld33_0 (by rfl) (by rfl) ?_
  refine X.load_l shp26 (by rfl) (by rfl) (by rfl) (by rfl) (by rfl) (by rfl) ?_
  refine X.fieldAddr_l fld33_0 (by rfl) (by rfl) ?_
  refine X.load_l shp26 (by rfl) (by rfl) (by rfl) (by rfl) (by rfl) (by rfl) ?_
  obtain ⟨v1, hv1, h⟩ := bindE h
  refine X.callP (w_eqIntS_pc _ _ _ hv1) (by rfl) (by rfl) (by rfl) (by repeat (first | exact trivial | refine ⟨by rfl, ?_⟩ | refine ⟨by simp [setL], ?_⟩)) (by rfl) (by rfl) (by rfl) (by rfl) ?_
  refine X.un (by rfl) (by rfl) (by rfl) ?_
  refine X.nil ?_
  refine R.cond (by rfl) (fun hc2 => ?_) (fun hc2 => ?_)
  · replace h := condT hc2 h
    refine Run.seq ?_
    refine Run.reg ?_
    refine X.assign (by rfl) (by rfl) ?_
    refine X.nil ?_
    cases h
    refine R.fin1 Try.results29 (by rfl) (by rfl) ?_
    rfl
  · replace h := condF hc2 h
    refine Run.skip ?_
    refine Run.seq ?_
    refine Run.seq ?_
    refine Run.reg ?_
    refine X.fieldAddr_l fld33_1 (by rfl) (by rfl) ?_
    refine X.load_l shp26 (by rfl) (by rfl) (by rfl) (by rfl) (by rfl) (by rfl) ?_
    refine X.fieldAddr_l fld33_1 (by rfl) (by rfl) ?_
    refine X.load_l shp26 (by rfl) (by rfl) (by rfl) (by rfl) (by rfl) (by rfl) ?_
    obtain ⟨v3, hv3, h⟩ := bindE h
    refine X.callP (w_eqIntS_pc _ _ _ hv3) (by rfl) (by rfl) (by rfl) (by repeat (first | exact trivial | refine ⟨by rfl, ?_⟩ | refine ⟨by simp [setL], ?_⟩)) (by rfl) (by rfl) (by rfl) (by rfl) ?_
    refine X.un (by rfl) (by rfl) (by rfl) ?_
    refine X.nil ?_
    refine R.cond (by rfl) (fun hc4 => ?_) (fun hc4 => ?_)
    · replace h := condT hc4 h
      refine Run.seq ?_
      refine Run.reg ?_
      refine X.assign (by rfl) (by rfl) ?_
      refine X.nil ?_
      cases h
      refine R.fin1 Try.results29 (by rfl) (by rfl) ?_
      rfl
    · replace h := condF hc4 h
      refine Run.skip ?_
      refine Run.seq ?_
      refine Run.reg ?_
      refine X.assign (by rfl) (by rfl) ?_
      refine X.nil ?_
      cases h
      refine R.fin1 Try.results29 (by rfl) (by rfl) ?_
      rfl
theorem w_eqPlan_pc (b0 : TPlan) (b1 : TPlan) (r : Bool) (h : w_eqPlan b0 b1 = some r) : PC Try.prog 19 [eTPlan b0, eTPlan b1] (bool r) := by
  unfold w_eqPlan at h
  refine PC.start Try.func19 Try.ntmps19 rfl ok19 rfl ?_
  refine Run.seq ?_
  refine Run.reg ?_
  refine X.box (by rfl) (by rfl) (by repeat (first | exact trivial | refine ⟨by rfl, ?_⟩ | refine ⟨by simp [setL], ?_⟩)) (by rfl) (by rfl) (by rfl) (by rfl) ?_
  refine X.box (by rfl) (by rfl) (by repeat (first | exact trivial | refine ⟨by rfl, ?_⟩ | refine ⟨by simp [setL], ?_⟩)) (by rfl) (by rfl) (by rfl) (by rfl) ?_
  refine X.assign (by rfl) (by rfl) ?_
  refine X.nil ?_
  refine Run.seq ?_
  refine Run.seq ?_
  refine Run.reg ?_
  refine X.fieldAddr_l fld35_0 (by rfl) (by rfl) ?_
  refine X.load_l shp33 (by rfl) (by rfl) (by rfl) (by rfl) (by rfl) (by rfl) ?_
  refine X.fieldAddr_l fld35_0 (by rfl) (by rfl) ?_
  refine X.load_l shp33 (by rfl) (by rfl) (by rfl) (by rfl) (by rfl) (by rfl) ?_
  obtain ⟨v1, hv1, h⟩ := bindE h
  refine X.callP (w_eqSchedule_pc _ _ _ hv1) (by rfl) (by rfl) (by rfl) (by repeat (first | exact trivial | refine ⟨by rfl, ?_⟩ | refine ⟨by simp [setL], ?_⟩)) (by rfl) (by rfl) (by rfl) (by rfl) ?_
  refine X.un (by rfl) (by rfl) (by rfl) ?_
  refine X.nil ?_
  refine R.cond (by rfl) (fun hc2 => ?_) (fun hc2 => ?_)
  · replace h := condT hc2 h
    refine Run.seq ?_
    refine Run.reg ?_
    refine X.assign (by rfl) (by rfl) ?_
    refine X.nil ?_
    cases h
    refine R.fin1 Try.results19 (by rfl) (by rfl) ?_
    rfl
  · replace h := condF hc2 h
    refine Run.skip ?_
    refine Run.seq ?_
    refine Run.seq ?_
    refine Run.reg ?_
    refine X.fieldAddr_l fld35_1 (by rfl) (by rfl) ?_
    refine X.load_l shp26 (by rfl) (by rfl) (by rfl) (by rfl) (by rfl) (by rfl) ?_
    refine X.fieldAddr_l fld35_1 (by rfl) (by rfl) ?_
    refine X.load_l shp26 (by rfl) (by rfl) (by rfl) (by rfl) (by rfl) (by rfl) ?_
    obtain ⟨v3, hv3, h⟩ := bindE h
    refine X.callP (w_eqIntS_pc _ _ _ hv3) (by rfl) (by rfl) (by rfl) (by repeat (first | exact trivial | refine ⟨by rfl, ?_⟩ | refine ⟨by simp [setL], ?_⟩)) (by rfl) (by rfl) (by rfl) (by rfl) ?_
    refine X.un (by rfl) (by rfl) (by rfl) ?_
    refine X.nil ?_
    refine R.cond (by rfl) (fun hc4 => ?_) (fun hc4 => ?_)
    · replace h := condT hc4 h
      refine Run.seq ?_
      refine Run.reg ?_
      refine X.assign (by rfl) (by rfl) ?_
      refine X.nil ?_
      cases h
      refine R.fin1 Try.results19 (by rfl) (by rfl) ?_
      rfl
    · replace h := condF hc4 h
      refine Run.skip ?_
      refine Run.seq ?_
      refine Run.reg ?_
      refine X.assign (by rfl) (by rfl) ?_
      refine X.nil ?_
      cases h
      refine R.fin1 Try.results19 (by rfl) (by rfl) ?_
      rfl
theorem w_FnExactPlanEqual_pc (b0 : TPlan) (b1 : TPlan) (r : Bool) (h : w_FnExactPlanEqual b0 b1 = some r) : PC Try.prog 6 [eTPlan b0, eTPlan b1] (bool r) := by
  unfold w_FnExactPlanEqual at h
  refine PC.start Try.func6 Try.ntmps6 rfl ok6 rfl ?_
  refine Run.seq ?_
  refine Run.reg ?_
  refine X.box (by rfl) (by rfl) (by repeat (first | exact trivial | refine ⟨by rfl, ?_⟩ | refine ⟨by simp [setL], ?_⟩)) (by rfl) (by rfl) (by rfl) (by rfl) ?_
  refine X.box (by rfl) (by rfl) (by repeat (first | exact trivial | refine ⟨by rfl, ?_⟩ | refine ⟨by simp [setL], ?_⟩)) (by rfl) (by rfl) (by rfl) (by rfl) ?_
  refine X.assign (by rfl) (by rfl) ?_
  refine X.nil ?_
  refine Run.seq ?_
  refine Run.reg ?_
  refine X.assign (by rfl) (by rfl) ?_
  refine X.nil ?_
  refine Run.seq ?_
  refine Run.reg ?_
  refine X.load_l shp30 (by rfl) (by rfl) (by rfl) (by rfl) (by rfl) (by rfl) ?_
  refine X.move (by rfl) (by rfl) ?_
  obtain ⟨v1, hv1, h⟩ := bindE h
  refine X.callP (w_szPlan_pc _ _ _ hv1) (by rfl) (by rfl) (by rfl) (by repeat (first | exact trivial | refine ⟨by rfl, ?_⟩ | refine ⟨by simp [setL], ?_⟩)) (by rfl) (by rfl) (by rfl) (by rfl) ?_
  refine X.assign (by rfl) (by rfl) ?_
  refine X.nil ?_
  refine Run.seq ?_
  refine Run.seq ?_
  refine Run.reg ?_
  refine X.move (by rfl) (by rfl) ?_
  refine X.bin (by rfl) (by rfl) (by rfl) (by rfl) (by intro h; cases h) (by rfl) ?_
  refine X.nil ?_
  refine R.cond (by rfl) (fun hc2 => ?_) (fun hc2 => ?_)
  · replace h := condT hc2 h
    refine Run.seq ?_
    refine Run.reg ?_
    refine X.assign (by rfl) (by rfl) ?_
    refine X.nil ?_
    cases h
    refine R.fin1 Try.results6 (by rfl) (by rfl) ?_
    rfl
  · replace h := condF hc2 h
    refine Run.skip ?_
    refine Run.seq ?_
    refine Run.reg ?_
    refine X.load_l shp30 (by rfl) (by rfl) (by rfl) (by rfl) (by rfl) (by rfl) ?_
    refine X.move (by rfl) (by rfl) ?_
    obtain ⟨v3, hv3, h⟩ := bindE h
    refine X.callP (w_szPlan_pc _ _ _ hv3) (by rfl) (by rfl) (by rfl) (by repeat (first | exact trivial | refine ⟨by rfl, ?_⟩ | refine ⟨by simp [setL], ?_⟩)) (by rfl) (by rfl) (by rfl) (by rfl) ?_
    refine X.assign (by rfl) (by rfl) ?_
    refine X.nil ?_
    refine Run.seq ?_
    refine Run.seq ?_
    refine Run.reg ?_
    refine X.move (by rfl) (by rfl) ?_
    refine X.bin (by rfl) (by rfl) (by rfl) (by rfl) (by intro h; cases h) (by rfl) ?_
    refine X.nil ?_
    refine R.cond (by rfl) (fun hc4 => ?_) (fun hc4 => ?_)
    · replace h := condT hc4 h
      refine Run.seq ?_
      refine Run.reg ?_
      refine X.assign (by rfl) (by rfl) ?_
      refine X.nil ?_
      cases h
      refine R.fin1 Try.results6 (by rfl) (by rfl) ?_
      rfl
    · replace h := condF hc4 h
      refine Run.skip ?_
      refine Run.seq ?_
      refine Run.draw (footOf [(0, ([128], [])), (1, ([], [1344, 1345, 1346])), (2, ([192], [])), (3, ([], [1472, 1473, 1474])), (4, ([1344, 1345, 1346, 1472, 1473, 1474], []))]) mixed (by kernel_rfl) (by kernel_rfl) ?_
      refine X.load_l shp30 (by rfl) (by rfl) (by rfl) (by rfl) (by rfl) (by rfl) ?_
      obtain ⟨v5, hv5, h⟩ := bindE h
      refine X.callA (w_toPlan_pc _ _ hv5) (by rfl) (by rfl) (by rfl) (by repeat (first | exact trivial | refine ⟨by rfl, ?_⟩ | refine ⟨by simp [setL], ?_⟩)) (by rfl) (by rfl) (by rfl) (by rfl) (by rfl) (by rfl) ?_
      refine X.load_l shp30 (by rfl) (by rfl) (by rfl) (by rfl) (by rfl) (by rfl) ?_
      obtain ⟨v6, hv6, h⟩ := bindE h
      refine X.callA (w_toPlan_pc _ _ hv6) (by rfl) (by rfl) (by rfl) (by repeat (first | exact trivial | refine ⟨by rfl, ?_⟩ | refine ⟨by simp [setL], ?_⟩)) (by rfl) (by rfl) (by rfl) (by rfl) (by rfl) (by rfl) ?_
      obtain ⟨v7, hv7, h⟩ := bindE h
      refine X.callP (s_PlanEqual_pc _ _ _ hv7) (by rfl) (by rfl) (by rfl) (by repeat (first | exact trivial | refine ⟨by rfl, ?_⟩ | refine ⟨by simp [setL], ?_⟩)) (by rfl) (by rfl) (by rfl) (by rfl) ?_
      refine X.assign (by rfl) (by rfl) ?_
      refine X.nil ?_
      refine Run.seq ?_
      refine Run.reg ?_
      refine X.load_l shp30 (by rfl) (by rfl) (by rfl) (by rfl) (by rfl) (by rfl) ?_
      obtain ⟨v8, hv8, h⟩ := bindE h
      refine X.callA (w_toPlan_pc _ _ hv8) (by rfl) (by rfl) (by rfl) (by repeat (first | exact trivial | refine ⟨by rfl, ?_⟩ | refine ⟨by simp [setL], ?_⟩)) (by rfl) (by rfl) (by rfl) (by rfl) (by rfl) (by rfl) ?_
      refine X.alloc zer35 (by rfl) (by rfl) (by rfl) ?_
      refine X.store_l shp35 (by rfl) (by rfl) (by rfl) (by rfl) (by repeat (first | exact trivial | refine ⟨by rfl, ?_⟩ | refine ⟨by simp [setL], ?_⟩)) (by rfl) (by rfl) (by rfl) ?_
      refine X.nil ?_
      refine Run.seq ?_
      refine Run.reg ?_
      refine X.load_l shp30 (by rfl) (by rfl) (by rfl) (by rfl) (by rfl) (by rfl) ?_
      obtain ⟨v9, hv9, h⟩ := bindE h
      refine X.callA (w_toPlan_pc _ _ hv9) (by rfl) (by rfl) (by rfl) (by repeat (first | exact trivial | refine ⟨by rfl, ?_⟩ | refine ⟨by simp [setL], ?_⟩)) (by rfl) (by rfl) (by rfl) (by rfl) (by rfl) (by rfl) ?_
      refine X.alloc zer35 (by rfl) (by rfl) (by rfl) ?_
      refine X.store_l shp35 (by rfl) (by rfl) (by rfl) (by rfl) (by repeat (first | exact trivial | refine ⟨by rfl, ?_⟩ | refine ⟨by simp [setL], ?_⟩)) (by rfl) (by rfl) (by rfl) ?_
      refine X.nil ?_
      refine Run.seq ?_
      refine Run.reg ?_
      refine X.load_l shp35 (by rfl) (by rfl) (by rfl) (by rfl) (by rfl) (by rfl) ?_
      refine X.load_l shp35 (by rfl) (by rfl) (by rfl) (by rfl) (by rfl) (by rfl) ?_
      obtain ⟨v10, hv10, h⟩ := bindE h
      refine X.callP (i_PlanEqual_pc _ _ _ hv10) (by rfl) (by rfl) (by rfl) (by repeat (first | exact trivial | refine ⟨by rfl, ?_⟩ | refine ⟨by simp [setL], ?_⟩)) (by rfl) (by rfl) (by rfl) (by rfl) ?_
      refine X.assign (by rfl) (by rfl) ?_
      refine X.nil ?_
      refine Run.seq ?_
      refine Run.seq ?_
      refine Run.reg ?_
      refine X.move (by rfl) (by rfl) ?_
      refine X.move (by rfl) (by rfl) ?_
      refine X.neqBool Try.underlying4 (by rfl) (by rfl) (by rfl) ?_
      refine X.nil ?_
      refine R.cond (by rfl) (fun hc11 => ?_) (fun hc11 => ?_)
      · replace h := condT hc11 h
        refine Run.seq ?_
        refine Run.reg ?_
        refine X.assign (by rfl) (by rfl) ?_
        refine X.nil ?_
        cases h
        refine R.fin1 Try.results6 (by rfl) (by rfl) ?_
        rfl
      · replace h := condF hc11 h
        refine Run.skip ?_
        refine Run.seq ?_
        refine Run.seq ?_
        refine Run.draw (footOf [(0, ([448], [])), (1, ([128], [])), (2, ([], [2368, 2369, 2370])), (3, ([1664, 1665, 1666, 2368, 2369, 2370], []))]) mixed (by kernel_rfl) (by kernel_rfl) ?_
        refine X.load_l shp35 (by rfl) (by rfl) (by rfl) (by rfl) (by rfl) (by rfl) ?_
        refine X.load_l shp30 (by rfl) (by rfl) (by rfl) (by rfl) (by rfl) (by rfl) ?_
        obtain ⟨v12, hv12, h⟩ := bindE h
        refine X.callA (w_toPlan_pc _ _ hv12) (by rfl) (by rfl) (by rfl) (by repeat (first | exact trivial | refine ⟨by rfl, ?_⟩ | refine ⟨by simp [setL], ?_⟩)) (by rfl) (by rfl) (by rfl) (by rfl) (by rfl) (by rfl) ?_
        obtain ⟨v13, hv13, h⟩ := bindE h
        refine X.callP (w_eqPlan_pc _ _ _ hv13) (by rfl) (by rfl) (by rfl) (by repeat (first | exact trivial | refine ⟨by rfl, ?_⟩ | refine ⟨by simp [setL], ?_⟩)) (by rfl) (by rfl) (by rfl) (by rfl) ?_
        refine X.un (by rfl) (by rfl) (by rfl) ?_
        refine X.nil ?_
        refine R.cond (by rfl) (fun hc14 => ?_) (fun hc14 => ?_)
        · replace h := condT hc14 h
          refine Run.seq ?_
          refine Run.reg ?_
          refine X.assign (by rfl) (by rfl) ?_
          refine X.nil ?_
          cases h
          refine R.fin1 Try.results6 (by rfl) (by rfl) ?_
          rfl
        · replace h := condF hc14 h
          refine Run.skip ?_
          refine Run.seq ?_
          refine Run.seq ?_
          refine Run.draw (footOf [(0, ([512], [])), (1, ([192], [])), (2, ([], [2688, 2689, 2690])), (3, ([1792, 1793, 1794, 2688, 2689, 2690], []))]) mixed (by kernel_rfl) (by kernel_rfl) ?_
          refine X.load_l shp35 (by rfl) (by rfl) (by rfl) (by rfl) (by rfl) (by rfl) ?_
          refine X.load_l shp30 (by rfl) (by rfl) (by rfl) (by rfl) (by rfl) (by rfl) ?_
          obtain ⟨v15, hv15, h⟩ := bindE h
          refine X.callA (w_toPlan_pc _ _ hv15) (by rfl) (by rfl) (by rfl) (by repeat (first | exact trivial | refine ⟨by rfl, ?_⟩ | refine ⟨by simp [setL], ?_⟩)) (by rfl) (by rfl) (by rfl) (by rfl) (by rfl) (by rfl) ?_
          obtain ⟨v16, hv16, h⟩ := bindE h
          refine X.callP (w_eqPlan_pc _ _ _ hv16) (by rfl) (by rfl) (by rfl) (by repeat (first | exact trivial | refine ⟨by rfl, ?_⟩ | refine ⟨by simp [setL], ?_⟩)) (by rfl) (by rfl) (by rfl) (by rfl) ?_
          refine X.un (by rfl) (by rfl) (by rfl) ?_
          refine X.nil ?_
          refine R.cond (by rfl) (fun hc17 => ?_) (fun hc17 => ?_)
          · replace h := condT hc17 h
            refine Run.seq ?_
            refine Run.reg ?_
            refine X.assign (by rfl) (by rfl) ?_
            refine X.nil ?_
            cases h
            refine R.fin1 Try.results6 (by rfl) (by rfl) ?_
            rfl
          · replace h := condF hc17 h
            refine Run.skip ?_
            refine Run.seq ?_
            refine Run.reg ?_
            refine X.assign (by rfl) (by rfl) ?_
            refine X.nil ?_
            cases h
            refine R.fin1 Try.results6 (by rfl) (by rfl) ?_
            rfl
theorem w_szLiteralS_pc (b0 : List TLiteral) (b1 : Int) (r : Int) (h : w_szLiteralS b0 b1 = some r) : PC Try.prog 47 [.slice (b0.map eTLiteral), int b1] (int r) := by
  unfold w_szLiteralS at h
  refine PC.start Try.func47 Try.ntmps47 rfl ok47 rfl ?_
  refine Run.seq ?_
  refine Run.reg ?_
  refine X.assign (by rfl) (by rfl) ?_
  refine X.nil ?_
  refine Run.seq ?_
  refine Run.reg ?_
  refine X.move (by rfl) (by rfl) ?_
  refine X.move (by rfl) (by rfl) ?_
  refine X.len_s elt40 (by rfl) (by exact List.length_map ..) (by rfl) ?_
  refine X.subW (by rfl) (by rfl) (by rfl) ?_
  refine X.assign (by rfl) (by rfl) ?_
  refine X.nil ?_
  refine Run.seq ?_
  refine Run.seq ?_
  refine Run.reg ?_
  refine X.move (by rfl) (by rfl) ?_
  refine X.bin (by rfl) (by rfl) (by rfl) (by rfl) (by intro h; cases h) (by rfl) ?_
  refine X.nil ?_
  refine R.cond (by rfl) (fun hc1 => ?_) (fun hc1 => ?_)
  · replace h := condT hc1 h
    refine Run.seq ?_
    refine Run.reg ?_
    refine X.assign (by rfl) (by rfl) ?_
    refine X.nil ?_
    cases h
    refine R.fin1 Try.results47 (by rfl) (by rfl) ?_
    rfl
  · replace h := condF hc1 h
    refine Run.skip ?_
    refine Run.seq ?_
    refine Run.reg ?_
    refine X.move (by rfl) (by rfl) ?_
    refine X.assign (by rfl) (by rfl) ?_
    refine X.nil ?_
    cases h
    refine R.fin1 Try.results47 (by rfl) (by rfl) ?_
    rfl
theorem w_szLine_pc (b0 : TLine) (b1 : Int) (r : Int) (h : w_szLine b0 b1 = some r) : PC Try.prog 20 [eTLine b0, int b1] (int r) := by
  unfold w_szLine at h
  refine PC.start Try.func20 Try.ntmps20 rfl ok20 rfl ?_
  refine Run.seq ?_
  refine Run.reg ?_
  refine X.box (by rfl) (by rfl) (by repeat (first | exact trivial | refine ⟨by rfl, ?_⟩ | refine ⟨by simp [setL], ?_⟩)) (by rfl) (by rfl) (by rfl) (by rfl) ?_
  refine X.assign (by rfl) (by rfl) ?_
  refine X.nil ?_
  refine Run.seq ?_
  refine Run.reg ?_
  refine X.fieldAddr_l fld42_2 (by rfl) (by rfl) ?_
  refine X.load_l shp40 (by rfl) (by rfl) (by rfl) (by rfl) (by rfl) (by rfl) ?_
  refine X.move (by rfl) (by rfl) ?_
  obtain ⟨v1, hv1, h⟩ := bindE h
  refine X.callP (w_szLiteralS_pc _ _ _ hv1) (by rfl) (by rfl) (by rfl) (by repeat (first | exact trivial | refine ⟨by rfl, ?_⟩ | refine ⟨by simp [setL], ?_⟩)) (by rfl) (by rfl) (by rfl) (by rfl) ?_
  refine X.assign (by rfl) (by rfl) ?_
  refine X.nil ?_
  refine Run.seq ?_
  refine Run.seq ?_
  refine Run.reg ?_
  refine X.move (by rfl) (by rfl) ?_
  refine X.bin (by rfl) (by rfl) (by rfl) (by rfl) (by intro h; cases h) (by rfl) ?_
  refine X.nil ?_
  refine R.cond (by rfl) (fun hc2 => ?_) (fun hc2 => ?_)
  · replace h := condT hc2 h
    refine Run.seq ?_
    refine Run.reg ?_
    refine X.assign (by rfl) (by rfl) ?_
    refine X.nil ?_
    cases h
    refine R.fin1 Try.results20 (by rfl) (by rfl) ?_
    rfl
  · replace h := condF hc2 h
    refine Run.skip ?_
    refine Run.seq ?_
    refine Run.reg ?_
    refine X.move (by rfl) (by rfl) ?_
    refine X.assign (by rfl) (by rfl) ?_
    refine X.nil ?_
    cases h
    refine R.fin1 Try.results20 (by rfl) (by rfl) ?_
    rfl
theorem w_toRule_pc (b0 : TRule) (r : TRule) (h : w_toRule b0 = some r) : PC Try.prog 49 [eTRule b0] (eTRule r) := by
  unfold w_toRule at h
  refine PC.start Try.func49 Try.ntmps49 rfl ok49 rfl ?_
  refine Run.seq ?_
  refine Run.reg ?_
  refine X.box (by rfl) (by rfl) (by repeat (first | exact trivial | refine ⟨by rfl, ?_⟩ | refine ⟨by simp [setL], ?_⟩)) (by rfl) (by rfl) (by rfl) (by rfl) ?_
  refine X.alloc zer45 (by rfl) (by rfl) (by rfl) ?_
  refine X.nil ?_
  refine Run.seq ?_
  refine Run.reg ?_
  refine X.alloc zer45 (by rfl) (by rfl) (by rfl) ?_
  refine X.nil ?_
  refine Run.seq ?_
  refine Run.reg ?_
  refine X.fieldAddr_l fld39_0 (by rfl) (by rfl) ?_
  refine X.load_l shp3 (by rfl) (by rfl) (by rfl) (by rfl) (by rfl) (by rfl) ?_
  refine X.fieldAddr_l fld45_0 (by rfl) (by rfl) ?_
  refine X.store_l shp3 (by rfl) (by rfl) (by rfl) (by rfl) (by repeat (first | exact trivial | refine ⟨by rfl, ?_⟩ | refine ⟨by simp [setL], ?_⟩)) (by rfl) (by rfl) (by rfl) ?_
  refine X.nil ?_
  refine Run.seq ?_
  refine Run.reg ?_
  refine X.fieldAddr_l fld39_1 (by rfl) (by rfl) ?_
  refine X.load_l shp3 (by rfl) (by rfl) (by rfl) (by rfl) (by rfl) (by rfl) ?_
  refine X.fieldAddr_l fld45_1 (by rfl) (by rfl) ?_
  refine X.store_l shp3 (by rfl) (by rfl) (by rfl) (by rfl) (by repeat (first | exact trivial | refine ⟨by rfl, ?_⟩ | refine ⟨by simp [setL], ?_⟩)) (by rfl) (by rfl) (by rfl) ?_
  refine X.nil ?_
  refine Run.seq ?_
  refine Run.reg ?_
  refine X.fieldAddr_l fld39_2 (by rfl) (by rfl) ?_
  refine X.load_l shp3 (by rfl) (by rfl) (by rfl) (by rfl) (by rfl) (by rfl) ?_
  refine X.fieldAddr_l fld45_2 (by rfl) (by rfl) ?_
  refine X.store_l shp3 (by rfl) (by rfl) (by rfl) (by rfl) (by repeat (first | exact trivial | refine ⟨by rfl, ?_⟩ | refine ⟨by simp [setL], ?_⟩)) (by rfl) (by rfl) (by rfl) ?_
  refine X.nil ?_
  refine Run.seq ?_
  refine Run.reg ?_
  refine X.fieldAddr_l fld39_3 (by rfl) (by rfl) ?_
  refine X.load_l shp3 (by rfl) (by rfl) (by rfl) (by rfl) (by rfl) (by rfl) ?_
  refine X.fieldAddr_l fld45_3 (by rfl) (by rfl) ?_
  refine X.store_l shp3 (by rfl) (by rfl) (by rfl) (by rfl) (by repeat (first | exact trivial | refine ⟨by rfl, ?_⟩ | refine ⟨by simp [setL], ?_⟩)) (by rfl) (by rfl) (by rfl) ?_
  refine X.nil ?_
  refine Run.seq ?_
  refine Run.reg ?_
  refine X.load_l shp45 (by rfl) (by rfl) (by rfl) (by rfl) (by rfl) (by rfl) ?_
  refine X.store_l shp45 (by rfl) (by rfl) (by rfl) (by rfl) (by repeat (first | exact trivial | refine ⟨by rfl, ?_⟩ | refine ⟨by simp [setL], ?_⟩)) (by rfl) (by rfl) (by rfl) ?_
  refine X.nil ?_
  cases h
  refine R.finC Try.results49 shp45 (by rfl) (by rfl) (by rfl) (by rfl) (by repeat (first | exact trivial | refine ⟨by rfl, ?_⟩ | refine ⟨by simp [setL], ?_⟩)) ?_
  rfl
theorem w_toLiteral_pc (b0 : TLiteral) (r : TLiteral) (h : w_toLiteral b0 = some r) : PC Try.prog 60 [eTLiteral b0] (eTLiteral r) := by
  unfold w_toLiteral at h
  refine PC.start Try.func60 Try.ntmps60 rfl ok60 rfl ?_
  refine Run.seq ?_
  refine Run.reg ?_
  refine X.box (by rfl) (by rfl) (by repeat (first | exact trivial | refine ⟨by rfl, ?_⟩ | refine ⟨by simp [setL], ?_⟩)) (by rfl) (by rfl) (by rfl) (by rfl) ?_
  refine X.alloc zer79 (by rfl) (by rfl) (by rfl) ?_
  refine X.nil ?_
  refine Run.seq ?_
  refine Run.reg ?_
  refine X.alloc zer79 (by rfl) (by rfl) (by rfl) ?_
  refine X.nil ?_
  refine Run.seq ?_
  refine Run.reg ?_
  refine X.fieldAddr_l fld85_0 (by rfl) (by rfl) ?_
  refine X.load_l shp3 (by rfl) (by rfl) (by rfl) (by rfl) (by rfl) (by rfl) ?_
  refine X.fieldAddr_l fld79_0 (by rfl) (by rfl) ?_
  refine X.store_l shp3 (by rfl) (by rfl) (by rfl) (by rfl) (by repeat (first | exact trivial | refine ⟨by rfl, ?_⟩ | refine ⟨by simp [setL], ?_⟩)) (by rfl) (by rfl) (by rfl) ?_
  refine X.nil ?_
  refine Run.seq ?_
  refine Run.reg ?_
  refine X.fieldAddr_l fld85_1 (by rfl) (by rfl) ?_
  refine X.load_l shp3 (by rfl) (by rfl) (by rfl) (by rfl) (by rfl) (by rfl) ?_
  refine X.fieldAddr_l fld79_1 (by rfl) (by rfl) ?_
  refine X.store_l shp3 (by rfl) (by rfl) (by rfl) (by rfl) (by repeat (first | exact trivial | refine ⟨by rfl, ?_⟩ | refine ⟨by simp [setL], ?_⟩)) (by rfl) (by rfl) (by rfl) ?_
  refine X.nil ?_
  refine Run.seq ?_
  refine Run.reg ?_
  refine X.fieldAddr_l fld85_2 (by rfl) (by rfl) ?_
  refine X.load_l shp3 (by rfl) (by rfl) (by rfl) (by rfl) (by rfl) (by rfl) ?_
  refine X.fieldAddr_l fld79_2 (by rfl) (by rfl) ?_
  refine X.store_l shp3 (by rfl) (by rfl) (by rfl) (by rfl) (by repeat (first | exact trivial | refine ⟨by rfl, ?_⟩ | refine ⟨by simp [setL], ?_⟩)) (by rfl) (by rfl) (by rfl) ?_
  refine X.nil ?_
  refine Run.seq ?_
  refine Run.reg ?_
  refine X.load_l shp79 (by rfl) (by rfl) (by rfl) (by rfl) (by rfl) (by rfl) ?_
  refine X.store_l shp79 (by rfl) (by rfl) (by rfl) (by rfl) (by repeat (first | exact trivial | refine ⟨by rfl, ?_⟩ | refine ⟨by simp [setL], ?_⟩)) (by rfl) (by rfl) (by rfl) ?_
  refine X.nil ?_
  cases h
  refine R.finC Try.results60 shp79 (by rfl) (by rfl) (by rfl) (by rfl) (by repeat (first | exact trivial | refine ⟨by rfl, ?_⟩ | refine ⟨by simp [setL], ?_⟩)) ?_
  rfl
theorem w_toLiteralS_pc (b0 : List TLiteral) (r : List TLiteral) (h : w_toLiteralS b0 = some r) : PC Try.prog 50 [.slice (b0.map eTLiteral)] (.fresh false 79 3 (r.map eTLiteral)) := by
  unfold w_toLiteralS at h
  refine PC.start Try.func50 Try.ntmps50 rfl ok50 rfl ?_
  refine Run.seq ?_
  refine Run.reg ?_
  refine X.assign (by rfl) (by rfl) ?_
  refine X.nil ?_
  refine Run.seq ?_
  refine Run.reg ?_
  refine X.move (by rfl) (by rfl) ?_
  refine X.len_s elt40 (by rfl) (by exact List.length_map ..) (by rfl) ?_
  obtain ⟨v1, hv1, h⟩ := bindE h
  refine X.makeSlice2 eTLiteral hv1 elt46 zer79 (by rfl) (by rfl) (by rfl) (by simp [PV.plain]) (by rfl) (by rfl) (by rfl) (by rfl) (by rfl) (by rfl) ?_
  refine X.assign (by rfl) (by rfl) ?_
  refine X.nil ?_
  refine Run.seq ?_
  refine Run.seq ?_
  refine Run.reg ?_
  refine X.assign (by rfl) (by rfl) ?_
  refine X.nil ?_
  obtain ⟨o2, ho2, h⟩ := bindE h
  refine R.join2 (β := (List TLiteral)) [] [] (fun p16 S => (3, .own 448 (p16.map eTLiteral).length) :: S) (fun p16 M => (448, .obj true 79 3 (p16.map eTLiteral)) :: M) (fun p16 => p16 = o2) ?_ ?_
  · intro JJ5 hmeet4
    have hup3 := h; clear h; have h := ho2; clear ho2
    refine Run.block ?_
    refine R.bndS (t := 0) (by rfl) (fun hbd8 => ?_)
    replace hbd8 : b0.length ≤ 9223372036854775807 := by first | (rw [List.length_map] at hbd8; exact hbd8) | simp
    refine R.loop2 (β := Int × (List TLiteral)) [(0, .slice (b0.map eTLiteral))] [] (fun bb S => (3, .own 448 (bb.2.map eTLiteral).length) :: (4, int bb.1) :: S) (fun bb M => (448, .obj true 79 3 (bb.2.map eTLiteral)) :: M) (fun n bb => 0 ≤ bb.1 ∧ bb.1 + n = (b0.length : Int) ∧ w_toLiteralS_L1 (b0.drop bb.1.toNat) bb.1 bb.2 = some o2) b0.length (0, v1) (by repeat (first | exact trivial | refine ⟨by rfl, ?_⟩ | refine ⟨by simp [setL], ?_⟩)) (by repeat (first | exact trivial | refine ⟨by rfl, ?_⟩ | refine ⟨by simp [setL], ?_⟩)) (by rfl) (by rfl) ⟨Int.le_refl _, by simp, h⟩ ?_
    clear h
    rintro JJ8 n8 ⟨z9, a10⟩ hag8 ⟨hza8, hzb8, h⟩
    dsimp only at hza8 hzb8 h
    refine Run.seq ?_
    refine Run.seq ?_
    refine Run.reg ?_
    refine X.move (by rfl) (by rfl) ?_
    refine X.move (by rfl) (by rfl) ?_
    refine X.len_s elt40 (by rfl) (by exact List.length_map ..) (by rfl) ?_
    refine X.bin (by rfl) (by rfl) (by rfl) (by rfl) (by intro h; cases h) (by rfl) ?_
    refine X.nil ?_
    refine R.cond (by rfl) (fun hc13 => ?_) (fun hc13 => ?_)
    · obtain ⟨x11, xs12, hd8, hx8, hds8, hlt8⟩ := drop_atI hza8 hc13
      rw [hd8] at h
      rw [w_toLiteralS_L1] at h
      refine Run.skip ?_
      refine Run.seq ?_
      refine Run.block ?_
      refine Run.reg ?_
      refine X.move (by rfl) (by rfl) ?_
      refine X.move (by rfl) (by rfl) ?_
      refine X.move (by rfl) (by rfl) ?_
      refine X.move (by rfl) (by rfl) ?_
      refine X.index_s elt40 (by rfl) (by rfl) (idxL_spec hx8).1 (idxL_map eTLiteral hx8) (by rfl) (by rfl) (by rfl) ?_
      refine X.load_c shp85 (by rfl) (by rfl) (by rfl) (by rfl) ?_
      obtain ⟨v14, hv14, h⟩ := bindE h
      refine X.callA (w_toLiteral_pc _ _ hv14) (by rfl) (by rfl) (by rfl) (by repeat (first | exact trivial | refine ⟨by rfl, ?_⟩ | refine ⟨by simp [setL], ?_⟩)) (by rfl) (by rfl) (by rfl) (by rfl) (by rfl) (by rfl) ?_
      obtain ⟨v15, hv15, h⟩ := bindE h
      refine X.index_x elt46 (by rfl) (by rfl) (by first | rfl | simp [setL] | omega) (by rfl) (by exact (Int.toNat_of_nonneg (idxL_spec hv15).1).symm) (by have := idxL_lt hv15; simpa using this) (by rfl) (by rfl) ?_
      refine X.store_e2 shp79 (by rfl) (by rfl) (by first | rfl | simp [setL] | omega) (idxL_map _ hv15) (by rfl) (by rfl) (by repeat (first | exact trivial | refine ⟨by rfl, ?_⟩ | refine ⟨by simp [setL], ?_⟩)) (by rfl) (by rfl) (by rfl) (by rfl) (by exact setL_map _ _ _ v14) ?_
      refine X.nil ?_
      refine Run.blk ?_
      refine Run.reg ?_
      refine X.move (by rfl) (by rfl) ?_
      refine X.add (by rfl) (by rfl) (by omega) (by rfl) ?_
      refine X.assign (by rfl) (by rfl) ?_
      refine X.nil ?_
      refine R.castS (t := 3) (.own 448 ((setL a10 z9 v14).map eTLiteral).length) (by rfl) (.inl (by first | rfl | simp [setL])) ?_
      exact hag8 (n8 - 1) (z9 + 1, (setL a10 z9 v14)) _ _ (by omega) ⟨by first | omega | (dsimp only; omega), by first | omega | (dsimp only; omega), by first | (rw [hds8]; exact h) | (dsimp only; rw [hds8]; exact h)⟩ (by repeat (first | exact trivial | refine ⟨by rfl, ?_⟩ | refine ⟨by simp [setL], ?_⟩)) (by repeat (first | exact trivial | refine ⟨by rfl, ?_⟩ | refine ⟨by simp [setL], ?_⟩)) (by rfl) (by rfl)
    · rw [drop_endI hza8 hc13] at h
      rw [w_toLiteralS_L1] at h
      refine Run.exit (by rfl) ?_
      exact hmeet4 a10 _ _ (Option.some.inj h) (by repeat (first | exact trivial | refine ⟨by rfl, ?_⟩ | refine ⟨by simp [setL], ?_⟩)) (by repeat (first | exact trivial | refine ⟨by rfl, ?_⟩ | refine ⟨by simp [setL], ?_⟩)) (by rfl) (by rfl)
  rintro p16 rfl
  refine Run.seq ?_
  refine Run.reg ?_
  refine X.move (by rfl) (by rfl) ?_
  refine X.assign (by rfl) (by rfl) ?_
  refine X.nil ?_
  cases h
  refine R.pubObj (n := 448) (by rfl) ?_
  refine R.fin1o Try.results50 (by rfl) (by rfl) (by first | rfl | simp [setL] | omega) ?_
  rfl
theorem w_toLine_pc (b0 : TLine) (r : TLine) (h : w_toLine b0 = some r) : PC Try.prog 22 [eTLine b0] (.agg [int r.Kind, int r.Rule.Kind, int r.Rule.A, int r.Rule.B, int r.Rule.C, .fresh false 79 3 (r.Clause.map eTLiteral)]) := by
  unfold w_toLine at h
  refine PC.start Try.func22 Try.ntmps22 rfl ok22 rfl ?_
  refine Run.seq ?_
  refine Run.reg ?_
  refine X.box (by rfl) (by rfl) (by repeat (first | exact trivial | refine ⟨by rfl, ?_⟩ | refine ⟨by simp [setL], ?_⟩)) (by rfl) (by rfl) (by rfl) (by rfl) ?_
  refine X.alloc zer48 (by rfl) (by rfl) (by rfl) ?_
  refine X.nil ?_
  refine Run.seq ?_
  refine Run.reg ?_
  refine X.alloc zer48 (by rfl) (by rfl) (by rfl) ?_
  refine X.nil ?_
  refine Run.seq ?_
  refine Run.reg ?_
  refine X.fieldAddr_l fld42_0 (by rfl) (by rfl) ?_
  refine X.load_l shp3 (by rfl) (by rfl) (by rfl) (by rfl) (by rfl) (by rfl) ?_
  refine X.fieldAddr_l fld48_0 (by rfl) (by rfl) ?_
  refine X.store_l shp3 (by rfl) (by rfl) (by rfl) (by rfl) (by repeat (first | exact trivial | refine ⟨by rfl, ?_⟩ | refine ⟨by simp [setL], ?_⟩)) (by rfl) (by rfl) (by rfl) ?_
  refine X.nil ?_
  refine Run.seq ?_
  refine Run.reg ?_
  refine X.fieldAddr_l fld42_1 (by rfl) (by rfl) ?_
  refine X.load_l shp39 (by rfl) (by rfl) (by rfl) (by rfl) (by rfl) (by rfl) ?_
  obtain ⟨v1, hv1, h⟩ := bindE h
  refine X.callA (w_toRule_pc _ _ hv1) (by rfl) (by rfl) (by rfl) (by repeat (first | exact trivial | refine ⟨by rfl, ?_⟩ | refine ⟨by simp [setL], ?_⟩)) (by rfl) (by rfl) (by rfl) (by rfl) (by rfl) (by rfl) ?_
  refine X.fieldAddr_l fld48_1 (by rfl) (by rfl) ?_
  refine X.store_l shp45 (by rfl) (by rfl) (by rfl) (by rfl) (by repeat (first | exact trivial | refine ⟨by rfl, ?_⟩ | refine ⟨by simp [setL], ?_⟩)) (by rfl) (by rfl) (by rfl) ?_
  refine X.nil ?_
  refine Run.seq ?_
  refine Run.reg ?_
  refine X.fieldAddr_l fld42_2 (by rfl) (by rfl) ?_
  refine X.load_l shp40 (by rfl) (by rfl) (by rfl) (by rfl) (by rfl) (by rfl) ?_
  obtain ⟨v2, hv2, h⟩ := bindE h
  refine X.callF (w_toLiteralS_pc _ _ hv2) (by rfl) (by rfl) (by rfl) (by repeat (first | exact trivial | refine ⟨by rfl, ?_⟩ | refine ⟨by simp [setL], ?_⟩)) (by rfl) (by rfl) (by rfl) (by rfl) ?_
  refine X.fieldAddr_l fld48_2 (by rfl) (by rfl) ?_
  refine X.store_l shp46 (by rfl) (by rfl) (by rfl) (by rfl) (by repeat (first | exact trivial | refine ⟨by rfl, ?_⟩ | refine ⟨by simp [setL], ?_⟩)) (by rfl) (by rfl) (by rfl) ?_
  refine X.nil ?_
  refine Run.seq ?_
  refine Run.reg ?_
  refine X.load_l shp48 (by rfl) (by rfl) (by rfl) (by rfl) (by rfl) (by rfl) ?_
  refine X.store_l shp48 (by rfl) (by rfl) (by rfl) (by rfl) (by repeat (first | exact trivial | refine ⟨by rfl, ?_⟩ | refine ⟨by simp [setL], ?_⟩)) (by rfl) (by rfl) (by rfl) ?_
  refine X.nil ?_
  cases h
  refine R.finC Try.results22 shp48 (by rfl) (by rfl) (by rfl) (by rfl) (by repeat (first | exact trivial | refine ⟨by rfl, ?_⟩ | refine ⟨by simp [setL], ?_⟩)) ?_
  rfl
theorem s_ClauseEqual_pc (b0 : List TLiteral) (b1 : List TLiteral) (r : Bool) (h : s_ClauseEqual b0 b1 = some r) : PC Try.prog 48 [.slice (b0.map eTLiteral), .slice (b1.map eTLiteral)] (bool r) := by
  unfold s_ClauseEqual at h
  refine PC.start Try.func48 Try.ntmps48 rfl ok48 rfl ?_
  refine Run.seq ?_
  refine Run.reg ?_
  refine X.assign (by rfl) (by rfl) ?_
  refine X.nil ?_
  refine Run.seq ?_
  refine Run.seq ?_
  refine Run.reg ?_
  refine X.move (by rfl) (by rfl) ?_
  refine X.len_s elt46 (by rfl) (by exact List.length_map ..) (by rfl) ?_
  refine X.move (by rfl) (by rfl) ?_
  refine X.len_s elt46 (by rfl) (by exact List.length_map ..) (by rfl) ?_
  refine X.bin (by rfl) (by rfl) (by rfl) (by rfl) (by intro h; cases h) (by rfl) ?_
  refine X.nil ?_
  refine R.cond (by rfl) (fun hc1 => ?_) (fun hc1 => ?_)
  · replace h := condT hc1 h
    refine Run.seq ?_
    refine Run.reg ?_
    refine X.assign (by rfl) (by rfl) ?_
    refine X.nil ?_
    cases h
    refine R.fin1 Try.results48 (by rfl) (by rfl) ?_
    rfl
  · replace h := condF hc1 h
    refine Run.skip ?_
    refine Run.seq ?_
    refine Run.seq ?_
    refine Run.reg ?_
    refine X.move (by rfl) (by rfl) ?_
    refine X.len_s elt46 (by rfl) (by exact List.length_map ..) (by rfl) ?_
    refine X.move (by rfl) (by rfl) ?_
    refine X.nil ?_
    obtain ⟨o2, ho2, h⟩ := bindE h
    refine R.join2 (β := Unit) [] [] (fun p15 S => S) (fun p15 M => M) (fun p15 => (Sum.inl p15) = o2) ?_ ?_
    · intro JJ5 hmeet4
      have hup3 := h; clear h; have h := ho2; clear ho2
      refine Run.block ?_
      refine R.bndS (t := 0) (by rfl) (fun hbd8 => ?_)
      replace hbd8 : b0.length ≤ 9223372036854775807 := by first | (rw [List.length_map] at hbd8; exact hbd8) | simp
      refine R.loop2 (β := Int) [(1, .slice (b1.map eTLiteral)), (12, .slice (b0.map eTLiteral)), (13, int (b0.length : Int))] [] (fun bb S => (14, int bb) :: S) (fun bb M => M) (fun n bb => 0 ≤ bb ∧ bb + n = (b0.length : Int) ∧ s_ClauseEqual_L1 b1 (b0.drop bb.toNat) bb = some o2) b0.length (0 : Int) (by repeat (first | exact trivial | refine ⟨by rfl, ?_⟩ | refine ⟨by simp [setL], ?_⟩)) (by repeat (first | exact trivial | refine ⟨by rfl, ?_⟩ | refine ⟨by simp [setL], ?_⟩)) (by rfl) (by rfl) ⟨Int.le_refl _, by simp, h⟩ ?_
      clear h
      rintro JJ8 n8 z9 hag8 ⟨hza8, hzb8, h⟩
      refine Run.seq ?_
      refine Run.reg ?_
      refine X.bin (by rfl) (by rfl) (by rfl) (by rfl) (by intro h; cases h) (by rfl) ?_
      refine X.nil ?_
      refine Run.seq ?_
      refine R.cond (by rfl) (fun hc12 => ?_) (fun hc12 => ?_)
      · obtain ⟨x10, xs11, hd8, hx8, hds8, hlt8⟩ := drop_atI hza8 hc12
        rw [hd8] at h
        rw [s_ClauseEqual_L1] at h
        refine Run.skip ?_
        refine Run.seq ?_
        refine Run.block ?_
        refine Run.seq ?_
        refine Run.reg ?_
        refine X.move (by rfl) (by rfl) ?_
        refine X.index_s elt46 (by rfl) (by rfl) (idxL_spec hx8).1 (idxL_map eTLiteral hx8) (by rfl) (by rfl) (by rfl) ?_
        refine X.load_c shp79 (by rfl) (by rfl) (by rfl) (by rfl) ?_
        refine X.alloc zer79 (by rfl) (by rfl) (by rfl) ?_
        refine X.assign (by rfl) (by rfl) ?_
        refine X.store_l shp79 (by rfl) (by rfl) (by rfl) (by rfl) (by repeat (first | exact trivial | refine ⟨by rfl, ?_⟩ | refine ⟨by simp [setL], ?_⟩)) (by rfl) (by rfl) (by rfl) ?_
        refine X.nil ?_
        refine Run.seq ?_
        refine Run.draw (footOf [(0, ([384], []))]) mixed (by kernel_rfl) (by kernel_rfl) ?_
        refine X.load_l shp79 (by rfl) (by rfl) (by rfl) (by rfl) (by rfl) (by rfl) ?_
        refine X.move (by rfl) (by rfl) ?_
        refine X.move (by rfl) (by rfl) ?_
        obtain ⟨v13, hv13, h⟩ := bindE h
        refine X.index_s elt46 (by rfl) (by rfl) (idxL_spec hv13).1 (idxL_map eTLiteral hv13) (by rfl) (by rfl) (by rfl) ?_
        refine X.load_c shp79 (by rfl) (by rfl) (by rfl) (by rfl) ?_
        refine X.neqAgg flat79 (by rfl) (by rfl) (by rfl) (by rfl) ?_
        refine X.nil ?_
        refine R.cond (by rfl) (fun hc14 => ?_) (fun hc14 => ?_)
        · replace h := condT hc14 h
          refine Run.seq ?_
          refine Run.reg ?_
          refine X.assign (by rfl) (by rfl) ?_
          refine X.nil ?_
          cases h
          have h := hup3
          replace h := elimR h
          cases h
          refine R.fin1 Try.results48 (by rfl) (by rfl) ?_
          rfl
        · replace h := condF hc14 h
          refine Run.skip ?_
          refine Run.blk ?_
          refine Run.reg ?_
          refine X.add (by rfl) (by rfl) (by omega) (by rfl) ?_
          refine X.move (by rfl) (by rfl) ?_
          refine X.nil ?_
          exact hag8 (n8 - 1) (z9 + 1) _ _ (by omega) ⟨by first | omega | (dsimp only; omega), by first | omega | (dsimp only; omega), by first | (rw [hds8]; exact h) | (dsimp only; rw [hds8]; exact h)⟩ (by repeat (first | exact trivial | refine ⟨by rfl, ?_⟩ | refine ⟨by simp [setL], ?_⟩)) (by repeat (first | exact trivial | refine ⟨by rfl, ?_⟩ | refine ⟨by simp [setL], ?_⟩)) (by rfl) (by rfl)
      · rw [drop_endI hza8 hc12] at h
        rw [s_ClauseEqual_L1] at h
        refine Run.exit (by rfl) ?_
        exact hmeet4 () _ _ (Option.some.inj h) (by repeat (first | exact trivial | refine ⟨by rfl, ?_⟩ | refine ⟨by simp [setL], ?_⟩)) (by repeat (first | exact trivial | refine ⟨by rfl, ?_⟩ | refine ⟨by simp [setL], ?_⟩)) (by rfl) (by rfl)
    rintro p15 rfl
    replace h := elimL h
    refine Run.seq ?_
    refine Run.reg ?_
    refine X.assign (by rfl) (by rfl) ?_
    refine X.nil ?_
    cases h
    refine R.fin1 Try.results48 (by rfl) (by rfl) ?_
    rfl
theorem s_LineEqual_pc (b0 : TLine) (b1 : TLine) (r : Bool) (h : s_LineEqual b0 b1 = some r) : PC Try.prog 21 [eTLine b0, eTLine b1] (bool r) := by
  unfold s_LineEqual at h
  refine PC.start Try.func21 Try.ntmps21 rfl ok21 rfl ?_
  refine Run.seq ?_
  refine Run.reg ?_
  refine X.box (by rfl) (by rfl) (by repeat (first | exact trivial | refine ⟨by rfl, ?_⟩ | refine ⟨by simp [setL], ?_⟩)) (by rfl) (by rfl) (by rfl) (by rfl) ?_
  refine X.box (by rfl) (by rfl) (by repeat (first | exact trivial | refine ⟨by rfl, ?_⟩ | refine ⟨by simp [setL], ?_⟩)) (by rfl) (by rfl) (by rfl) (by rfl) ?_
  refine X.assign (by rfl) (by rfl) ?_
  refine X.nil ?_
  refine Run.seq ?_
  obtain ⟨e1, he1, h2⟩ := bindE h
  refine R.regG [(4, bool e1)] [] ?_ ?_
  · clear h; have h := he1; clear he1 h2
    refine X.fieldAddr_l fld48_0 (by rfl) (by rfl) ?_
    refine X.load_l shp3 (by rfl) (by rfl) (by rfl) (by rfl) (by rfl) (by rfl) ?_
    refine X.fieldAddr_l fld48_0 (by rfl) (by rfl) ?_
    refine X.load_l shp3 (by rfl) (by rfl) (by rfl) (by rfl) (by rfl) (by rfl) ?_
    refine X.bin (by rfl) (by rfl) (by rfl) (by rfl) (by intro h; cases h) (by rfl) ?_
    refine X.move (by rfl) (by rfl) ?_
    refine X.ifG (by rfl) (by rfl) (by rfl) (fun hb2 => ?_) (fun hb2 => ?_)
    · replace h := condT hb2 h
      refine X.fieldAddr_l fld48_1 (by rfl) (by rfl) ?_
      refine X.gyes (by rfl) (by rfl) (by first | rfl | assumption | simp_all) ?_
      refine X.load_l shp45 (by rfl) (by rfl) (by rfl) (by rfl) (by rfl) (by rfl) ?_
      refine X.gyes (by rfl) (by rfl) (by first | rfl | assumption | simp_all) ?_
      refine X.fieldAddr_l fld48_1 (by rfl) (by rfl) ?_
      refine X.gyes (by rfl) (by rfl) (by first | rfl | assumption | simp_all) ?_
      refine X.load_l shp45 (by rfl) (by rfl) (by rfl) (by rfl) (by rfl) (by rfl) ?_
      refine X.gyes (by rfl) (by rfl) (by first | rfl | assumption | simp_all) ?_
      refine X.eqlAgg flat45 (by rfl) (by rfl) (by rfl) (by rfl) ?_
      refine X.pickT (by rfl) (by first | rfl | assumption | simp_all) (by rfl) (by rfl) ?_
      refine X.move (by rfl) (by rfl) ?_
      refine X.ifG (by rfl) (by rfl) (by rfl) (fun hb3 => ?_) (fun hb3 => ?_)
      · replace h := condT hb3 h
        refine X.fieldAddr_l fld48_2 (by rfl) (by rfl) ?_
        refine X.gyes (by rfl) (by rfl) (by first | rfl | assumption | simp_all) ?_
        refine X.load_l shp46 (by rfl) (by rfl) (by rfl) (by rfl) (by rfl) (by rfl) ?_
        refine X.gyes (by rfl) (by rfl) (by first | rfl | assumption | simp_all) ?_
        refine X.fieldAddr_l fld48_2 (by rfl) (by rfl) ?_
        refine X.gyes (by rfl) (by rfl) (by first | rfl | assumption | simp_all) ?_
        refine X.load_l shp46 (by rfl) (by rfl) (by rfl) (by rfl) (by rfl) (by rfl) ?_
        refine X.gyes (by rfl) (by rfl) (by first | rfl | assumption | simp_all) ?_
        obtain ⟨v4, hv4, h⟩ := bindE h
        refine X.callP (s_ClauseEqual_pc _ _ _ hv4) (by rfl) (by rfl) (by rfl) (by repeat (first | exact trivial | refine ⟨by rfl, ?_⟩ | refine ⟨by simp [setL], ?_⟩)) (by rfl) (by rfl) (by rfl) (by rfl) ?_
        refine X.pickT (by rfl) (by first | rfl | assumption | simp_all) (by rfl) (by rfl) ?_
        refine X.assign (by rfl) (by rfl) ?_
        cases h
        exact X.endG (by repeat (first | exact trivial | refine ⟨by rfl, ?_⟩ | refine ⟨by simp [setL], ?_⟩)) (by repeat (first | exact trivial | refine ⟨by rfl, ?_⟩ | refine ⟨by simp [setL], ?_⟩)) (by rfl) (by rfl)
      · replace h := condF hb3 h
        refine X.gno (by rfl) (by rfl) (by first | rfl | assumption | simp_all) (by rfl) ?_
        refine X.gno (by rfl) (by rfl) (by first | rfl | assumption | simp_all) (by rfl) ?_
        refine X.gno (by rfl) (by rfl) (by first | rfl | assumption | simp_all) (by rfl) ?_
        refine X.gno (by rfl) (by rfl) (by first | rfl | assumption | simp_all) (by rfl) ?_
        refine X.pickF (by rfl) (by first | rfl | assumption | simp_all) (by rfl) (by rfl) ?_
        refine X.assign (by rfl) (by rfl) ?_
        cases h
        exact X.endG (by repeat (first | exact trivial | refine ⟨by rfl, ?_⟩ | refine ⟨by simp [setL], ?_⟩)) (by repeat (first | exact trivial | refine ⟨by rfl, ?_⟩ | refine ⟨by simp [setL], ?_⟩)) (by rfl) (by rfl)
    · replace h := condF hb2 h
      refine X.gno (by rfl) (by rfl) (by first | rfl | assumption | simp_all) (by rfl) ?_
      refine X.gno (by rfl) (by rfl) (by first | rfl | assumption | simp_all) (by rfl) ?_
      refine X.gno (by rfl) (by rfl) (by first | rfl | assumption | simp_all) (by rfl) ?_
      refine X.gno (by rfl) (by rfl) (by first | rfl | assumption | simp_all) (by rfl) ?_
      refine X.pickF (by rfl) (by first | rfl | assumption | simp_all) (by rfl) (by rfl) ?_
      refine X.move (by rfl) (by rfl) ?_
      refine X.gno (by rfl) (by rfl) (by first | rfl | assumption | simp_all) (by rfl) ?_
      refine X.gno (by rfl) (by rfl) (by first | rfl | assumption | simp_all) (by rfl) ?_
      refine X.gno (by rfl) (by rfl) (by first | rfl | assumption | simp_all) (by rfl) ?_
      refine X.gno (by rfl) (by rfl) (by first | rfl | assumption | simp_all) (by rfl) ?_
      refine X.gno (by rfl) (by rfl) (by first | rfl | assumption | simp_all) (by rfl) ?_
      refine X.pickF (by rfl) (by first | rfl | assumption | simp_all) (by rfl) (by rfl) ?_
      refine X.assign (by rfl) (by rfl) ?_
      cases h
      exact X.endG (by repeat (first | exact trivial | refine ⟨by rfl, ?_⟩ | refine ⟨by simp [setL], ?_⟩)) (by repeat (first | exact trivial | refine ⟨by rfl, ?_⟩ | refine ⟨by simp [setL], ?_⟩)) (by rfl) (by rfl)
  replace h := h2; clear h2
  cases h
  refine R.fin1 Try.results21 (by rfl) (by rfl) ?_
  rfl
theorem slices_Equal_Literal_pc (b0 : List TLiteral) (b1 : List TLiteral) (r : Bool) (h : slices_Equal_Literal b0 b1 = some r) : PC Try.prog 51 [.slice (b0.map eTLiteral), .slice (b1.map eTLiteral)] (bool r) := by
  unfold slices_Equal_Literal at h
  refine PC.start Try.func51 Try.ntmps51 rfl ok51 rfl ?_
  refine Run.seq ?_
  refine Run.reg ?_
  refine X.assign (by rfl) (by rfl) ?_
  refine X.nil ?_
  refine Run.seq ?_
  refine Run.seq ?_
  refine Run.reg ?_
  refine X.move (by rfl) (by rfl) ?_
  refine X.len_s elt46 (by rfl) (by exact List.length_map ..) (by rfl) ?_
  refine X.move (by rfl) (by rfl) ?_
  refine X.len_s elt46 (by rfl) (by exact List.length_map ..) (by rfl) ?_
  refine X.bin (by rfl) (by rfl) (by rfl) (by rfl) (by intro h; cases h) (by rfl) ?_
  refine X.nil ?_
  refine R.cond (by rfl) (fun hc1 => ?_) (fun hc1 => ?_)
  · replace h := condT hc1 h
    refine Run.seq ?_
    refine Run.reg ?_
    refine X.assign (by rfl) (by rfl) ?_
    refine X.nil ?_
    cases h
    refine R.fin1 Try.results51 (by rfl) (by rfl) ?_
    rfl
  · replace h := condF hc1 h
    refine Run.skip ?_
    refine Run.seq ?_
    refine Run.seq ?_
    refine Run.reg ?_
    refine X.move (by rfl) (by rfl) ?_
    refine X.len_s elt46 (by rfl) (by exact List.length_map ..) (by rfl) ?_
    refine X.move (by rfl) (by rfl) ?_
    refine X.nil ?_
    obtain ⟨o2, ho2, h⟩ := bindE h
    refine R.join2 (β := Unit) [] [] (fun p15 S => S) (fun p15 M => M) (fun p15 => (Sum.inl p15) = o2) ?_ ?_
    · intro JJ5 hmeet4
      have hup3 := h; clear h; have h := ho2; clear ho2
      refine Run.block ?_
      refine R.bndS (t := 0) (by rfl) (fun hbd8 => ?_)
      replace hbd8 : b0.length ≤ 9223372036854775807 := by first | (rw [List.length_map] at hbd8; exact hbd8) | simp
      refine R.loop2 (β := Int) [(0, .slice (b0.map eTLiteral)), (1, .slice (b1.map eTLiteral)), (12, int (b0.length : Int))] [] (fun bb S => (13, int bb) :: S) (fun bb M => M) (fun n bb => 0 ≤ bb ∧ bb + n = (b0.length : Int) ∧ slices_Equal_Literal_L1 b1 (b0.drop bb.toNat) bb = some o2) b0.length (0 : Int) (by repeat (first | exact trivial | refine ⟨by rfl, ?_⟩ | refine ⟨by simp [setL], ?_⟩)) (by repeat (first | exact trivial | refine ⟨by rfl, ?_⟩ | refine ⟨by simp [setL], ?_⟩)) (by rfl) (by rfl) ⟨Int.le_refl _, by simp, h⟩ ?_
      clear h
      rintro JJ8 n8 z9 hag8 ⟨hza8, hzb8, h⟩
      refine Run.seq ?_
      refine Run.reg ?_
      refine X.bin (by rfl) (by rfl) (by rfl) (by rfl) (by intro h; cases h) (by rfl) ?_
      refine X.nil ?_
      refine Run.seq ?_
      refine R.cond (by rfl) (fun hc12 => ?_) (fun hc12 => ?_)
      · obtain ⟨x10, xs11, hd8, hx8, hds8, hlt8⟩ := drop_atI hza8 hc12
        rw [hd8] at h
        rw [slices_Equal_Literal_L1] at h
        refine Run.skip ?_
        refine Run.seq ?_
        refine Run.block ?_
        refine Run.seq ?_
        refine Run.reg ?_
        refine X.move (by rfl) (by rfl) ?_
        refine X.assign (by rfl) (by rfl) ?_
        refine X.nil ?_
        refine Run.seq ?_
        refine Run.draw (footOf []) mixed (by kernel_rfl) (by kernel_rfl) ?_
        refine X.move (by rfl) (by rfl) ?_
        refine X.move (by rfl) (by rfl) ?_
        refine X.index_s elt46 (by rfl) (by rfl) (idxL_spec hx8).1 (idxL_map eTLiteral hx8) (by rfl) (by rfl) (by rfl) ?_
        refine X.load_c shp79 (by rfl) (by rfl) (by rfl) (by rfl) ?_
        refine X.move (by rfl) (by rfl) ?_
        refine X.move (by rfl) (by rfl) ?_
        obtain ⟨v13, hv13, h⟩ := bindE h
        refine X.index_s elt46 (by rfl) (by rfl) (idxL_spec hv13).1 (idxL_map eTLiteral hv13) (by rfl) (by rfl) (by rfl) ?_
        refine X.load_c shp79 (by rfl) (by rfl) (by rfl) (by rfl) ?_
        refine X.neqAgg flat79 (by rfl) (by rfl) (by rfl) (by rfl) ?_
        refine X.nil ?_
        refine R.cond (by rfl) (fun hc14 => ?_) (fun hc14 => ?_)
        · replace h := condT hc14 h
          refine Run.seq ?_
          refine Run.reg ?_
          refine X.assign (by rfl) (by rfl) ?_
          refine X.nil ?_
          cases h
          have h := hup3
          replace h := elimR h
          cases h
          refine R.fin1 Try.results51 (by rfl) (by rfl) ?_
          rfl
        · replace h := condF hc14 h
          refine Run.skip ?_
          refine Run.blk ?_
          refine Run.reg ?_
          refine X.add (by rfl) (by rfl) (by omega) (by rfl) ?_
          refine X.move (by rfl) (by rfl) ?_
          refine X.nil ?_
          exact hag8 (n8 - 1) (z9 + 1) _ _ (by omega) ⟨by first | omega | (dsimp only; omega), by first | omega | (dsimp only; omega), by first | (rw [hds8]; exact h) | (dsimp only; rw [hds8]; exact h)⟩ (by repeat (first | exact trivial | refine ⟨by rfl, ?_⟩ | refine ⟨by simp [setL], ?_⟩)) (by repeat (first | exact trivial | refine ⟨by rfl, ?_⟩ | refine ⟨by simp [setL], ?_⟩)) (by rfl) (by rfl)
      · rw [drop_endI hza8 hc12] at h
        rw [slices_Equal_Literal_L1] at h
        refine Run.exit (by rfl) ?_
        exact hmeet4 () _ _ (Option.some.inj h) (by repeat (first | exact trivial | refine ⟨by rfl, ?_⟩ | refine ⟨by simp [setL], ?_⟩)) (by repeat (first | exact trivial | refine ⟨by rfl, ?_⟩ | refine ⟨by simp [setL], ?_⟩)) (by rfl) (by rfl)
    rintro p15 rfl
    replace h := elimL h
    refine Run.seq ?_
    refine Run.reg ?_
    refine X.assign (by rfl) (by rfl) ?_
    refine X.nil ?_
    cases h
    refine R.fin1 Try.results51 (by rfl) (by rfl) ?_
    rfl
theorem i_LineEqual_pc (b0 : TLine) (b1 : TLine) (r : Bool) (h : i_LineEqual b0 b1 = some r) : PC Try.prog 23 [eTLine b0, eTLine b1] (bool r) := by
  unfold i_LineEqual at h
  refine PC.start Try.func23 Try.ntmps23 rfl ok23 rfl ?_
  refine Run.seq ?_
  refine Run.reg ?_
  refine X.box (by rfl) (by rfl) (by repeat (first | exact trivial | refine ⟨by rfl, ?_⟩ | refine ⟨by simp [setL], ?_⟩)) (by rfl) (by rfl) (by rfl) (by rfl) ?_
  refine X.box (by rfl) (by rfl) (by repeat (first | exact trivial | refine ⟨by rfl, ?_⟩ | refine ⟨by simp [setL], ?_⟩)) (by rfl) (by rfl) (by rfl) (by rfl) ?_
  refine X.assign (by rfl) (by rfl) ?_
  refine X.nil ?_
  refine Run.seq ?_
  obtain ⟨e1, he1, h2⟩ := bindE h
  refine R.regG [(4, bool e1)] [] ?_ ?_
  · clear h; have h := he1; clear he1 h2
    refine X.fieldAddr_l fld48_0 (by rfl) (by rfl) ?_
    refine X.load_l shp3 (by rfl) (by rfl) (by rfl) (by rfl) (by rfl) (by rfl) ?_
    refine X.fieldAddr_l fld48_0 (by rfl) (by rfl) ?_
    refine X.load_l shp3 (by rfl) (by rfl) (by rfl) (by rfl) (by rfl) (by rfl) ?_
    refine X.bin (by rfl) (by rfl) (by rfl) (by rfl) (by intro h; cases h) (by rfl) ?_
    refine X.move (by rfl) (by rfl) ?_
    refine X.ifG (by rfl) (by rfl) (by rfl) (fun hb2 => ?_) (fun hb2 => ?_)
    · replace h := condT hb2 h
      refine X.fieldAddr_l fld48_1 (by rfl) (by rfl) ?_
      refine X.gyes (by rfl) (by rfl) (by first | rfl | assumption | simp_all) ?_
      refine X.load_l shp45 (by rfl) (by rfl) (by rfl) (by rfl) (by rfl) (by rfl) ?_
      refine X.gyes (by rfl) (by rfl) (by first | rfl | assumption | simp_all) ?_
      refine X.fieldAddr_l fld48_1 (by rfl) (by rfl) ?_
      refine X.gyes (by rfl) (by rfl) (by first | rfl | assumption | simp_all) ?_
      refine X.load_l shp45 (by rfl) (by rfl) (by rfl) (by rfl) (by rfl) (by rfl) ?_
      refine X.gyes (by rfl) (by rfl) (by first | rfl | assumption | simp_all) ?_
      refine X.eqlAgg flat45 (by rfl) (by rfl) (by rfl) (by rfl) ?_
      refine X.pickT (by rfl) (by first | rfl | assumption | simp_all) (by rfl) (by rfl) ?_
      refine X.move (by rfl) (by rfl) ?_
      refine X.ifG (by rfl) (by rfl) (by rfl) (fun hb3 => ?_) (fun hb3 => ?_)
      · replace h := condT hb3 h
        refine X.fieldAddr_l fld48_2 (by rfl) (by rfl) ?_
        refine X.gyes (by rfl) (by rfl) (by first | rfl | assumption | simp_all) ?_
        refine X.load_l shp46 (by rfl) (by rfl) (by rfl) (by rfl) (by rfl) (by rfl) ?_
        refine X.gyes (by rfl) (by rfl) (by first | rfl | assumption | simp_all) ?_
        refine X.fieldAddr_l fld48_2 (by rfl) (by rfl) ?_
        refine X.gyes (by rfl) (by rfl) (by first | rfl | assumption | simp_all) ?_
        refine X.load_l shp46 (by rfl) (by rfl) (by rfl) (by rfl) (by rfl) (by rfl) ?_
        refine X.gyes (by rfl) (by rfl) (by first | rfl | assumption | simp_all) ?_
        obtain ⟨v4, hv4, h⟩ := bindE h
        refine X.callP (slices_Equal_Literal_pc _ _ _ hv4) (by rfl) (by rfl) (by rfl) (by repeat (first | exact trivial | refine ⟨by rfl, ?_⟩ | refine ⟨by simp [setL], ?_⟩)) (by rfl) (by rfl) (by rfl) (by rfl) ?_
        refine X.pickT (by rfl) (by first | rfl | assumption | simp_all) (by rfl) (by rfl) ?_
        refine X.assign (by rfl) (by rfl) ?_
        cases h
        exact X.endG (by repeat (first | exact trivial | refine ⟨by rfl, ?_⟩ | refine ⟨by simp [setL], ?_⟩)) (by repeat (first | exact trivial | refine ⟨by rfl, ?_⟩ | refine ⟨by simp [setL], ?_⟩)) (by rfl) (by rfl)
      · replace h := condF hb3 h
        refine X.gno (by rfl) (by rfl) (by first | rfl | assumption | simp_all) (by rfl) ?_
        refine X.gno (by rfl) (by rfl) (by first | rfl | assumption | simp_all) (by rfl) ?_
        refine X.gno (by rfl) (by rfl) (by first | rfl | assumption | simp_all) (by rfl) ?_
        refine X.gno (by rfl) (by rfl) (by first | rfl | assumption | simp_all) (by rfl) ?_
        refine X.pickF (by rfl) (by first | rfl | assumption | simp_all) (by rfl) (by rfl) ?_
        refine X.assign (by rfl) (by rfl) ?_
        cases h
        exact X.endG (by repeat (first | exact trivial | refine ⟨by rfl, ?_⟩ | refine ⟨by simp [setL], ?_⟩)) (by repeat (first | exact trivial | refine ⟨by rfl, ?_⟩ | refine ⟨by simp [setL], ?_⟩)) (by rfl) (by rfl)
    · replace h := condF hb2 h
      refine X.gno (by rfl) (by rfl) (by first | rfl | assumption | simp_all) (by rfl) ?_
      refine X.gno (by rfl) (by rfl) (by first | rfl | assumption | simp_all) (by rfl) ?_
      refine X.gno (by rfl) (by rfl) (by first | rfl | assumption | simp_all) (by rfl) ?_
      refine X.gno (by rfl) (by rfl) (by first | rfl | assumption | simp_all) (by rfl) ?_
      refine X.pickF (by rfl) (by first | rfl | assumption | simp_all) (by rfl) (by rfl) ?_
      refine X.move (by rfl) (by rfl) ?_
      refine X.gno (by rfl) (by rfl) (by first | rfl | assumption | simp_all) (by rfl) ?_
      refine X.gno (by rfl) (by rfl) (by first | rfl | assumption | simp_all) (by rfl) ?_
      refine X.gno (by rfl) (by rfl) (by first | rfl | assumption | simp_all) (by rfl) ?_
      refine X.gno (by rfl) (by rfl) (by first | rfl | assumption | simp_all) (by rfl) ?_
      refine X.gno (by rfl) (by rfl) (by first | rfl | assumption | simp_all) (by rfl) ?_
      refine X.pickF (by rfl) (by first | rfl | assumption | simp_all) (by rfl) (by rfl) ?_
      refine X.assign (by rfl) (by rfl) ?_
      cases h
      exact X.endG (by repeat (first | exact trivial | refine ⟨by rfl, ?_⟩ | refine ⟨by simp [setL], ?_⟩)) (by repeat (first | exact trivial | refine ⟨by rfl, ?_⟩ | refine ⟨by simp [setL], ?_⟩)) (by rfl) (by rfl)
  replace h := h2; clear h2
  cases h
  refine R.fin1 Try.results23 (by rfl) (by rfl) ?_
  rfl
theorem w_eqRule_pc (b0 : TRule) (b1 : TRule) (r : Bool) (h : w_eqRule b0 b1 = some r) : PC Try.prog 52 [eTRule b0, eTRule b1] (bool r) := by
  unfold w_eqRule at h
  refine PC.start Try.func52 Try.ntmps52 rfl ok52 rfl ?_
  refine Run.seq ?_
  refine Run.reg ?_
  refine X.box (by rfl) (by rfl) (by repeat (first | exact trivial | refine ⟨by rfl, ?_⟩ | refine ⟨by simp [setL], ?_⟩)) (by rfl) (by rfl) (by rfl) (by rfl) ?_
  refine X.box (by rfl) (by rfl) (by repeat (first | exact trivial | refine ⟨by rfl, ?_⟩ | refine ⟨by simp [setL], ?_⟩)) (by rfl) (by rfl) (by rfl) (by rfl) ?_
  refine X.assign (by rfl) (by rfl) ?_
  refine X.nil ?_
  refine Run.seq ?_
  refine Run.seq ?_
  refine Run.reg ?_
  refine X.fieldAddr_l fld45_0 (by rfl) (by rfl) ?_
  refine X.load_l shp3 (by rfl) (by rfl) (by rfl) (by rfl) (by rfl) (by rfl) ?_
  refine X.fieldAddr_l fld45_0 (by rfl) (by rfl) ?_
  refine X.load_l shp3 (by rfl) (by rfl) (by rfl) (by rfl) (by rfl) (by rfl) ?_
  refine X.bin (by rfl) (by rfl) (by rfl) (by rfl) (by intro h; cases h) (by rfl) ?_
  refine X.nil ?_
  refine R.cond (by rfl) (fun hc1 => ?_) (fun hc1 => ?_)
  · replace h := condT hc1 h
    refine Run.seq ?_
    refine Run.reg ?_
    refine X.assign (by rfl) (by rfl) ?_
    refine X.nil ?_
    cases h
    refine R.fin1 Try.results52 (by rfl) (by rfl) ?_
    rfl
  · replace h := condF hc1 h
    refine Run.skip ?_
    refine Run.seq ?_
    refine Run.seq ?_
    refine Run.reg ?_
    refine X.fieldAddr_l fld45_1 (by rfl) (by rfl) ?_
    refine X.load_l shp3 (by rfl) (by rfl) (by rfl) (by rfl) (by rfl) (by rfl) ?_
    refine X.fieldAddr_l fld45_1 (by rfl) (by rfl) ?_
    refine X.load_l shp3 (by rfl) (by rfl) (by rfl) (by rfl) (by rfl) (by rfl) ?_
    refine X.bin (by rfl) (by rfl) (by rfl) (by rfl) (by intro h; cases h) (by rfl) ?_
    refine X.nil ?_
    refine R.cond (by rfl) (fun hc2 => ?_) (fun hc2 => ?_)
    · replace h := condT hc2 h
      refine Run.seq ?_
      refine Run.reg ?_
      refine X.assign (by rfl) (by rfl) ?_
      refine X.nil ?_
      cases h
      refine R.fin1 Try.results52 (by rfl) (by rfl) ?_
      rfl
    · replace h := condF hc2 h
      refine Run.skip ?_
      refine Run.seq ?_
      refine Run.seq ?_
      refine Run.reg ?_
      refine X.fieldAddr_l fld45_2 (by rfl) (by rfl) ?_
      refine X.load_l shp3 (by rfl) (by rfl) (by rfl) (by rfl) (by rfl) (by rfl) ?_
      refine X.fieldAddr_l fld45_2 (by rfl) (by rfl) ?_
      refine X.load_l shp3 (by rfl) (by rfl) (by rfl) (by rfl) (by rfl) (by rfl) ?_
      refine X.bin (by rfl) (by rfl) (by rfl) (by rfl) (by intro h; cases h) (by rfl) ?_
      refine X.nil ?_
      refine R.cond (by rfl) (fun hc3 => ?_) (fun hc3 => ?_)
      · replace h := condT hc3 h
        refine Run.seq ?_
        refine Run.reg ?_
        refine X.assign (by rfl) (by rfl) ?_
        refine X.nil ?_
        cases h
        refine R.fin1 Try.results52 (by rfl) (by rfl) ?_
        rfl
      · replace h := condF hc3 h
        refine Run.skip ?_
        refine Run.seq ?_
        refine Run.seq ?_
        refine Run.reg ?_
        refine X.fieldAddr_l fld45_3 (by rfl) (by rfl) ?_
        refine X.load_l shp3 (by rfl) (by rfl) (by rfl) (by rfl) (by rfl) (by rfl) ?_
        refine X.fieldAddr_l fld45_3 (by rfl) (by rfl) ?_
        refine X.load_l shp3 (by rfl) (by rfl) (by rfl) (by rfl) (by rfl) (by rfl) ?_
        refine X.bin (by rfl) (by rfl) (by rfl) (by rfl) (by intro h; cases h) (by rfl) ?_
        refine X.nil ?_
        refine R.cond (by rfl) (fun hc4 => ?_) (fun hc4 => ?_)
        · replace h := condT hc4 h
          refine Run.seq ?_
          refine Run.reg ?_
          refine X.assign (by rfl) (by rfl) ?_
          refine X.nil ?_
          cases h
          refine R.fin1 Try.results52 (by rfl) (by rfl) ?_
          rfl
        · replace h := condF hc4 h
          refine Run.skip ?_
          refine Run.seq ?_
          refine Run.reg ?_
          refine X.assign (by rfl) (by rfl) ?_
          refine X.nil ?_
          cases h
          refine R.fin1 Try.results52 (by rfl) (by rfl) ?_
          rfl
theorem w_eqLiteral_pc (b0 : TLiteral) (b1 : TLiteral) (r : Bool) (h : w_eqLiteral b0 b1 = some r) : PC Try.prog 61 [eTLiteral b0, eTLiteral b1] (bool r) := by
  unfold w_eqLiteral at h
  refine PC.start Try.func61 Try.ntmps61 rfl ok61 rfl ?_
  refine Run.seq ?_
  refine Run.reg ?_
  refine X.box (by rfl) (by rfl) (by repeat (first | exact trivial | refine ⟨by rfl, ?_⟩ | refine ⟨by simp [setL], ?_⟩)) (by rfl) (by rfl) (by rfl) (by rfl) ?_
  refine X.box (by rfl) (by rfl) (by repeat (first | exact trivial | refine ⟨by rfl, ?_⟩ | refine ⟨by simp [setL], ?_⟩)) (by rfl) (by rfl) (by rfl) (by rfl) ?_
  refine X.assign (by rfl) (by rfl) ?_
  refine X.nil ?_
  refine Run.seq ?_
  refine Run.seq ?_
  refine Run.reg ?_
  refine X.fieldAddr_l fld79_0 (by rfl) (by rfl) ?_
  refine X.load_l shp3 (by rfl) (by rfl) (by rfl) (by rfl) (by rfl) (by rfl) ?_
  refine X.fieldAddr_l fld79_0 (by rfl) (by rfl) ?_
  refine X.load_l shp3 (by rfl) (by rfl) (by rfl) (by rfl) (by rfl) (by rfl) ?_
  refine X.bin (by rfl) (by rfl) (by rfl) (by rfl) (by intro h; cases h) (by rfl) ?_
  refine X.nil ?_
  refine R.cond (by rfl) (fun hc1 => ?_) (fun hc1 => ?_)
  · replace h := condT hc1 h
    refine Run.seq ?_
    refine Run.reg ?_
    refine X.assign (by rfl) (by rfl) ?_
    refine X.nil ?_
    cases h
    refine R.fin1 Try.results61 (by rfl) (by rfl) ?_
    rfl
  · replace h := condF hc1 h
    refine Run.skip ?_
    refine Run.seq ?_
    refine Run.seq ?_
    refine Run.reg ?_
    refine X.fieldAddr_l fld79_1 (by rfl) (by rfl) ?_
    refine X.load_l shp3 (by rfl) (by rfl) (by rfl) (by rfl) (by rfl) (by rfl) ?_
    refine X.fieldAddr_l fld79_1 (by rfl) (by rfl) ?_
    refine X.load_l shp3 (by rfl) (by rfl) (by rfl) (by rfl) (by rfl) (by rfl) ?_
    refine X.bin (by rfl) (by rfl) (by rfl) (by rfl) (by intro h; cases h) (by rfl) ?_
    refine X.nil ?_
    refine R.cond (by rfl) (fun hc2 => ?_) (fun hc2 => ?_)
    · replace h := condT hc2 h
      refine Run.seq ?_
      refine Run.reg ?_
      refine X.assign (by rfl) (by rfl) ?_
      refine X.nil ?_
      cases h
      refine R.fin1 Try.results61 (by rfl) (by rfl) ?_
      rfl
    · replace h := condF hc2 h
      refine Run.skip ?_
      refine Run.seq ?_
      refine Run.seq ?_
      refine Run.reg ?_
      refine X.fieldAddr_l fld79_2 (by rfl) (by rfl) ?_
      refine X.load_l shp3 (by rfl) (by rfl) (by rfl) (by rfl) (by rfl) (by rfl) ?_
      refine X.fieldAddr_l fld79_2 (by rfl) (by rfl) ?_
      refine X.load_l shp3 (by rfl) (by rfl) (by rfl) (by rfl) (by rfl) (by rfl) ?_
      refine X.bin (by rfl) (by rfl) (by rfl) (by rfl) (by intro h; cases h) (by rfl) ?_
      refine X.nil ?_
      refine R.cond (by rfl) (fun hc3 => ?_) (fun hc3 => ?_)
      · replace h := condT hc3 h
        refine Run.seq ?_
        refine Run.reg ?_
        refine X.assign (by rfl) (by rfl) ?_
        refine X.nil ?_
        cases h
        refine R.fin1 Try.results61 (by rfl) (by rfl) ?_
        rfl
      · replace h := condF hc3 h
        refine Run.skip ?_
        refine Run.seq ?_
        refine Run.reg ?_
        refine X.assign (by rfl) (by rfl) ?_
        refine X.nil ?_
        cases h
        refine R.fin1 Try.results61 (by rfl) (by rfl) ?_
        rfl
theorem w_eqLiteralS_pc (b0 : List TLiteral) (b1 : List TLiteral) (r : Bool) (h : w_eqLiteralS b0 b1 = some r) : PC Try.prog 53 [.slice (b0.map eTLiteral), .slice (b1.map eTLiteral)] (bool r) := by
  unfold w_eqLiteralS at h
  refine PC.start Try.func53 Try.ntmps53 rfl ok53 rfl ?_
  refine Run.seq ?_
  refine Run.reg ?_
  refine X.assign (by rfl) (by rfl) ?_
  refine X.nil ?_
  refine Run.seq ?_
  refine Run.seq ?_
  refine Run.reg ?_
  refine X.move (by rfl) (by rfl) ?_
  refine X.len_s elt46 (by rfl) (by exact List.length_map ..) (by rfl) ?_
  refine X.move (by rfl) (by rfl) ?_
  refine X.len_s elt46 (by rfl) (by exact List.length_map ..) (by rfl) ?_
  refine X.bin (by rfl) (by rfl) (by rfl) (by rfl) (by intro h; cases h) (by rfl) ?_
  refine X.nil ?_
  refine R.cond (by rfl) (fun hc1 => ?_) (fun hc1 => ?_)
  · replace h := condT hc1 h
    refine Run.seq ?_
    refine Run.reg ?_
    refine X.assign (by rfl) (by rfl) ?_
    refine X.nil ?_
    cases h
    refine R.fin1 Try.results53 (by rfl) (by rfl) ?_
    rfl
  · replace h := condF hc1 h
    refine Run.skip ?_
    refine Run.seq ?_
    refine Run.seq ?_
    refine Run.reg ?_
    refine X.assign (by rfl) (by rfl) ?_
    refine X.nil ?_
    obtain ⟨o2, ho2, h⟩ := bindE h
    refine R.join2 (β := Unit) [] [] (fun p16 S => S) (fun p16 M => M) (fun p16 => (Sum.inl p16) = o2) ?_ ?_
    · intro JJ5 hmeet4
      have hup3 := h; clear h; have h := ho2; clear ho2
      refine Run.block ?_
      refine R.bndS (t := 0) (by rfl) (fun hbd8 => ?_)
      replace hbd8 : b0.length ≤ 9223372036854775807 := by first | (rw [List.length_map] at hbd8; exact hbd8) | simp
      refine R.loop2 (β := Int) [(0, .slice (b0.map eTLiteral)), (1, .slice (b1.map eTLiteral))] [] (fun bb S => (5, int bb) :: S) (fun bb M => M) (fun n bb => 0 ≤ bb ∧ bb + n = (b0.length : Int) ∧ w_eqLiteralS_L1 b1 (b0.drop bb.toNat) bb = some o2) b0.length (0 : Int) (by repeat (first | exact trivial | refine ⟨by rfl, ?_⟩ | refine ⟨by simp [setL], ?_⟩)) (by repeat (first | exact trivial | refine ⟨by rfl, ?_⟩ | refine ⟨by simp [setL], ?_⟩)) (by rfl) (by rfl) ⟨Int.le_refl _, by simp, h⟩ ?_
      clear h
      rintro JJ8 n8 z9 hag8 ⟨hza8, hzb8, h⟩
      refine Run.seq ?_
      refine Run.seq ?_
      refine Run.reg ?_
      refine X.move (by rfl) (by rfl) ?_
      refine X.move (by rfl) (by rfl) ?_
      refine X.len_s elt46 (by rfl) (by exact List.length_map ..) (by rfl) ?_
      refine X.bin (by rfl) (by rfl) (by rfl) (by rfl) (by intro h; cases h) (by rfl) ?_
      refine X.nil ?_
      refine R.cond (by rfl) (fun hc12 => ?_) (fun hc12 => ?_)
      · obtain ⟨x10, xs11, hd8, hx8, hds8, hlt8⟩ := drop_atI hza8 hc12
        rw [hd8] at h
        rw [w_eqLiteralS_L1] at h
        refine Run.skip ?_
        refine Run.seq ?_
        refine Run.block ?_
        refine Run.seq ?_
        refine Run.draw (footOf []) mixed (by kernel_rfl) (by kernel_rfl) ?_
        refine X.move (by rfl) (by rfl) ?_
        refine X.move (by rfl) (by rfl) ?_
        refine X.index_s elt46 (by rfl) (by rfl) (idxL_spec hx8).1 (idxL_map eTLiteral hx8) (by rfl) (by rfl) (by rfl) ?_
        refine X.load_c shp79 (by rfl) (by rfl) (by rfl) (by rfl) ?_
        refine X.move (by rfl) (by rfl) ?_
        refine X.move (by rfl) (by rfl) ?_
        obtain ⟨v13, hv13, h⟩ := bindE h
        refine X.index_s elt46 (by rfl) (by rfl) (idxL_spec hv13).1 (idxL_map eTLiteral hv13) (by rfl) (by rfl) (by rfl) ?_
        refine X.load_c shp79 (by rfl) (by rfl) (by rfl) (by rfl) ?_
        obtain ⟨v14, hv14, h⟩ := bindE h
        refine X.callP (w_eqLiteral_pc _ _ _ hv14) (by rfl) (by rfl) (by rfl) (by repeat (first | exact trivial | refine ⟨by rfl, ?_⟩ | refine ⟨by simp [setL], ?_⟩)) (by rfl) (by rfl) (by rfl) (by rfl) ?_
        refine X.un (by rfl) (by rfl) (by rfl) ?_
        refine X.nil ?_
        refine R.cond (by rfl) (fun hc15 => ?_) (fun hc15 => ?_)
        · replace h := condT hc15 h
          refine Run.seq ?_
          refine Run.reg ?_
          refine X.assign (by rfl) (by rfl) ?_
          refine X.nil ?_
          cases h
          have h := hup3
          replace h := elimR h
          cases h
          refine R.fin1 Try.results53 (by rfl) (by rfl) ?_
          rfl
        · replace h := condF hc15 h
          refine Run.skip ?_
          refine Run.blk ?_
          refine Run.reg ?_
          refine X.move (by rfl) (by rfl) ?_
          refine X.add (by rfl) (by rfl) (by omega) (by rfl) ?_
          refine X.assign (by rfl) (by rfl) ?_
          refine X.nil ?_
          exact hag8 (n8 - 1) (z9 + 1) _ _ (by omega) ⟨by first | omega | (dsimp only; omega), by first | omega | (dsimp only; omega), by first | (rw [hds8]; exact h) | (dsimp only; rw [hds8]; exact h)⟩ (by repeat (first | exact trivial | refine ⟨by rfl, ?_⟩ | refine ⟨by simp [setL], ?_⟩)) (by repeat (first | exact trivial | refine ⟨by rfl, ?_⟩ | refine ⟨by simp [setL], ?_⟩)) (by rfl) (by rfl)
      · rw [drop_endI hza8 hc12] at h
        rw [w_eqLiteralS_L1] at h
        refine Run.exit (by rfl) ?_
        exact hmeet4 () _ _ (Option.some.inj h) (by repeat (first | exact trivial | refine ⟨by rfl, ?_⟩ | refine ⟨by simp [setL], ?_⟩)) (by repeat (first | exact trivial | refine ⟨by rfl, ?_⟩ | refine ⟨by simp [setL], ?_⟩)) (by rfl) (by rfl)
    rintro p16 rfl
    replace h := elimL h
    refine Run.seq ?_
    refine Run.reg ?_
    refine X.assign (by rfl) (by rfl) ?_
    refine X.nil ?_
    cases h
    refine R.fin1 Try.results53 (by rfl) (by rfl) ?_
    rfl
theorem w_eqLine_pc (b0 : TLine) (b1 : TLine) (r : Bool) (h : w_eqLine b0 b1 = some r) : PC Try.prog 24 [eTLine b0, eTLine b1] (bool r) := by
  unfold w_eqLine at h
  refine PC.start Try.func24 Try.ntmps24 rfl ok24 rfl ?_
  refine Run.seq ?_
  refine Run.reg ?_
  refine X.box (by rfl) (by rfl) (by repeat (first | exact trivial | refine ⟨by rfl, ?_⟩ | refine ⟨by simp [setL], ?_⟩)) (by rfl) (by rfl) (by rfl) (by rfl) ?_
  refine X.box (by rfl) (by rfl) (by repeat (first | exact trivial | refine ⟨by rfl, ?_⟩ | refine ⟨by simp [setL], ?_⟩)) (by rfl) (by rfl) (by rfl) (by rfl) ?_
  refine X.assign (by rfl) (by rfl) ?_
  refine X.nil ?_
  refine Run.seq ?_
  refine Run.seq ?_
  refine Run.reg ?_
  refine X.fieldAddr_l fld48_0 (by rfl) (by rfl) ?_
  refine X.load_l shp3 (by rfl) (by rfl) (by rfl) (by rfl) (by rfl) (by rfl) ?_
  refine X.fieldAddr_l fld48_0 (by rfl) (by rfl) ?_
  refine X.load_l shp3 (by rfl) (by rfl) (by rfl) (by rfl) (by rfl) (by rfl) ?_
  refine X.bin (by rfl) (by rfl) (by rfl) (by rfl) (by intro h; cases h) (by rfl) ?_
  refine X.nil ?_
  refine R.cond (by rfl) (fun hc1 => ?_) (fun hc1 => ?_)
  · replace h := condT hc1 h
    refine Run.seq ?_
    refine Run.reg ?_
    refine X.assign (by rfl) (by rfl) ?_
    refine X.nil ?_
    cases h
    refine R.fin1 Try.results24 (by rfl) (by rfl) ?_
    rfl
  · replace h := condF hc1 h
    refine Run.skip ?_
    refine Run.seq ?_
    refine Run.seq ?_
    refine Run.reg ?_
    refine X.fieldAddr_l fld48_1 (by rfl) (by rfl) ?_
    refine X.load_l shp45 (by rfl) (by rfl) (by rfl) (by rfl) (by rfl) (by rfl) ?_
    refine X.fieldAddr_l fld48_1 (by rfl) (by rfl) ?_
    refine X.load_l shp45 (by rfl) (by rfl) (by rfl) (by rfl) (by rfl) (by rfl) ?_
    obtain ⟨v2, hv2, h⟩ := bindE h
    refine X.callP (w_eqRule_pc _ _ _ hv2) (by rfl) (by rfl) (by rfl) (by repeat (first | exact trivial | refine ⟨by rfl, ?_⟩ | refine ⟨by simp [setL], ?_⟩)) (by rfl) (by rfl) (by rfl) (by rfl) ?_
    refine X.un (by rfl) (by rfl) (by rfl) ?_
    refine X.nil ?_
    refine R.cond (by rfl) (fun hc3 => ?_) (fun hc3 => ?_)
    · replace h := condT hc3 h
      refine Run.seq ?_
      refine Run.reg ?_
      refine X.assign (by rfl) (by rfl) ?_
      refine X.nil ?_
      cases h
      refine R.fin1 Try.results24 (by rfl) (by rfl) ?_
      rfl
    · replace h := condF hc3 h
      refine Run.skip ?_
      refine Run.seq ?_
      refine Run.seq ?_
      refine Run.reg ?_
      refine X.fieldAddr_l fld48_2 (by rfl) (by rfl) ?_
      refine X.load_l shp46 (by rfl) (by rfl) (by rfl) (by rfl) (by rfl) (by rfl) ?_
      refine X.fieldAddr_l fld48_2 (by rfl) (by rfl) ?_
      refine X.load_l shp46 (by rfl) (by rfl) (by rfl) (by rfl) (by rfl) (by rfl) ?_
      obtain ⟨v4, hv4, h⟩ := bindE h
      refine X.callP (w_eqLiteralS_pc _ _ _ hv4) (by rfl) (by rfl) (by rfl) (by repeat (first | exact trivial | refine ⟨by rfl, ?_⟩ | refine ⟨by simp [setL], ?_⟩)) (by rfl) (by rfl) (by rfl) (by rfl) ?_
      refine X.un (by rfl) (by rfl) (by rfl) ?_
      refine X.nil ?_
      refine R.cond (by rfl) (fun hc5 => ?_) (fun hc5 => ?_)
      · replace h := condT hc5 h
        refine Run.seq ?_
        refine Run.reg ?_
        refine X.assign (by rfl) (by rfl) ?_
        refine X.nil ?_
        cases h
        refine R.fin1 Try.results24 (by rfl) (by rfl) ?_
        rfl
      · replace h := condF hc5 h
        refine Run.skip ?_
        refine Run.seq ?_
        refine Run.reg ?_
        refine X.assign (by rfl) (by rfl) ?_
        refine X.nil ?_
        cases h
        refine R.fin1 Try.results24 (by rfl) (by rfl) ?_
        rfl
theorem w_FnExactLineEqual_pc (b0 : TLine) (b1 : TLine) (r : Bool) (h : w_FnExactLineEqual b0 b1 = some r) : PC Try.prog 7 [eTLine b0, eTLine b1] (bool r) := by
  unfold w_FnExactLineEqual at h
  refine PC.start Try.func7 Try.ntmps7 rfl ok7 rfl ?_
  refine Run.seq ?_
  refine Run.reg ?_
  refine X.box (by rfl) (by rfl) (by repeat (first | exact trivial | refine ⟨by rfl, ?_⟩ | refine ⟨by simp [setL], ?_⟩)) (by rfl) (by rfl) (by rfl) (by rfl) ?_
  refine X.box (by rfl) (by rfl) (by repeat (first | exact trivial | refine ⟨by rfl, ?_⟩ | refine ⟨by simp [setL], ?_⟩)) (by rfl) (by rfl) (by rfl) (by rfl) ?_
  refine X.assign (by rfl) (by rfl) ?_
  refine X.nil ?_
  refine Run.seq ?_
  refine Run.reg ?_
  refine X.assign (by rfl) (by rfl) ?_
  refine X.nil ?_
  refine Run.seq ?_
  refine Run.reg ?_
  refine X.load_l shp42 (by rfl) (by rfl) (by rfl) (by rfl) (by rfl) (by rfl) ?_
  refine X.move (by rfl) (by rfl) ?_
  obtain ⟨v1, hv1, h⟩ := bindE h
  refine X.callP (w_szLine_pc _ _ _ hv1) (by rfl) (by rfl) (by rfl) (by repeat (first | exact trivial | refine ⟨by rfl, ?_⟩ | refine ⟨by simp [setL], ?_⟩)) (by rfl) (by rfl) (by rfl) (by rfl) ?_
  refine X.assign (by rfl) (by rfl) ?_
  refine X.nil ?_
  refine Run.seq ?_
  refine Run.seq ?_
  refine Run.reg ?_
  refine X.move (by rfl) (by rfl) ?_
  refine X.bin (by rfl) (by rfl) (by rfl) (by rfl) (by intro h; cases h) (by rfl) ?_
  refine X.nil ?_
  refine R.cond (by rfl) (fun hc2 => ?_) (fun hc2 => ?_)
  · replace h := condT hc2 h
    refine Run.seq ?_
    refine Run.reg ?_
    refine X.assign (by rfl) (by rfl) ?_
    refine X.nil ?_
    cases h
    refine R.fin1 Try.results7 (by rfl) (by rfl) ?_
    rfl
  · replace h := condF hc2 h
    refine Run.skip ?_
    refine Run.seq ?_
    refine Run.reg ?_
    refine X.load_l shp42 (by rfl) (by rfl) (by rfl) (by rfl) (by rfl) (by rfl) ?_
    refine X.move (by rfl) (by rfl) ?_
    obtain ⟨v3, hv3, h⟩ := bindE h
    refine X.callP (w_szLine_pc _ _ _ hv3) (by rfl) (by rfl) (by rfl) (by repeat (first | exact trivial | refine ⟨by rfl, ?_⟩ | refine ⟨by simp [setL], ?_⟩)) (by rfl) (by rfl) (by rfl) (by rfl) ?_
    refine X.assign (by rfl) (by rfl) ?_
    refine X.nil ?_
    refine Run.seq ?_
    refine Run.seq ?_
    refine Run.reg ?_
    refine X.move (by rfl) (by rfl) ?_
    refine X.bin (by rfl) (by rfl) (by rfl) (by rfl) (by intro h; cases h) (by rfl) ?_
    refine X.nil ?_
    refine R.cond (by rfl) (fun hc4 => ?_) (fun hc4 => ?_)
    · replace h := condT hc4 h
      refine Run.seq ?_
      refine Run.reg ?_
      refine X.assign (by rfl) (by rfl) ?_
      refine X.nil ?_
      cases h
      refine R.fin1 Try.results7 (by rfl) (by rfl) ?_
      rfl
    · replace h := condF hc4 h
      refine Run.skip ?_
      refine Run.seq ?_
      refine Run.draw (footOf [(0, ([128], [])), (1, ([], [1344])), (2, ([192], [])), (3, ([], [1472])), (4, ([1344, 1472], []))]) mixed (by kernel_rfl) (by kernel_rfl) ?_
      refine X.load_l shp42 (by rfl) (by rfl) (by rfl) (by rfl) (by rfl) (by rfl) ?_
      obtain ⟨v5, hv5, h⟩ := bindE h
      refine X.callA (w_toLine_pc _ _ hv5) (by rfl) (by rfl) (by rfl) (by repeat (first | exact trivial | refine ⟨by rfl, ?_⟩ | refine ⟨by simp [setL], ?_⟩)) (by rfl) (by rfl) (by rfl) (by rfl) (by rfl) (by rfl) ?_
      refine X.load_l shp42 (by rfl) (by rfl) (by rfl) (by rfl) (by rfl) (by rfl) ?_
      obtain ⟨v6, hv6, h⟩ := bindE h
      refine X.callA (w_toLine_pc _ _ hv6) (by rfl) (by rfl) (by rfl) (by repeat (first | exact trivial | refine ⟨by rfl, ?_⟩ | refine ⟨by simp [setL], ?_⟩)) (by rfl) (by rfl) (by rfl) (by rfl) (by rfl) (by rfl) ?_
      obtain ⟨v7, hv7, h⟩ := bindE h
      refine X.callP (s_LineEqual_pc _ _ _ hv7) (by rfl) (by rfl) (by rfl) (by repeat (first | exact trivial | refine ⟨by rfl, ?_⟩ | refine ⟨by simp [setL], ?_⟩)) (by rfl) (by rfl) (by rfl) (by rfl) ?_
      refine X.assign (by rfl) (by rfl) ?_
      refine X.nil ?_
      refine Run.seq ?_
      refine Run.reg ?_
      refine X.load_l shp42 (by rfl) (by rfl) (by rfl) (by rfl) (by rfl) (by rfl) ?_
      obtain ⟨v8, hv8, h⟩ := bindE h
      refine X.callA (w_toLine_pc _ _ hv8) (by rfl) (by rfl) (by rfl) (by repeat (first | exact trivial | refine ⟨by rfl, ?_⟩ | refine ⟨by simp [setL], ?_⟩)) (by rfl) (by rfl) (by rfl) (by rfl) (by rfl) (by rfl) ?_
      refine X.alloc zer48 (by rfl) (by rfl) (by rfl) ?_
      refine X.store_l shp48 (by rfl) (by rfl) (by rfl) (by rfl) (by repeat (first | exact trivial | refine ⟨by rfl, ?_⟩ | refine ⟨by simp [setL], ?_⟩)) (by rfl) (by rfl) (by rfl) ?_
      refine X.nil ?_
      refine Run.seq ?_
      refine Run.reg ?_
      refine X.load_l shp42 (by rfl) (by rfl) (by rfl) (by rfl) (by rfl) (by rfl) ?_
      obtain ⟨v9, hv9, h⟩ := bindE h
      refine X.callA (w_toLine_pc _ _ hv9) (by rfl) (by rfl) (by rfl) (by repeat (first | exact trivial | refine ⟨by rfl, ?_⟩ | refine ⟨by simp [setL], ?_⟩)) (by rfl) (by rfl) (by rfl) (by rfl) (by rfl) (by rfl) ?_
      refine X.alloc zer48 (by rfl) (by rfl) (by rfl) ?_
      refine X.store_l shp48 (by rfl) (by rfl) (by rfl) (by rfl) (by repeat (first | exact trivial | refine ⟨by rfl, ?_⟩ | refine ⟨by simp [setL], ?_⟩)) (by rfl) (by rfl) (by rfl) ?_
      refine X.nil ?_
      refine Run.seq ?_
      refine Run.reg ?_
      refine X.load_l shp48 (by rfl) (by rfl) (by rfl) (by rfl) (by rfl) (by rfl) ?_
      refine X.load_l shp48 (by rfl) (by rfl) (by rfl) (by rfl) (by rfl) (by rfl) ?_
      obtain ⟨v10, hv10, h⟩ := bindE h
      refine X.callP (i_LineEqual_pc _ _ _ hv10) (by rfl) (by rfl) (by rfl) (by repeat (first | exact trivial | refine ⟨by rfl, ?_⟩ | refine ⟨by simp [setL], ?_⟩)) (by rfl) (by rfl) (by rfl) (by rfl) ?_
      refine X.assign (by rfl) (by rfl) ?_
      refine X.nil ?_
      refine Run.seq ?_
      refine Run.seq ?_
      refine Run.reg ?_
      refine X.move (by rfl) (by rfl) ?_
      refine X.move (by rfl) (by rfl) ?_
      refine X.neqBool Try.underlying4 (by rfl) (by rfl) (by rfl) ?_
      refine X.nil ?_
      refine R.cond (by rfl) (fun hc11 => ?_) (fun hc11 => ?_)
      · replace h := condT hc11 h
        refine Run.seq ?_
        refine Run.reg ?_
        refine X.assign (by rfl) (by rfl) ?_
        refine X.nil ?_
        cases h
        refine R.fin1 Try.results7 (by rfl) (by rfl) ?_
        rfl
      · replace h := condF hc11 h
        refine Run.skip ?_
        refine Run.seq ?_
        refine Run.seq ?_
        refine Run.draw (footOf [(0, ([448], [])), (1, ([128], [])), (2, ([], [2368])), (3, ([1664, 2368], []))]) mixed (by kernel_rfl) (by kernel_rfl) ?_
        refine X.load_l shp48 (by rfl) (by rfl) (by rfl) (by rfl) (by rfl) (by rfl) ?_
        refine X.load_l shp42 (by rfl) (by rfl) (by rfl) (by rfl) (by rfl) (by rfl) ?_
        obtain ⟨v12, hv12, h⟩ := bindE h
        refine X.callA (w_toLine_pc _ _ hv12) (by rfl) (by rfl) (by rfl) (by repeat (first | exact trivial | refine ⟨by rfl, ?_⟩ | refine ⟨by simp [setL], ?_⟩)) (by rfl) (by rfl) (by rfl) (by rfl) (by rfl) (by rfl) ?_
        obtain ⟨v13, hv13, h⟩ := bindE h
        refine X.callP (w_eqLine_pc _ _ _ hv13) (by rfl) (by rfl) (by rfl) (by repeat (first | exact trivial | refine ⟨by rfl, ?_⟩ | refine ⟨by simp [setL], ?_⟩)) (by rfl) (by rfl) (by rfl) (by rfl) ?_
        refine X.un (by rfl) (by rfl) (by rfl) ?_
        refine X.nil ?_
        refine R.cond (by rfl) (fun hc14 => ?_) (fun hc14 => ?_)
        · replace h := condT hc14 h
          refine Run.seq ?_
          refine Run.reg ?_
          refine X.assign (by rfl) (by rfl) ?_
          refine X.nil ?_
          cases h
          refine R.fin1 Try.results7 (by rfl) (by rfl) ?_
          rfl
        · replace h := condF hc14 h
          refine Run.skip ?_
          refine Run.seq ?_
          refine Run.seq ?_
          refine Run.draw (footOf [(0, ([512], [])), (1, ([192], [])), (2, ([], [2688])), (3, ([1792, 2688], []))]) mixed (by kernel_rfl) (by kernel_rfl) ?_
          refine X.load_l shp48 (by rfl) (by rfl) (by rfl) (by rfl) (by rfl) (by rfl) ?_
          refine X.load_l shp42 (by rfl) (by rfl) (by rfl) (by rfl) (by rfl) (by rfl) ?_
          obtain ⟨v15, hv15, h⟩ := bindE h
          refine X.callA (w_toLine_pc _ _ hv15) (by rfl) (by rfl) (by rfl) (by repeat (first | exact trivial | refine ⟨by rfl, ?_⟩ | refine ⟨by simp [setL], ?_⟩)) (by rfl) (by rfl) (by rfl) (by rfl) (by rfl) (by rfl) ?_
          obtain ⟨v16, hv16, h⟩ := bindE h
          refine X.callP (w_eqLine_pc _ _ _ hv16) (by rfl) (by rfl) (by rfl) (by repeat (first | exact trivial | refine ⟨by rfl, ?_⟩ | refine ⟨by simp [setL], ?_⟩)) (by rfl) (by rfl) (by rfl) (by rfl) ?_
          refine X.un (by rfl) (by rfl) (by rfl) ?_
          refine X.nil ?_
          refine R.cond (by rfl) (fun hc17 => ?_) (fun hc17 => ?_)
          · replace h := condT hc17 h
            refine Run.seq ?_
            refine Run.reg ?_
            refine X.assign (by rfl) (by rfl) ?_
            refine X.nil ?_
            cases h
            refine R.fin1 Try.results7 (by rfl) (by rfl) ?_
            rfl
          · replace h := condF hc17 h
            refine Run.skip ?_
            refine Run.seq ?_
            refine Run.reg ?_
            refine X.assign (by rfl) (by rfl) ?_
            refine X.nil ?_
            cases h
            refine R.fin1 Try.results7 (by rfl) (by rfl) ?_
            rfl
theorem row_FnExactPlanEqual : ∀ ps, Vals [.agg [.agg [.slice .int, .slice .int], .slice .int], .agg [.agg [.slice .int, .slice .int], .slice .int]] ps → PC Try.prog 6 ps (bool true) := fun ps h => by
  have hv0 := h
  obtain ⟨x0, zs1, rfl, h0, hv1⟩ := vals_cons hv0
  obtain ⟨y0, rfl, b0⟩ := decb_TPlan _ h0
  obtain ⟨x1, zs2, rfl, h1, hv2⟩ := vals_cons hv1
  obtain ⟨y1, rfl, b1⟩ := decb_TPlan _ h1
  obtain rfl := vals_nil hv2
  exact w_FnExactPlanEqual_pc y0 y1 true (w_FnExactPlanEqual_true y0 y1 b0 b1)
theorem row_FnExactLineEqual : ∀ ps, Vals [.agg [.int, .agg [.int, .int, .int, .int], .slice (.agg [.int, .int, .int])], .agg [.int, .agg [.int, .int, .int, .int], .slice (.agg [.int, .int, .int])]] ps → PC Try.prog 7 ps (bool true) := fun ps h => by
  have hv0 := h
  obtain ⟨x0, zs1, rfl, h0, hv1⟩ := vals_cons hv0
  obtain ⟨y0, rfl, b0⟩ := decb_TLine _ h0
  obtain ⟨x1, zs2, rfl, h1, hv2⟩ := vals_cons hv1
  obtain ⟨y1, rfl, b1⟩ := decb_TLine _ h1
  obtain rfl := vals_nil hv2
  exact w_FnExactLineEqual_pc y0 y1 true (w_FnExactLineEqual_true y0 y1 b0 b1)
end Go.Px.Ythdejnjjdihmfaa
