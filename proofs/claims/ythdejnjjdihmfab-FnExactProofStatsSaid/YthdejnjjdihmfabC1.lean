/-
  PROVED: contracts of functions of the program over pure values. No condition beyond those that each theorem names.
-/
import Derived.Test.YthdejnjjdihmfabProg
import Derived.Test.YthdejnjjdihmfabD1
namespace Go.Px.Ythdejnjjdihmfab
set_option linter.unusedSimpArgs false
set_option linter.unusedVariables false
open Go.Px Go.Proofs
theorem elt22 : eltOf Try.prog 22 = some (64, 6, 64) := by kernel_rfl
theorem shp64 : shp Try.prog 64 = some (true, 6) := by kernel_rfl
theorem fld64_2 : fldOff Try.prog 64 2 = some 5 := by kernel_rfl
theorem shp46 : shp Try.prog 46 = some (false, 1) := by kernel_rfl
theorem elt46 : eltOf Try.prog 46 = some (55, 3, 24) := by kernel_rfl
theorem ok28 : okFn Try.prog 28 = true := by kernel_rfl
theorem ok38 : okFn Try.prog 38 = true := by kernel_rfl
theorem ok8 : okFn Try.prog 8 = true := by kernel_rfl
theorem elt26 : eltOf Try.prog 26 = some (67, 6, 64) := by kernel_rfl
theorem zer67 : zeroPV Try.prog 67 = some [.lit (.int .i64 0), .lit (.int .i64 0), .lit (.int .i64 0), .lit (.int .i64 0), .lit (.int .i64 0), .nils] := by kernel_rfl
theorem fld64_0 : fldOff Try.prog 64 0 = some 0 := by kernel_rfl
theorem shp3 : shp Try.prog 3 = some (false, 1) := by kernel_rfl
theorem fld67_0 : fldOff Try.prog 67 0 = some 0 := by kernel_rfl
theorem fld64_1 : fldOff Try.prog 64 1 = some 1 := by kernel_rfl
theorem shp62 : shp Try.prog 62 = some (true, 4) := by kernel_rfl
theorem zer65 : zeroPV Try.prog 65 = some [.lit (.int .i64 0), .lit (.int .i64 0), .lit (.int .i64 0), .lit (.int .i64 0)] := by kernel_rfl
theorem fld62_0 : fldOff Try.prog 62 0 = some 0 := by kernel_rfl
theorem fld65_0 : fldOff Try.prog 65 0 = some 0 := by kernel_rfl
theorem fld62_1 : fldOff Try.prog 62 1 = some 1 := by kernel_rfl
theorem fld65_1 : fldOff Try.prog 65 1 = some 1 := by kernel_rfl
theorem fld62_2 : fldOff Try.prog 62 2 = some 2 := by kernel_rfl
theorem fld65_2 : fldOff Try.prog 65 2 = some 2 := by kernel_rfl
theorem fld62_3 : fldOff Try.prog 62 3 = some 3 := by kernel_rfl
theorem fld65_3 : fldOff Try.prog 65 3 = some 3 := by kernel_rfl
theorem shp65 : shp Try.prog 65 = some (true, 4) := by kernel_rfl
theorem ok58 : okFn Try.prog 58 = true := by kernel_rfl
theorem fld67_1 : fldOff Try.prog 67 1 = some 1 := by kernel_rfl
theorem elt48 : eltOf Try.prog 48 = some (57, 3, 24) := by kernel_rfl
theorem zer57 : zeroPV Try.prog 57 = some [.lit (.int .i64 0), .lit (.int .i64 0), .lit (.int .i64 0)] := by kernel_rfl
theorem shp55 : shp Try.prog 55 = some (true, 3) := by kernel_rfl
theorem fld55_0 : fldOff Try.prog 55 0 = some 0 := by kernel_rfl
theorem fld57_0 : fldOff Try.prog 57 0 = some 0 := by kernel_rfl
theorem fld55_1 : fldOff Try.prog 55 1 = some 1 := by kernel_rfl
theorem fld57_1 : fldOff Try.prog 57 1 = some 1 := by kernel_rfl
theorem fld55_2 : fldOff Try.prog 55 2 = some 2 := by kernel_rfl
theorem fld57_2 : fldOff Try.prog 57 2 = some 2 := by kernel_rfl
theorem shp57 : shp Try.prog 57 = some (true, 3) := by kernel_rfl
theorem ok36 : okFn Try.prog 36 = true := by kernel_rfl
theorem ok30 : okFn Try.prog 30 = true := by kernel_rfl
theorem fld67_2 : fldOff Try.prog 67 2 = some 5 := by kernel_rfl
theorem shp48 : shp Try.prog 48 = some (false, 1) := by kernel_rfl
theorem shp67 : shp Try.prog 67 = some (true, 6) := by kernel_rfl
theorem ok40 : okFn Try.prog 40 = true := by kernel_rfl
theorem ok10 : okFn Try.prog 10 = true := by kernel_rfl
theorem elt24 : eltOf Try.prog 24 = some (3, 1, 8) := by kernel_rfl
theorem zer3 : zeroPV Try.prog 3 = some [.lit (.int .i64 0)] := by kernel_rfl
theorem ok57 : okFn Try.prog 57 = true := by kernel_rfl
theorem elt80 : eltOf Try.prog 80 = some (9, 1, 16) := by kernel_rfl
theorem zer9 : zeroPV Try.prog 9 = some [.lit (.string ByteArray.empty)] := by kernel_rfl
theorem shp9 : shp Try.prog 9 = some (false, 1) := by kernel_rfl
theorem ok39 : okFn Try.prog 39 = true := by kernel_rfl
theorem ok9 : okFn Try.prog 9 = true := by kernel_rfl
theorem ok41 : okFn Try.prog 41 = true := by kernel_rfl
theorem ok11 : okFn Try.prog 11 = true := by kernel_rfl
theorem mixed : Try.prog.follows .mixedOrders = true := by kernel_rfl
theorem ok12 : okFn Try.prog 12 = true := by kernel_rfl
theorem ok59 : okFn Try.prog 59 = true := by kernel_rfl
theorem ok53 : okFn Try.prog 53 = true := by kernel_rfl
theorem ok32 : okFn Try.prog 32 = true := by kernel_rfl
theorem ok42 : okFn Try.prog 42 = true := by kernel_rfl
theorem ok13 : okFn Try.prog 13 = true := by kernel_rfl
theorem ok33 : okFn Try.prog 33 = true := by kernel_rfl
theorem ok14 : okFn Try.prog 14 = true := by kernel_rfl
theorem ok15 : okFn Try.prog 15 = true := by kernel_rfl
theorem ok16 : okFn Try.prog 16 = true := by kernel_rfl
theorem ok3 : okFn Try.prog 3 = true := by kernel_rfl
theorem w_szLiteralS_pc (b0 : List TLiteral) (b1 : Int) (r : Int) (h : w_szLiteralS b0 b1 = some r) : PC Try.prog 28 [.slice (b0.map eTLiteral), int b1] (int r) := by
  unfold w_szLiteralS at h
  refine PC.start Try.func28 Try.ntmps28 rfl ok28 rfl ?_
  refine Run.seq ?_
  refine Run.reg ?_
  refine X.assign (by rfl) (by rfl) ?_
  refine X.nil ?_
  refine Run.seq ?_
  refine Run.reg ?_
  refine X.move (by rfl) (by rfl) ?_
  refine X.move (by rfl) (by rfl) ?_
  refine X.len_s elt46 (by rfl) (by exact List.length_map ..) (by rfl) ?_
  refine X.subW (by rfl) (by rfl) (by rfl) ?_
  refine X.assign (by rfl) (by rfl) ?_
  refine X.nil ?_
  refine Run.seq ?_
  refine Run.seq ?_
  refine Run.reg ?_
  refine X.move (by rfl) (by rfl) ?_
  refine X.bin (by rfl) (by rfl) (by rfl) (by rfl) (by intro h; cases h) (by rfl) ?_
  refine X.nil ?_
  refine R.cond (by rfl) (fun hc1 => ?_) (fun hc1 => ?_)
  · replace h := condT hc1 h
    refine Run.seq ?_
    refine Run.reg ?_
    refine X.assign (by rfl) (by rfl) ?_
    refine X.nil ?_
    cases h
    refine R.fin1 Try.results28 (by rfl) (by rfl) ?_
    rfl
  · replace h := condF hc1 h
    refine Run.skip ?_
    refine Run.seq ?_
    refine Run.reg ?_
    refine X.move (by rfl) (by rfl) ?_
    refine X.assign (by rfl) (by rfl) ?_
    refine X.nil ?_
    cases h
    refine R.fin1 Try.results28 (by rfl) (by rfl) ?_
    rfl
theorem w_szLine_pc (b0 : TLine) (b1 : Int) (r : Int) (h : w_szLine b0 b1 = some r) : PC Try.prog 38 [eTLine b0, int b1] (int r) := by
  unfold w_szLine at h
  refine PC.start Try.func38 Try.ntmps38 rfl ok38 rfl ?_
  refine Run.seq ?_
  refine Run.reg ?_
  refine X.box (by rfl) (by rfl) (by repeat (first | trivial | refine ⟨by first | rfl | simp [setL], ?_⟩)) (by rfl) (by rfl) (by rfl) (by rfl) ?_
  refine X.assign (by rfl) (by rfl) ?_
  refine X.nil ?_
  refine Run.seq ?_
  refine Run.reg ?_
  refine X.fieldAddr_l fld64_2 (by rfl) (by rfl) ?_
  refine X.load_l shp46 (by rfl) (by rfl) (by rfl) (by rfl) (by rfl) (by rfl) ?_
  refine X.move (by rfl) (by rfl) ?_
  obtain ⟨v1, hv1, h⟩ := bindE h
  refine X.callP (w_szLiteralS_pc _ _ _ hv1) (by rfl) (by rfl) (by rfl) (by trivial) (by rfl) (by rfl) (by rfl) (by rfl) ?_
  refine X.assign (by rfl) (by rfl) ?_
  refine X.nil ?_
  refine Run.seq ?_
  refine Run.seq ?_
  refine Run.reg ?_
  refine X.move (by rfl) (by rfl) ?_
  refine X.bin (by rfl) (by rfl) (by rfl) (by rfl) (by intro h; cases h) (by rfl) ?_
  refine X.nil ?_
  refine R.cond (by rfl) (fun hc2 => ?_) (fun hc2 => ?_)
  · replace h := condT hc2 h
    refine Run.seq ?_
    refine Run.reg ?_
    refine X.assign (by rfl) (by rfl) ?_
    refine X.nil ?_
    cases h
    refine R.fin1 Try.results38 (by rfl) (by rfl) ?_
    rfl
  · replace h := condF hc2 h
    refine Run.skip ?_
    refine Run.seq ?_
    refine Run.reg ?_
    refine X.move (by rfl) (by rfl) ?_
    refine X.assign (by rfl) (by rfl) ?_
    refine X.nil ?_
    cases h
    refine R.fin1 Try.results38 (by rfl) (by rfl) ?_
    rfl
theorem w_szLineS_pc (b0 : List TLine) (b1 : Int) (r : Int) (h : w_szLineS b0 b1 = some r) : PC Try.prog 8 [.slice (b0.map eTLine), int b1] (int r) := by
  unfold w_szLineS at h
  refine PC.start Try.func8 Try.ntmps8 rfl ok8 rfl ?_
  refine Run.seq ?_
  refine Run.reg ?_
  refine X.assign (by rfl) (by rfl) ?_
  refine X.nil ?_
  refine Run.seq ?_
  refine Run.reg ?_
  refine X.move (by rfl) (by rfl) ?_
  refine X.move (by rfl) (by rfl) ?_
  refine X.len_s elt22 (by rfl) (by exact List.length_map ..) (by rfl) ?_
  refine X.subW (by rfl) (by rfl) (by rfl) ?_
  refine X.assign (by rfl) (by rfl) ?_
  refine X.nil ?_
  refine Run.seq ?_
  refine Run.seq ?_
  refine Run.reg ?_
  refine X.move (by rfl) (by rfl) ?_
  refine X.bin (by rfl) (by rfl) (by rfl) (by rfl) (by intro h; cases h) (by rfl) ?_
  refine X.nil ?_
  refine R.cond (by rfl) (fun hc1 => ?_) (fun hc1 => ?_)
  · replace h := condT hc1 h
    refine Run.seq ?_
    refine Run.reg ?_
    refine X.assign (by rfl) (by rfl) ?_
    refine X.nil ?_
    cases h
    refine R.fin1 Try.results8 (by rfl) (by rfl) ?_
    rfl
  · replace h := condF hc1 h
    refine Run.skip ?_
    refine Run.seq ?_
    refine Run.seq ?_
    refine Run.reg ?_
    refine X.assign (by rfl) (by rfl) ?_
    refine X.nil ?_
    obtain ⟨o2, ho2, h⟩ := bindE h
    refine R.join2 (β := Int) [] [] (fun p16 S => (1, int p16) :: S) (fun p16 M => M) (fun p16 => (Sum.inl p16) = o2) ?_ ?_
    · intro JJ5 hmeet4
      have hup3 := h; clear h; have h := ho2; clear ho2
      refine Run.block ?_
      refine R.bndS (t := 0) (by rfl) (fun hbd8 => ?_)
      replace hbd8 : b0.length ≤ 9223372036854775807 := by first | (rw [List.length_map] at hbd8; exact hbd8) | simp
      refine R.loop2 (β := Int × Int) [(0, .slice (b0.map eTLine))] [] (fun bb S => (1, int bb.2) :: (5, int bb.1) :: S) (fun bb M => M) (fun n bb => 0 ≤ bb.1 ∧ bb.1 + n = (b0.length : Int) ∧ w_szLineS_L1 (b0.drop bb.1.toNat) bb.1 bb.2 = some o2) b0.length (0, (W (b1 - (b0.length : Int)))) (by repeat (first | trivial | refine ⟨by first | rfl | simp [setL], ?_⟩)) (by repeat (first | trivial | refine ⟨by first | rfl | simp [setL], ?_⟩)) (by rfl) (by rfl) ⟨Int.le_refl _, by simp, h⟩ ?_
      clear h
      rintro JJ8 n8 ⟨z9, a10⟩ hag8 ⟨hza8, hzb8, h⟩
      dsimp only at hza8 hzb8 h
      refine Run.seq ?_
      refine Run.seq ?_
      refine Run.reg ?_
      refine X.move (by rfl) (by rfl) ?_
      refine X.move (by rfl) (by rfl) ?_
      refine X.len_s elt22 (by rfl) (by exact List.length_map ..) (by rfl) ?_
      refine X.bin (by rfl) (by rfl) (by rfl) (by rfl) (by intro h; cases h) (by rfl) ?_
      refine X.nil ?_
      refine R.cond (by rfl) (fun hc13 => ?_) (fun hc13 => ?_)
      · obtain ⟨x11, xs12, hd8, hx8, hds8, hlt8⟩ := drop_atI hza8 hc13
        rw [hd8] at h
        rw [w_szLineS_L1] at h
        refine Run.skip ?_
        refine Run.seq ?_
        refine Run.block ?_
        refine Run.seq ?_
        refine Run.reg ?_
        refine X.move (by rfl) (by rfl) ?_
        refine X.move (by rfl) (by rfl) ?_
        refine X.index_s elt22 (by rfl) (by rfl) (idxL_spec hx8).1 (idxL_map eTLine hx8) (by rfl) (by rfl) (by rfl) ?_
        refine X.load_c shp64 (by rfl) (by rfl) (by rfl) (by rfl) ?_
        refine X.move (by rfl) (by rfl) ?_
        obtain ⟨v14, hv14, h⟩ := bindE h
        refine X.callP (w_szLine_pc _ _ _ hv14) (by rfl) (by rfl) (by rfl) (by trivial) (by rfl) (by rfl) (by rfl) (by rfl) ?_
        refine X.assign (by rfl) (by rfl) ?_
        refine X.nil ?_
        refine Run.seq ?_
        refine Run.reg ?_
        refine X.move (by rfl) (by rfl) ?_
        refine X.bin (by rfl) (by rfl) (by rfl) (by rfl) (by intro h; cases h) (by rfl) ?_
        refine X.nil ?_
        refine R.cond (by rfl) (fun hc15 => ?_) (fun hc15 => ?_)
        · replace h := condT hc15 h
          refine Run.seq ?_
          refine Run.reg ?_
          refine X.assign (by rfl) (by rfl) ?_
          refine X.nil ?_
          cases h
          have h := hup3
          replace h := elimR h
          cases h
          refine R.fin1 Try.results8 (by rfl) (by rfl) ?_
          rfl
        · replace h := condF hc15 h
          refine Run.skip ?_
          refine Run.blk ?_
          refine Run.reg ?_
          refine X.move (by rfl) (by rfl) ?_
          refine X.add (by rfl) (by rfl) (by omega) (by rfl) ?_
          refine X.assign (by rfl) (by rfl) ?_
          refine X.nil ?_
          exact hag8 (n8 - 1) (z9 + 1, v14) _ _ (by omega) ⟨by first | omega | (dsimp only; omega), by first | omega | (dsimp only; omega), by first | (rw [hds8]; exact h) | (dsimp only; rw [hds8]; exact h)⟩ (by trivial) (by trivial) (by rfl) (by rfl)
      · rw [drop_endI hza8 hc13] at h
        rw [w_szLineS_L1] at h
        refine Run.exit (by rfl) ?_
        exact hmeet4 a10 _ _ (Option.some.inj h) (by trivial) (by trivial) (by rfl) (by rfl)
    rintro p16 rfl
    replace h := elimL h
    refine Run.seq ?_
    refine Run.reg ?_
    refine X.move (by rfl) (by rfl) ?_
    refine X.assign (by rfl) (by rfl) ?_
    refine X.nil ?_
    cases h
    refine R.fin1 Try.results8 (by rfl) (by rfl) ?_
    rfl
theorem w_toRule_pc (b0 : TRule) (r : TRule) (h : w_toRule b0 = some r) : PC Try.prog 58 [eTRule b0] (eTRule r) := by
  unfold w_toRule at h
  refine PC.start Try.func58 Try.ntmps58 rfl ok58 rfl ?_
  refine Run.seq ?_
  refine Run.reg ?_
  refine X.box (by rfl) (by rfl) (by repeat (first | trivial | refine ⟨by first | rfl | simp [setL], ?_⟩)) (by rfl) (by rfl) (by rfl) (by rfl) ?_
  refine X.alloc zer65 (by rfl) (by rfl) (by rfl) ?_
  refine X.nil ?_
  refine Run.seq ?_
  refine Run.reg ?_
  refine X.alloc zer65 (by rfl) (by rfl) (by rfl) ?_
  refine X.nil ?_
  refine Run.seq ?_
  refine Run.reg ?_
  refine X.fieldAddr_l fld62_0 (by rfl) (by rfl) ?_
  refine X.load_l shp3 (by rfl) (by rfl) (by rfl) (by rfl) (by rfl) (by rfl) ?_
  refine X.fieldAddr_l fld65_0 (by rfl) (by rfl) ?_
  refine X.store_l shp3 (by rfl) (by rfl) (by rfl) (by rfl) (by repeat (first | trivial | refine ⟨by first | rfl | simp [setL], ?_⟩)) (by rfl) (by rfl) (by rfl) ?_
  refine X.nil ?_
  refine Run.seq ?_
  refine Run.reg ?_
  refine X.fieldAddr_l fld62_1 (by rfl) (by rfl) ?_
  refine X.load_l shp3 (by rfl) (by rfl) (by rfl) (by rfl) (by rfl) (by rfl) ?_
  refine X.fieldAddr_l fld65_1 (by rfl) (by rfl) ?_
  refine X.store_l shp3 (by rfl) (by rfl) (by rfl) (by rfl) (by repeat (first | trivial | refine ⟨by first | rfl | simp [setL], ?_⟩)) (by rfl) (by rfl) (by rfl) ?_
  refine X.nil ?_
  refine Run.seq ?_
  refine Run.reg ?_
  refine X.fieldAddr_l fld62_2 (by rfl) (by rfl) ?_
  refine X.load_l shp3 (by rfl) (by rfl) (by rfl) (by rfl) (by rfl) (by rfl) ?_
  refine X.fieldAddr_l fld65_2 (by rfl) (by rfl) ?_
  refine X.store_l shp3 (by rfl) (by rfl) (by rfl) (by rfl) (by repeat (first | trivial | refine ⟨by first | rfl | simp [setL], ?_⟩)) (by rfl) (by rfl) (by rfl) ?_
  refine X.nil ?_
  refine Run.seq ?_
  refine Run.reg ?_
  refine X.fieldAddr_l fld62_3 (by rfl) (by rfl) ?_
  refine X.load_l shp3 (by rfl) (by rfl) (by rfl) (by rfl) (by rfl) (by rfl) ?_
  refine X.fieldAddr_l fld65_3 (by rfl) (by rfl) ?_
  refine X.store_l shp3 (by rfl) (by rfl) (by rfl) (by rfl) (by repeat (first | trivial | refine ⟨by first | rfl | simp [setL], ?_⟩)) (by rfl) (by rfl) (by rfl) ?_
  refine X.nil ?_
  refine Run.seq ?_
  refine Run.reg ?_
  refine X.load_l shp65 (by rfl) (by rfl) (by rfl) (by rfl) (by rfl) (by rfl) ?_
  refine X.store_l shp65 (by rfl) (by rfl) (by rfl) (by rfl) (by repeat (first | trivial | refine ⟨by first | rfl | simp [setL], ?_⟩)) (by rfl) (by rfl) (by rfl) ?_
  refine X.nil ?_
  cases h
  refine R.finC Try.results58 shp65 (by rfl) (by rfl) (by rfl) (by rfl) (by repeat (first | trivial | refine ⟨by first | rfl | simp [setL], ?_⟩)) ?_
  rfl
theorem w_toLiteral_pc (b0 : TLiteral) (r : TLiteral) (h : w_toLiteral b0 = some r) : PC Try.prog 36 [eTLiteral b0] (eTLiteral r) := by
  unfold w_toLiteral at h
  refine PC.start Try.func36 Try.ntmps36 rfl ok36 rfl ?_
  refine Run.seq ?_
  refine Run.reg ?_
  refine X.box (by rfl) (by rfl) (by repeat (first | trivial | refine ⟨by first | rfl | simp [setL], ?_⟩)) (by rfl) (by rfl) (by rfl) (by rfl) ?_
  refine X.alloc zer57 (by rfl) (by rfl) (by rfl) ?_
  refine X.nil ?_
  refine Run.seq ?_
  refine Run.reg ?_
  refine X.alloc zer57 (by rfl) (by rfl) (by rfl) ?_
  refine X.nil ?_
  refine Run.seq ?_
  refine Run.reg ?_
  refine X.fieldAddr_l fld55_0 (by rfl) (by rfl) ?_
  refine X.load_l shp3 (by rfl) (by rfl) (by rfl) (by rfl) (by rfl) (by rfl) ?_
  refine X.fieldAddr_l fld57_0 (by rfl) (by rfl) ?_
  refine X.store_l shp3 (by rfl) (by rfl) (by rfl) (by rfl) (by repeat (first | trivial | refine ⟨by first | rfl | simp [setL], ?_⟩)) (by rfl) (by rfl) (by rfl) ?_
  refine X.nil ?_
  refine Run.seq ?_
  refine Run.reg ?_
  refine X.fieldAddr_l fld55_1 (by rfl) (by rfl) ?_
  refine X.load_l shp3 (by rfl) (by rfl) (by rfl) (by rfl) (by rfl) (by rfl) ?_
  refine X.fieldAddr_l fld57_1 (by rfl) (by rfl) ?_
  refine X.store_l shp3 (by rfl) (by rfl) (by rfl) (by rfl) (by repeat (first | trivial | refine ⟨by first | rfl | simp [setL], ?_⟩)) (by rfl) (by rfl) (by rfl) ?_
  refine X.nil ?_
  refine Run.seq ?_
  refine Run.reg ?_
  refine X.fieldAddr_l fld55_2 (by rfl) (by rfl) ?_
  refine X.load_l shp3 (by rfl) (by rfl) (by rfl) (by rfl) (by rfl) (by rfl) ?_
  refine X.fieldAddr_l fld57_2 (by rfl) (by rfl) ?_
  refine X.store_l shp3 (by rfl) (by rfl) (by rfl) (by rfl) (by repeat (first | trivial | refine ⟨by first | rfl | simp [setL], ?_⟩)) (by rfl) (by rfl) (by rfl) ?_
  refine X.nil ?_
  refine Run.seq ?_
  refine Run.reg ?_
  refine X.load_l shp57 (by rfl) (by rfl) (by rfl) (by rfl) (by rfl) (by rfl) ?_
  refine X.store_l shp57 (by rfl) (by rfl) (by rfl) (by rfl) (by repeat (first | trivial | refine ⟨by first | rfl | simp [setL], ?_⟩)) (by rfl) (by rfl) (by rfl) ?_
  refine X.nil ?_
  cases h
  refine R.finC Try.results36 shp57 (by rfl) (by rfl) (by rfl) (by rfl) (by repeat (first | trivial | refine ⟨by first | rfl | simp [setL], ?_⟩)) ?_
  rfl
theorem w_toLiteralS_pc (b0 : List TLiteral) (r : List TLiteral) (h : w_toLiteralS b0 = some r) : PCM Try.prog 30 [.yng 63 (.slice (b0.map eTLiteral))] [(63, .yreg false false)] (.fresh false 57 3 (r.map eTLiteral)) [(63, .yreg false false)] := by
  unfold w_toLiteralS at h
  refine PCM.start Try.func30 Try.ntmps30 rfl ok30 rfl (by rfl) (by rfl) (by rfl) (by rfl) (by rfl) ?_
  refine Run.seq ?_
  refine Run.reg ?_
  refine X.assign (by rfl) (by rfl) ?_
  refine X.nil ?_
  refine Run.seq ?_
  refine Run.reg ?_
  refine X.move (by rfl) (by rfl) ?_
  refine X.lenY false 63 elt46 (by rfl) (by exact List.length_map ..) (by rfl) ?_
  obtain ⟨v1, hv1, h⟩ := bindE h
  refine X.makeSlice2 eTLiteral hv1 elt48 zer57 (by rfl) (by rfl) (by rfl) (by simp [PV.plain]) (by rfl) (by rfl) (by rfl) (by rfl) (by rfl) (by rfl) ?_
  refine X.assign (by rfl) (by rfl) ?_
  refine X.nil ?_
  refine Run.seq ?_
  refine Run.seq ?_
  refine Run.reg ?_
  refine X.assign (by rfl) (by rfl) ?_
  refine X.nil ?_
  obtain ⟨o2, ho2, h⟩ := bindE h
  refine R.join2 (β := (List TLiteral)) [] [(63, .yreg false false)] (fun p16 S => (3, .own 448 (p16.map eTLiteral).length) :: S) (fun p16 M => (448, .obj true 57 3 (p16.map eTLiteral)) :: M) (fun p16 => p16 = o2) ?_ ?_
  · intro JJ5 hmeet4
    have hup3 := h; clear h; have h := ho2; clear ho2
    refine Run.block ?_
    refine R.bndY false 63 (t := 0) (by rfl) (fun hbd8 => ?_)
    replace hbd8 : b0.length ≤ 9223372036854775807 := by first | (rw [List.length_map] at hbd8; exact hbd8) | simp
    refine R.loop2 (β := Int × (List TLiteral)) [(0, .yng 63 (.slice (b0.map eTLiteral)))] [(63, .yreg false false)] (fun bb S => (3, .own 448 (bb.2.map eTLiteral).length) :: (4, int bb.1) :: S) (fun bb M => (448, .obj true 57 3 (bb.2.map eTLiteral)) :: M) (fun n bb => 0 ≤ bb.1 ∧ bb.1 + n = (b0.length : Int) ∧ w_toLiteralS_L1 (b0.drop bb.1.toNat) bb.1 bb.2 = some o2) b0.length (0, v1) (by repeat (first | trivial | refine ⟨by first | rfl | simp [setL], ?_⟩)) (by repeat (first | trivial | refine ⟨by first | rfl | simp [setL], ?_⟩)) (by rfl) (by rfl) ⟨Int.le_refl _, by simp, h⟩ ?_
    clear h
    rintro JJ8 n8 ⟨z9, a10⟩ hag8 ⟨hza8, hzb8, h⟩
    dsimp only at hza8 hzb8 h
    refine Run.seq ?_
    refine Run.seq ?_
    refine Run.reg ?_
    refine X.move (by rfl) (by rfl) ?_
    refine X.move (by rfl) (by rfl) ?_
    refine X.lenY false 63 elt46 (by rfl) (by exact List.length_map ..) (by rfl) ?_
    refine X.bin (by rfl) (by rfl) (by rfl) (by rfl) (by intro h; cases h) (by rfl) ?_
    refine X.nil ?_
    refine R.cond (by rfl) (fun hc13 => ?_) (fun hc13 => ?_)
    · obtain ⟨x11, xs12, hd8, hx8, hds8, hlt8⟩ := drop_atI hza8 hc13
      rw [hd8] at h
      rw [w_toLiteralS_L1] at h
      refine Run.skip ?_
      refine Run.seq ?_
      refine Run.block ?_
      refine Run.reg ?_
      refine X.move (by rfl) (by rfl) ?_
      refine X.move (by rfl) (by rfl) ?_
      refine X.move (by rfl) (by rfl) ?_
      refine X.move (by rfl) (by rfl) ?_
      refine X.indexY false 63 elt46 (by rfl) (by rfl) (idxL_spec hx8).1 (idxL_map eTLiteral hx8) (by rfl) (by rfl) ?_
      refine X.loadY false 63 shp55 (by rfl) (by rfl) (by rfl) (by rfl) ?_
      obtain ⟨v14, hv14, h⟩ := bindE h
      refine X.callA (w_toLiteral_pc _ _ hv14) (by rfl) (by rfl) (by rfl) (by trivial) (by rfl) (by rfl) (by rfl) (by rfl) (by rfl) (by rfl) ?_
      obtain ⟨v15, hv15, h⟩ := bindE h
      refine X.index_xs elt48 (by rfl) (by rfl) (by first | rfl | simp [setL] | omega) (by rfl) (by exact (Int.toNat_of_nonneg (idxL_spec hv15).1).symm) (by have := idxL_lt hv15; simpa using this) (by rfl) (by rfl) ?_
      refine X.store_es shp57 (by rfl) (by rfl) (by first | rfl | simp [setL] | omega) (idxL_map _ hv15) (by rfl) (by rfl) (by repeat (first | trivial | refine ⟨by first | rfl | simp [setL], ?_⟩)) (by rfl) (by rfl) (by rfl) (by rfl) (by exact setL_map _ _ _ v14) ?_
      refine X.nil ?_
      refine Run.blk ?_
      refine Run.reg ?_
      refine X.move (by rfl) (by rfl) ?_
      refine X.add (by rfl) (by rfl) (by omega) (by rfl) ?_
      refine X.assign (by rfl) (by rfl) ?_
      refine X.nil ?_
      refine R.castS (t := 3) (.own 448 ((setL a10 z9 v14).map eTLiteral).length) (by rfl) (.inl (by first | rfl | simp [setL])) ?_
      exact hag8 (n8 - 1) (z9 + 1, (setL a10 z9 v14)) _ _ (by omega) ⟨by first | omega | (dsimp only; omega), by first | omega | (dsimp only; omega), by first | (rw [hds8]; exact h) | (dsimp only; rw [hds8]; exact h)⟩ (by repeat (first | trivial | refine ⟨by first | rfl | simp [setL], ?_⟩)) (by repeat (first | trivial | refine ⟨by first | rfl | simp [setL], ?_⟩)) (by rfl) (by rfl)
    · rw [drop_endI hza8 hc13] at h
      rw [w_toLiteralS_L1] at h
      refine Run.exit (by rfl) ?_
      exact hmeet4 a10 _ _ (Option.some.inj h) (by repeat (first | trivial | refine ⟨by first | rfl | simp [setL], ?_⟩)) (by repeat (first | trivial | refine ⟨by first | rfl | simp [setL], ?_⟩)) (by rfl) (by rfl)
  rintro p16 rfl
  refine Run.seq ?_
  refine Run.reg ?_
  refine X.move (by rfl) (by rfl) ?_
  refine X.assign (by rfl) (by rfl) ?_
  refine X.nil ?_
  cases h
  refine R.pubObj (n := 448) (by rfl) ?_
  exact R.finM1o Try.results30 (by rfl) (by rfl) (by first | rfl | simp [setL] | omega) (by rfl) (by repeat (first | exact trivial | refine ⟨by rfl, ?_⟩)) rfl
theorem w_toLine_pc (b0 : TLine) (r : TLine) (h : w_toLine b0 = some r) : PCM Try.prog 40 [.agg [int b0.Kind, int b0.Rule.Kind, int b0.Rule.A, int b0.Rule.B, int b0.Rule.C, .yng 63 (.slice (b0.Clause.map eTLiteral))]] [(63, .yreg false false)] (.agg [int r.Kind, int r.Rule.Kind, int r.Rule.A, int r.Rule.B, int r.Rule.C, .fresh false 57 3 (r.Clause.map eTLiteral)]) [(63, .yreg false false)] := by
  unfold w_toLine at h
  refine PCM.start Try.func40 Try.ntmps40 rfl ok40 rfl (by rfl) (by rfl) (by rfl) (by rfl) (by rfl) ?_
  refine Run.seq ?_
  refine Run.reg ?_
  refine X.box (by rfl) (by rfl) (by repeat (first | trivial | refine ⟨by first | rfl | simp [setL], ?_⟩)) (by rfl) (by rfl) (by rfl) (by rfl) ?_
  refine X.alloc zer67 (by rfl) (by rfl) (by rfl) ?_
  refine X.nil ?_
  refine Run.seq ?_
  refine Run.reg ?_
  refine X.alloc zer67 (by rfl) (by rfl) (by rfl) ?_
  refine X.nil ?_
  refine Run.seq ?_
  refine Run.reg ?_
  refine X.fieldAddr_l fld64_0 (by rfl) (by rfl) ?_
  refine X.load_l shp3 (by rfl) (by rfl) (by rfl) (by rfl) (by rfl) (by rfl) ?_
  refine X.fieldAddr_l fld67_0 (by rfl) (by rfl) ?_
  refine X.store_l shp3 (by rfl) (by rfl) (by rfl) (by rfl) (by repeat (first | trivial | refine ⟨by first | rfl | simp [setL], ?_⟩)) (by rfl) (by rfl) (by rfl) ?_
  refine X.nil ?_
  refine Run.seq ?_
  refine Run.reg ?_
  refine X.fieldAddr_l fld64_1 (by rfl) (by rfl) ?_
  refine X.load_l shp62 (by rfl) (by rfl) (by rfl) (by rfl) (by rfl) (by rfl) ?_
  obtain ⟨v1, hv1, h⟩ := bindE h
  refine X.callA (w_toRule_pc _ _ hv1) (by rfl) (by rfl) (by rfl) (by trivial) (by rfl) (by rfl) (by rfl) (by rfl) (by rfl) (by rfl) ?_
  refine X.fieldAddr_l fld67_1 (by rfl) (by rfl) ?_
  refine X.store_l shp65 (by rfl) (by rfl) (by rfl) (by rfl) (by repeat (first | trivial | refine ⟨by first | rfl | simp [setL], ?_⟩)) (by rfl) (by rfl) (by rfl) ?_
  refine X.nil ?_
  refine Run.seq ?_
  refine Run.reg ?_
  refine X.fieldAddr_l fld64_2 (by rfl) (by rfl) ?_
  refine X.load_l shp46 (by rfl) (by rfl) (by rfl) (by rfl) (by rfl) (by rfl) ?_
  obtain ⟨v2, hv2, h⟩ := bindE h
  refine X.callM [(63, 63)] (w_toLiteralS_pc _ _ hv2) (by rfl) (by rfl) (.yngB 63 (by rfl) (by rfl) .nil) (by rfl) ⟨rfl, rfl, ⟨_, by rfl, by constructor⟩, by constructor, trivial⟩ (by rfl) (by rfl) (by rfl) (by rfl) (by rfl) (by rfl) (by rfl) (by rfl) (by rfl) ?_
  refine X.fieldAddr_l fld67_2 (by rfl) (by rfl) ?_
  refine X.store_l shp48 (by rfl) (by rfl) (by rfl) (by rfl) (by repeat (first | trivial | refine ⟨by first | rfl | simp [setL], ?_⟩)) (by rfl) (by rfl) (by rfl) ?_
  refine X.nil ?_
  refine Run.seq ?_
  refine Run.reg ?_
  refine X.load_l shp67 (by rfl) (by rfl) (by rfl) (by rfl) (by rfl) (by rfl) ?_
  refine X.store_l shp67 (by rfl) (by rfl) (by rfl) (by rfl) (by repeat (first | trivial | refine ⟨by first | rfl | simp [setL], ?_⟩)) (by rfl) (by rfl) (by rfl) ?_
  refine X.nil ?_
  cases h
  exact R.finMC Try.results40 shp67 (by rfl) (by rfl) (by rfl) (by rfl) (by repeat (first | trivial | refine ⟨by first | rfl | simp [setL], ?_⟩)) (by rfl) (by repeat (first | exact trivial | refine ⟨by rfl, ?_⟩)) rfl
theorem w_toLineS_pc (b0 : List TLine) (r : List TLine) (h : w_toLineS b0 = some r) : PCM Try.prog 10 [.yng 63 (.slice (b0.map eTLine))] [(63, .yreg false false)] (.fresh false 67 6 (r.map eTLine)) [(63, .yreg false false)] := by
  unfold w_toLineS at h
  refine PCM.start Try.func10 Try.ntmps10 rfl ok10 rfl (by rfl) (by rfl) (by rfl) (by rfl) (by rfl) ?_
  refine Run.seq ?_
  refine Run.reg ?_
  refine X.assign (by rfl) (by rfl) ?_
  refine X.nil ?_
  refine Run.seq ?_
  refine Run.reg ?_
  refine X.move (by rfl) (by rfl) ?_
  refine X.lenY false 63 elt22 (by rfl) (by exact List.length_map ..) (by rfl) ?_
  obtain ⟨v1, hv1, h⟩ := bindE h
  refine X.makeSlice2 eTLine hv1 elt26 zer67 (by rfl) (by rfl) (by rfl) (by simp [PV.plain]) (by rfl) (by rfl) (by rfl) (by rfl) (by rfl) (by rfl) ?_
  refine X.assign (by rfl) (by rfl) ?_
  refine X.nil ?_
  refine Run.seq ?_
  refine Run.seq ?_
  refine Run.reg ?_
  refine X.assign (by rfl) (by rfl) ?_
  refine X.nil ?_
  obtain ⟨o2, ho2, h⟩ := bindE h
  refine R.join2 (β := (List TLine)) [] [(63, .yreg false false)] (fun p16 S => (3, .own 448 (p16.map eTLine).length) :: S) (fun p16 M => (448, .obj true 67 6 (p16.map eTLine)) :: M) (fun p16 => p16 = o2) ?_ ?_
  · intro JJ5 hmeet4
    have hup3 := h; clear h; have h := ho2; clear ho2
    refine Run.block ?_
    refine R.bndY false 63 (t := 0) (by rfl) (fun hbd8 => ?_)
    replace hbd8 : b0.length ≤ 9223372036854775807 := by first | (rw [List.length_map] at hbd8; exact hbd8) | simp
    refine R.loop2 (β := Int × (List TLine)) [(0, .yng 63 (.slice (b0.map eTLine)))] [(63, .yreg false false)] (fun bb S => (3, .own 448 (bb.2.map eTLine).length) :: (4, int bb.1) :: S) (fun bb M => (448, .obj true 67 6 (bb.2.map eTLine)) :: M) (fun n bb => 0 ≤ bb.1 ∧ bb.1 + n = (b0.length : Int) ∧ w_toLineS_L1 (b0.drop bb.1.toNat) bb.1 bb.2 = some o2) b0.length (0, v1) (by repeat (first | trivial | refine ⟨by first | rfl | simp [setL], ?_⟩)) (by repeat (first | trivial | refine ⟨by first | rfl | simp [setL], ?_⟩)) (by rfl) (by rfl) ⟨Int.le_refl _, by simp, h⟩ ?_
    clear h
    rintro JJ8 n8 ⟨z9, a10⟩ hag8 ⟨hza8, hzb8, h⟩
    dsimp only at hza8 hzb8 h
    refine Run.seq ?_
    refine Run.seq ?_
    refine Run.reg ?_
    refine X.move (by rfl) (by rfl) ?_
    refine X.move (by rfl) (by rfl) ?_
    refine X.lenY false 63 elt22 (by rfl) (by exact List.length_map ..) (by rfl) ?_
    refine X.bin (by rfl) (by rfl) (by rfl) (by rfl) (by intro h; cases h) (by rfl) ?_
    refine X.nil ?_
    refine R.cond (by rfl) (fun hc13 => ?_) (fun hc13 => ?_)
    · obtain ⟨x11, xs12, hd8, hx8, hds8, hlt8⟩ := drop_atI hza8 hc13
      rw [hd8] at h
      rw [w_toLineS_L1] at h
      refine Run.skip ?_
      refine Run.seq ?_
      refine Run.block ?_
      refine Run.reg ?_
      refine X.move (by rfl) (by rfl) ?_
      refine X.move (by rfl) (by rfl) ?_
      refine X.move (by rfl) (by rfl) ?_
      refine X.move (by rfl) (by rfl) ?_
      refine X.indexY false 63 elt22 (by rfl) (by rfl) (idxL_spec hx8).1 (idxL_map eTLine hx8) (by rfl) (by rfl) ?_
      refine X.loadY false 63 shp64 (by rfl) (by rfl) (by rfl) (by rfl) ?_
      obtain ⟨v14, hv14, h⟩ := bindE h
      refine X.callM [(63, 63)] (w_toLine_pc _ _ hv14) (by rfl) (by rfl) (.agg _ _ _ _ _ _ (.pureB (by rfl) (by repeat (first | trivial | refine ⟨by first | rfl | simp [setL], ?_⟩)) (.pureB (by rfl) (by repeat (first | trivial | refine ⟨by first | rfl | simp [setL], ?_⟩)) (.pureB (by rfl) (by repeat (first | trivial | refine ⟨by first | rfl | simp [setL], ?_⟩)) (.pureB (by rfl) (by repeat (first | trivial | refine ⟨by first | rfl | simp [setL], ?_⟩)) (.pureB (by rfl) (by repeat (first | trivial | refine ⟨by first | rfl | simp [setL], ?_⟩)) (.yngB 63 (by rfl) (by rfl) .nil)))))) .nil) (by rfl) ⟨rfl, rfl, ⟨_, by rfl, by constructor⟩, by constructor, trivial⟩ (by rfl) (by rfl) (by rfl) (by rfl) (by rfl) (by rfl) (by rfl) (by rfl) (by rfl) ?_
      obtain ⟨v15, hv15, h⟩ := bindE h
      refine X.index_xs elt26 (by rfl) (by rfl) (by first | rfl | simp [setL] | omega) (by rfl) (by exact (Int.toNat_of_nonneg (idxL_spec hv15).1).symm) (by have := idxL_lt hv15; simpa using this) (by rfl) (by rfl) ?_
      refine X.store_es shp67 (by rfl) (by rfl) (by first | rfl | simp [setL] | omega) (idxL_map _ hv15) (by rfl) (by rfl) (by repeat (first | trivial | refine ⟨by first | rfl | simp [setL], ?_⟩)) (by rfl) (by rfl) (by rfl) (by rfl) (by exact setL_map _ _ _ v14) ?_
      refine X.nil ?_
      refine Run.blk ?_
      refine Run.reg ?_
      refine X.move (by rfl) (by rfl) ?_
      refine X.add (by rfl) (by rfl) (by omega) (by rfl) ?_
      refine X.assign (by rfl) (by rfl) ?_
      refine X.nil ?_
      refine R.castS (t := 3) (.own 448 ((setL a10 z9 v14).map eTLine).length) (by rfl) (.inl (by first | rfl | simp [setL])) ?_
      exact hag8 (n8 - 1) (z9 + 1, (setL a10 z9 v14)) _ _ (by omega) ⟨by first | omega | (dsimp only; omega), by first | omega | (dsimp only; omega), by first | (rw [hds8]; exact h) | (dsimp only; rw [hds8]; exact h)⟩ (by repeat (first | trivial | refine ⟨by first | rfl | simp [setL], ?_⟩)) (by repeat (first | trivial | refine ⟨by first | rfl | simp [setL], ?_⟩)) (by rfl) (by rfl)
    · rw [drop_endI hza8 hc13] at h
      rw [w_toLineS_L1] at h
      refine Run.exit (by rfl) ?_
      exact hmeet4 a10 _ _ (Option.some.inj h) (by repeat (first | trivial | refine ⟨by first | rfl | simp [setL], ?_⟩)) (by repeat (first | trivial | refine ⟨by first | rfl | simp [setL], ?_⟩)) (by rfl) (by rfl)
  rintro p16 rfl
  refine Run.seq ?_
  refine Run.reg ?_
  refine X.move (by rfl) (by rfl) ?_
  refine X.assign (by rfl) (by rfl) ?_
  refine X.nil ?_
  cases h
  refine R.pubObj (n := 448) (by rfl) ?_
  exact R.finM1o Try.results10 (by rfl) (by rfl) (by first | rfl | simp [setL] | omega) (by rfl) (by repeat (first | exact trivial | refine ⟨by rfl, ?_⟩)) rfl
theorem s_l01In_pc (b0 : Int) (b1 : Int) (b2 : Int) (r : Bool) (h : s_l01In b0 b1 b2 = some r) : PC Try.prog 57 [int b0, int b1, int b2] (bool r) := by
  unfold s_l01In at h
  refine PC.start Try.func57 Try.ntmps57 rfl ok57 rfl ?_
  refine Run.seq ?_
  refine Run.reg ?_
  refine X.assign (by rfl) (by rfl) ?_
  refine X.nil ?_
  refine Run.seq ?_
  obtain ⟨e1, he1, h2⟩ := bindE h
  refine R.regG [(6, bool e1)] [] ?_ ?_
  · clear h; have h := he1; clear he1 h2
    refine X.move (by rfl) (by rfl) ?_
    refine X.move (by rfl) (by rfl) ?_
    refine X.bin (by rfl) (by rfl) (by rfl) (by rfl) (by intro h; cases h) (by rfl) ?_
    refine X.move (by rfl) (by rfl) ?_
    refine X.ifG (by rfl) (by rfl) (by rfl) (fun hb2 => ?_) (fun hb2 => ?_)
    · replace h := condT hb2 h
      refine X.move (by rfl) (by rfl) ?_
      refine X.gyes (by rfl) (by rfl) (by first | rfl | assumption) ?_
      refine X.move (by rfl) (by rfl) ?_
      refine X.gyes (by rfl) (by rfl) (by first | rfl | assumption) ?_
      refine X.bin (by rfl) (by rfl) (by rfl) (by rfl) (by intro h; cases h) (by rfl) ?_
      refine X.pickT (by rfl) (by first | rfl | assumption) (by rfl) (by rfl) ?_
      refine X.assign (by rfl) (by rfl) ?_
      cases h
      exact X.endG (by trivial) (by trivial) (by rfl) (by rfl)
    · replace h := condF hb2 h
      refine X.gno (by rfl) (by rfl) (by first | rfl | assumption) (by rfl) ?_
      refine X.gno (by rfl) (by rfl) (by first | rfl | assumption) (by rfl) ?_
      refine X.pickF (by rfl) (by first | rfl | assumption) (by rfl) (by rfl) ?_
      refine X.assign (by rfl) (by rfl) ?_
      cases h
      exact X.endG (by trivial) (by trivial) (by rfl) (by rfl)
  replace h := h2; clear h2
  cases h
  refine R.fin1 Try.results57 (by rfl) (by rfl) ?_
  rfl
theorem s_RuleName_pc (b0 : Int) (r : ByteArray) (h : s_RuleName b0 = some r) : PC Try.prog 39 [int b0] (str r) := by
  unfold s_RuleName at h
  refine PC.start Try.func39 Try.ntmps39 rfl ok39 rfl ?_
  refine Run.seq ?_
  refine Run.reg ?_
  refine X.assign (by rfl) (by rfl) ?_
  refine X.nil ?_
  refine Run.seq ?_
  refine Run.seq ?_
  refine Run.reg ?_
  refine X.move (by rfl) (by rfl) ?_
  obtain ⟨v1, hv1, h⟩ := bindE h
  refine X.callP (s_l01In_pc _ _ _ _ hv1) (by rfl) (by rfl) (by rfl) (by trivial) (by rfl) (by rfl) (by rfl) (by rfl) ?_
  refine X.un (by rfl) (by rfl) (by rfl) ?_
  refine X.nil ?_
  refine R.cond (by rfl) (fun hc2 => ?_) (fun hc2 => ?_)
  · replace h := condT hc2 h
    refine Run.seq ?_
    refine Run.reg ?_
    refine X.assign (by rfl) (by rfl) ?_
    refine X.nil ?_
    cases h
    refine R.fin1 Try.results39 (by rfl) (by rfl) ?_
    rfl
  · replace h := condF hc2 h
    refine Run.skip ?_
    refine Run.seq ?_
    refine Run.reg ?_
    refine X.buildSlice false elt80 zer9 (by rfl) (by rfl) (by rfl) (by rfl) (by rfl) (by rfl) (by repeat (first | trivial | refine ⟨by first | rfl | simp [setL], ?_⟩)) (allSz_spec (by rfl)) (by rfl) (by rfl) (by rfl) ?_
    refine X.move (by rfl) (by rfl) ?_
    obtain ⟨v3, hv3, h⟩ := bindE h
    refine X.index_o elt80 (by rfl) (by rfl) (by first | rfl | simp [setL] | omega) (by rfl) (idxL_spec hv3).1 (idxL_map str hv3) (by rfl) (by rfl) (by rfl) ?_
    refine X.load_c shp9 (by rfl) (by rfl) (by rfl) (by rfl) ?_
    refine X.assign (by rfl) (by rfl) ?_
    refine X.nil ?_
    cases h
    refine R.fin1 Try.results39 (by rfl) (by rfl) ?_
    rfl
theorem s_ProofStats_pc (b0 : List TLine) (r : List Int) (h : s_ProofStats b0 = some r) : PC Try.prog 9 [.slice (b0.map eTLine)] (.fresh false 3 1 (r.map int)) := by
  unfold s_ProofStats at h
  refine PC.start Try.func9 Try.ntmps9 rfl ok9 rfl ?_
  refine Run.seq ?_
  refine Run.reg ?_
  refine X.assign (by rfl) (by rfl) ?_
  refine X.nil ?_
  refine Run.seq ?_
  refine Run.reg ?_
  obtain ⟨v1, hv1, h⟩ := bindE h
  refine X.makeSlice2 int hv1 elt24 zer3 (by rfl) (by rfl) (by rfl) (by simp [PV.plain]) (by rfl) (by rfl) (by rfl) (by rfl) (by rfl) (by rfl) ?_
  refine X.assign (by rfl) (by rfl) ?_
  refine X.nil ?_
  refine Run.seq ?_
  refine Run.seq ?_
  refine Run.reg ?_
  refine X.move (by rfl) (by rfl) ?_
  refine X.len_s elt26 (by rfl) (by exact List.length_map ..) (by rfl) ?_
  refine X.move (by rfl) (by rfl) ?_
  refine X.nil ?_
  obtain ⟨o2, ho2, h⟩ := bindE h
  refine R.join2 (β := (List Int)) [] [] (fun p26 S => (3, .own 384 (p26.map int).length) :: S) (fun p26 M => (384, .obj true 3 1 (p26.map int)) :: M) (fun p26 => p26 = o2) ?_ ?_
  · intro JJ5 hmeet4
    have hup3 := h; clear h; have h := ho2; clear ho2
    refine Run.block ?_
    refine R.bndS (t := 0) (by rfl) (fun hbd8 => ?_)
    replace hbd8 : b0.length ≤ 9223372036854775807 := by first | (rw [List.length_map] at hbd8; exact hbd8) | simp
    refine R.loop2 (β := Int × (List Int)) [(7, .slice (b0.map eTLine)), (8, int (b0.length : Int))] [] (fun bb S => (3, .own 384 (bb.2.map int).length) :: (9, int bb.1) :: S) (fun bb M => (384, .obj true 3 1 (bb.2.map int)) :: M) (fun n bb => 0 ≤ bb.1 ∧ bb.1 + n = (b0.length : Int) ∧ s_ProofStats_L1 (b0.drop bb.1.toNat) bb.1 bb.2 = some o2) b0.length (0, v1) (by repeat (first | trivial | refine ⟨by first | rfl | simp [setL], ?_⟩)) (by repeat (first | trivial | refine ⟨by first | rfl | simp [setL], ?_⟩)) (by rfl) (by rfl) ⟨Int.le_refl _, by simp, h⟩ ?_
    clear h
    rintro JJ8 n8 ⟨z9, a10⟩ hag8 ⟨hza8, hzb8, h⟩
    dsimp only at hza8 hzb8 h
    refine Run.seq ?_
    refine Run.reg ?_
    refine X.bin (by rfl) (by rfl) (by rfl) (by rfl) (by intro h; cases h) (by rfl) ?_
    refine X.nil ?_
    refine Run.seq ?_
    refine R.cond (by rfl) (fun hc13 => ?_) (fun hc13 => ?_)
    · obtain ⟨x11, xs12, hd8, hx8, hds8, hlt8⟩ := drop_atI hza8 hc13
      rw [hd8] at h
      rw [s_ProofStats_L1] at h
      refine Run.skip ?_
      refine Run.seq ?_
      refine Run.block ?_
      refine Run.seq ?_
      refine Run.reg ?_
      refine X.index_s elt26 (by rfl) (by rfl) (idxL_spec hx8).1 (idxL_map eTLine hx8) (by rfl) (by rfl) (by rfl) ?_
      refine X.load_c shp67 (by rfl) (by rfl) (by rfl) (by rfl) ?_
      refine X.alloc zer67 (by rfl) (by rfl) (by rfl) ?_
      refine X.store_l shp67 (by rfl) (by rfl) (by rfl) (by rfl) (by repeat (first | trivial | refine ⟨by first | rfl | simp [setL], ?_⟩)) (by rfl) (by rfl) (by rfl) ?_
      refine X.nil ?_
      refine Run.seq ?_
      refine Run.seq ?_
      refine Run.reg ?_
      refine X.fieldAddr_l fld67_0 (by rfl) (by rfl) ?_
      refine X.load_l shp3 (by rfl) (by rfl) (by rfl) (by rfl) (by rfl) (by rfl) ?_
      refine X.bin (by rfl) (by rfl) (by rfl) (by rfl) (by intro h; cases h) (by rfl) ?_
      refine X.nil ?_
      obtain ⟨o14, ho14, h⟩ := bindE h
      refine R.join2 (β := (List Int)) [(5, .lptr 320 0), (7, .slice (b0.map eTLine)), (8, int (b0.length : Int)), (9, int z9)] [(320, .blk true [int x11.Kind, int x11.Rule.Kind, int x11.Rule.A, int x11.Rule.B, int x11.Rule.C, .slice (x11.Clause.map eTLiteral)])] (fun p20 S => (3, .own 384 (p20.map int).length) :: S) (fun p20 M => (384, .obj true 3 1 (p20.map int)) :: M) (fun p20 => p20 = o14) ?_ ?_
      · intro JJ17 hmeet16
        have hup15 := h; clear h; have h := ho14; clear ho14
        refine R.cond (by rfl) (fun hc18 => ?_) (fun hc18 => ?_)
        · replace h := condT hc18 h
          refine Run.reg ?_
          refine X.move (by rfl) (by rfl) ?_
          obtain ⟨v19, hv19, h⟩ := bindE h
          refine X.index_xs elt24 (by rfl) (by rfl) (by first | rfl | simp [setL] | omega) (by rfl) (by exact (Int.toNat_of_nonneg (idxL_spec hv19).1).symm) (by have := idxL_lt hv19; simpa using this) (by rfl) (by rfl) ?_
          refine X.load_e shp3 (by rfl) (by rfl) (by rfl) (by first | rfl | simp [setL] | omega) (idxL_map _ hv19) (by rfl) (by rfl) (by rfl) ?_
          refine X.addW (by rfl) (by rfl) (by rfl) ?_
          refine X.index_xs elt24 (by rfl) (by rfl) (by first | rfl | simp [setL] | omega) (by rfl) (by exact (Int.toNat_of_nonneg (idxL_spec hv19).1).symm) (by have := idxL_lt hv19; simpa using this) (by rfl) (by rfl) ?_
          refine X.store_es shp3 (by rfl) (by rfl) (by first | rfl | simp [setL] | omega) (idxL_map _ hv19) (by rfl) (by rfl) (by repeat (first | trivial | refine ⟨by first | rfl | simp [setL], ?_⟩)) (by rfl) (by rfl) (by rfl) (by rfl) (by exact setL_map _ _ _ (W (v19 + 1))) ?_
          refine X.nil ?_
          refine R.castS (t := 3) (.own 384 ((setL a10 0 (W (v19 + 1))).map int).length) (by rfl) (.inl (by first | rfl | simp [setL])) ?_
          exact hmeet16 (setL a10 0 (W (v19 + 1))) _ _ (Option.some.inj h) (by repeat (first | trivial | refine ⟨by first | rfl | simp [setL], ?_⟩)) (by repeat (first | trivial | refine ⟨by first | rfl | simp [setL], ?_⟩)) (by rfl) (by rfl)
        · replace h := condF hc18 h
          refine Run.skip ?_
          exact hmeet16 a10 _ _ (Option.some.inj h) (by repeat (first | trivial | refine ⟨by first | rfl | simp [setL], ?_⟩)) (by repeat (first | trivial | refine ⟨by first | rfl | simp [setL], ?_⟩)) (by rfl) (by rfl)
      rintro p20 rfl
      refine Run.seq ?_
      obtain ⟨e21, he21, h2⟩ := bindE h
      refine R.regG [(3, .own 384 (p20.map int).length), (5, .lptr 320 0), (7, .slice (b0.map eTLine)), (8, int (b0.length : Int)), (9, int z9), (30, bool e21)] [(384, .obj true 3 1 (p20.map int)), (320, .blk true [int x11.Kind, int x11.Rule.Kind, int x11.Rule.A, int x11.Rule.B, int x11.Rule.C, .slice (x11.Clause.map eTLiteral)])] ?_ ?_
      · clear h; have h := he21; clear he21 h2
        refine X.fieldAddr_l fld67_0 (by rfl) (by rfl) ?_
        refine X.load_l shp3 (by rfl) (by rfl) (by rfl) (by rfl) (by rfl) (by rfl) ?_
        refine X.bin (by rfl) (by rfl) (by rfl) (by rfl) (by intro h; cases h) (by rfl) ?_
        refine X.move (by rfl) (by rfl) ?_
        refine X.ifG (by rfl) (by rfl) (by rfl) (fun hb22 => ?_) (fun hb22 => ?_)
        · replace h := condT hb22 h
          refine X.fieldAddr_l fld67_1 (by rfl) (by rfl) ?_
          refine X.gyes (by rfl) (by rfl) (by first | rfl | assumption) ?_
          refine X.fieldAddr_l fld65_0 (by rfl) (by rfl) ?_
          refine X.gyes (by rfl) (by rfl) (by first | rfl | assumption) ?_
          refine X.load_l shp3 (by rfl) (by rfl) (by rfl) (by rfl) (by rfl) (by rfl) ?_
          refine X.gyes (by rfl) (by rfl) (by first | rfl | assumption) ?_
          obtain ⟨v23, hv23, h⟩ := bindE h
          refine X.callP (s_RuleName_pc _ _ hv23) (by rfl) (by rfl) (by rfl) (by trivial) (by rfl) (by rfl) (by rfl) (by rfl) ?_
          refine X.gyes (by rfl) (by rfl) (by first | rfl | assumption) ?_
          refine X.bin (by rfl) (by rfl) (by rfl) (by rfl) (by intro h; cases h) (by rfl) ?_
          refine X.pickT (by rfl) (by first | rfl | assumption) (by rfl) (by rfl) ?_
          cases h
          exact X.endG (by repeat (first | trivial | refine ⟨by first | rfl | simp [setL], ?_⟩)) (by repeat (first | trivial | refine ⟨by first | rfl | simp [setL], ?_⟩)) (by rfl) (by rfl)
        · replace h := condF hb22 h
          refine X.gno (by rfl) (by rfl) (by first | rfl | assumption) (by rfl) ?_
          refine X.gno (by rfl) (by rfl) (by first | rfl | assumption) (by rfl) ?_
          refine X.gno (by rfl) (by rfl) (by first | rfl | assumption) (by rfl) ?_
          refine X.gno (by rfl) (by rfl) (by first | rfl | assumption) (by rfl) ?_
          refine X.pickF (by rfl) (by first | rfl | assumption) (by rfl) (by rfl) ?_
          cases h
          exact X.endG (by repeat (first | trivial | refine ⟨by first | rfl | simp [setL], ?_⟩)) (by repeat (first | trivial | refine ⟨by first | rfl | simp [setL], ?_⟩)) (by rfl) (by rfl)
      replace h := h2; clear h2
      refine R.cond (by rfl) (fun hc24 => ?_) (fun hc24 => ?_)
      · replace h := condT hc24 h
        refine Run.reg ?_
        refine X.move (by rfl) (by rfl) ?_
        refine X.fieldAddr_l fld67_1 (by rfl) (by rfl) ?_
        refine X.fieldAddr_l fld65_0 (by rfl) (by rfl) ?_
        refine X.load_l shp3 (by rfl) (by rfl) (by rfl) (by rfl) (by rfl) (by rfl) ?_
        refine X.addW (by rfl) (by rfl) (by rfl) ?_
        obtain ⟨v25, hv25, h⟩ := bindE h
        refine X.index_xs elt24 (by rfl) (by rfl) (by first | rfl | simp [setL] | omega) (by rfl) (by exact (Int.toNat_of_nonneg (idxL_spec hv25).1).symm) (by have := idxL_lt hv25; simpa using this) (by rfl) (by rfl) ?_
        refine X.load_e shp3 (by rfl) (by rfl) (by rfl) (by first | rfl | simp [setL] | omega) (idxL_map _ hv25) (by rfl) (by rfl) (by rfl) ?_
        refine X.addW (by rfl) (by rfl) (by rfl) ?_
        refine X.index_xs elt24 (by rfl) (by rfl) (by first | rfl | simp [setL] | omega) (by rfl) (by exact (Int.toNat_of_nonneg (idxL_spec hv25).1).symm) (by have := idxL_lt hv25; simpa using this) (by rfl) (by rfl) ?_
        refine X.store_es shp3 (by rfl) (by rfl) (by first | rfl | simp [setL] | omega) (idxL_map _ hv25) (by rfl) (by rfl) (by repeat (first | trivial | refine ⟨by first | rfl | simp [setL], ?_⟩)) (by rfl) (by rfl) (by rfl) (by rfl) (by exact setL_map _ _ _ (W (v25 + 1))) ?_
        refine X.nil ?_
        refine Run.blk ?_
        refine Run.reg ?_
        refine X.add (by rfl) (by rfl) (by omega) (by rfl) ?_
        refine X.move (by rfl) (by rfl) ?_
        refine X.nil ?_
        refine R.castS (t := 3) (.own 384 ((setL p20 (W (1 + x11.Rule.Kind)) (W (v25 + 1))).map int).length) (by rfl) (.inl (by first | rfl | simp [setL])) ?_
        exact hag8 (n8 - 1) (z9 + 1, (setL p20 (W (1 + x11.Rule.Kind)) (W (v25 + 1)))) _ _ (by omega) ⟨by first | omega | (dsimp only; omega), by first | omega | (dsimp only; omega), by first | (rw [hds8]; exact h) | (dsimp only; rw [hds8]; exact h)⟩ (by repeat (first | trivial | refine ⟨by first | rfl | simp [setL], ?_⟩)) (by repeat (first | trivial | refine ⟨by first | rfl | simp [setL], ?_⟩)) (by rfl) (by rfl)
      · replace h := condF hc24 h
        refine Run.skip ?_
        refine Run.blk ?_
        refine Run.reg ?_
        refine X.add (by rfl) (by rfl) (by omega) (by rfl) ?_
        refine X.move (by rfl) (by rfl) ?_
        refine X.nil ?_
        exact hag8 (n8 - 1) (z9 + 1, p20) _ _ (by omega) ⟨by first | omega | (dsimp only; omega), by first | omega | (dsimp only; omega), by first | (rw [hds8]; exact h) | (dsimp only; rw [hds8]; exact h)⟩ (by repeat (first | trivial | refine ⟨by first | rfl | simp [setL], ?_⟩)) (by repeat (first | trivial | refine ⟨by first | rfl | simp [setL], ?_⟩)) (by rfl) (by rfl)
    · rw [drop_endI hza8 hc13] at h
      rw [s_ProofStats_L1] at h
      refine Run.exit (by rfl) ?_
      exact hmeet4 a10 _ _ (Option.some.inj h) (by repeat (first | trivial | refine ⟨by first | rfl | simp [setL], ?_⟩)) (by repeat (first | trivial | refine ⟨by first | rfl | simp [setL], ?_⟩)) (by rfl) (by rfl)
  rintro p26 rfl
  refine Run.seq ?_
  refine Run.reg ?_
  refine X.move (by rfl) (by rfl) ?_
  refine X.assign (by rfl) (by rfl) ?_
  refine X.nil ?_
  cases h
  refine R.pubObj (n := 384) (by rfl) ?_
  refine R.fin1o Try.results9 (by rfl) (by rfl) (by first | rfl | simp [setL] | omega) ?_
  rfl
theorem i_within_pc (b0 : Int) (b1 : Int) (b2 : Int) (r : Bool) (h : i_within b0 b1 b2 = some r) : PC Try.prog 41 [int b0, int b1, int b2] (bool r) := by
  unfold i_within at h
  refine PC.start Try.func41 Try.ntmps41 rfl ok41 rfl ?_
  refine Run.seq ?_
  refine Run.reg ?_
  refine X.assign (by rfl) (by rfl) ?_
  refine X.nil ?_
  refine Run.seq ?_
  obtain ⟨e1, he1, h2⟩ := bindE h
  refine R.regG [(6, bool e1)] [] ?_ ?_
  · clear h; have h := he1; clear he1 h2
    refine X.move (by rfl) (by rfl) ?_
    refine X.move (by rfl) (by rfl) ?_
    refine X.bin (by rfl) (by rfl) (by rfl) (by rfl) (by intro h; cases h) (by rfl) ?_
    refine X.move (by rfl) (by rfl) ?_
    refine X.ifG (by rfl) (by rfl) (by rfl) (fun hb2 => ?_) (fun hb2 => ?_)
    · replace h := condT hb2 h
      refine X.move (by rfl) (by rfl) ?_
      refine X.gyes (by rfl) (by rfl) (by first | rfl | assumption) ?_
      refine X.move (by rfl) (by rfl) ?_
      refine X.gyes (by rfl) (by rfl) (by first | rfl | assumption) ?_
      refine X.bin (by rfl) (by rfl) (by rfl) (by rfl) (by intro h; cases h) (by rfl) ?_
      refine X.pickT (by rfl) (by first | rfl | assumption) (by rfl) (by rfl) ?_
      refine X.assign (by rfl) (by rfl) ?_
      cases h
      exact X.endG (by trivial) (by trivial) (by rfl) (by rfl)
    · replace h := condF hb2 h
      refine X.gno (by rfl) (by rfl) (by first | rfl | assumption) (by rfl) ?_
      refine X.gno (by rfl) (by rfl) (by first | rfl | assumption) (by rfl) ?_
      refine X.pickF (by rfl) (by first | rfl | assumption) (by rfl) (by rfl) ?_
      refine X.assign (by rfl) (by rfl) ?_
      cases h
      exact X.endG (by trivial) (by trivial) (by rfl) (by rfl)
  replace h := h2; clear h2
  cases h
  refine R.fin1 Try.results41 (by rfl) (by rfl) ?_
  rfl
theorem i_ProofStats_pc (b0 : List TLine) (r : List Int) (h : i_ProofStats b0 = some r) : PC Try.prog 11 [.slice (b0.map eTLine)] (.fresh true 3 1 (r.map int)) := by
  unfold i_ProofStats at h
  refine PC.start Try.func11 Try.ntmps11 rfl ok11 rfl ?_
  refine Run.seq ?_
  refine Run.reg ?_
  refine X.assign (by rfl) (by rfl) ?_
  refine X.nil ?_
  refine Run.seq ?_
  refine Run.reg ?_
  obtain ⟨v1, hv1, h⟩ := bindE h
  refine X.makeSlice2 int hv1 elt24 zer3 (by rfl) (by rfl) (by rfl) (by simp [PV.plain]) (by rfl) (by rfl) (by rfl) (by rfl) (by rfl) (by rfl) ?_
  refine X.assign (by rfl) (by rfl) ?_
  refine X.nil ?_
  refine Run.seq ?_
  refine Run.seq ?_
  refine Run.reg ?_
  refine X.move (by rfl) (by rfl) ?_
  refine X.len_s elt26 (by rfl) (by exact List.length_map ..) (by rfl) ?_
  refine X.move (by rfl) (by rfl) ?_
  refine X.nil ?_
  obtain ⟨o2, ho2, h⟩ := bindE h
  refine R.join2 (β := (List Int)) [] [] (fun p21 S => (3, .own 384 (p21.map int).length) :: S) (fun p21 M => (384, .obj true 3 1 (p21.map int)) :: M) (fun p21 => p21 = o2) ?_ ?_
  · intro JJ5 hmeet4
    have hup3 := h; clear h; have h := ho2; clear ho2
    refine Run.block ?_
    refine R.bndS (t := 0) (by rfl) (fun hbd8 => ?_)
    replace hbd8 : b0.length ≤ 9223372036854775807 := by first | (rw [List.length_map] at hbd8; exact hbd8) | simp
    refine R.loop2 (β := Int × (List Int)) [(7, .slice (b0.map eTLine)), (8, int (b0.length : Int))] [] (fun bb S => (3, .own 384 (bb.2.map int).length) :: (9, int bb.1) :: S) (fun bb M => (384, .obj true 3 1 (bb.2.map int)) :: M) (fun n bb => 0 ≤ bb.1 ∧ bb.1 + n = (b0.length : Int) ∧ i_ProofStats_L1 (b0.drop bb.1.toNat) bb.1 bb.2 = some o2) b0.length (0, v1) (by repeat (first | trivial | refine ⟨by first | rfl | simp [setL], ?_⟩)) (by repeat (first | trivial | refine ⟨by first | rfl | simp [setL], ?_⟩)) (by rfl) (by rfl) ⟨Int.le_refl _, by simp, h⟩ ?_
    clear h
    rintro JJ8 n8 ⟨z9, a10⟩ hag8 ⟨hza8, hzb8, h⟩
    dsimp only at hza8 hzb8 h
    refine Run.seq ?_
    refine Run.reg ?_
    refine X.bin (by rfl) (by rfl) (by rfl) (by rfl) (by intro h; cases h) (by rfl) ?_
    refine X.nil ?_
    refine Run.seq ?_
    refine R.cond (by rfl) (fun hc13 => ?_) (fun hc13 => ?_)
    · obtain ⟨x11, xs12, hd8, hx8, hds8, hlt8⟩ := drop_atI hza8 hc13
      rw [hd8] at h
      rw [i_ProofStats_L1] at h
      refine Run.skip ?_
      refine Run.seq ?_
      refine Run.block ?_
      refine Run.seq ?_
      refine Run.reg ?_
      refine X.index_s elt26 (by rfl) (by rfl) (idxL_spec hx8).1 (idxL_map eTLine hx8) (by rfl) (by rfl) (by rfl) ?_
      refine X.load_c shp67 (by rfl) (by rfl) (by rfl) (by rfl) ?_
      refine X.alloc zer67 (by rfl) (by rfl) (by rfl) ?_
      refine X.store_l shp67 (by rfl) (by rfl) (by rfl) (by rfl) (by repeat (first | trivial | refine ⟨by first | rfl | simp [setL], ?_⟩)) (by rfl) (by rfl) (by rfl) ?_
      refine X.nil ?_
      refine Run.block ?_
      refine Run.seq ?_
      refine Run.reg ?_
      refine X.fieldAddr_l fld67_0 (by rfl) (by rfl) ?_
      refine X.load_l shp3 (by rfl) (by rfl) (by rfl) (by rfl) (by rfl) (by rfl) ?_
      refine X.bin (by rfl) (by rfl) (by rfl) (by rfl) (by intro h; cases h) (by rfl) ?_
      refine X.assign (by rfl) (by rfl) ?_
      refine X.nil ?_
      refine R.cond (by rfl) (fun hc14 => ?_) (fun hc14 => ?_)
      · replace h := condT hc14 h
        refine Run.reg ?_
        refine X.move (by rfl) (by rfl) ?_
        obtain ⟨v15, hv15, h⟩ := bindE h
        refine X.index_xs elt24 (by rfl) (by rfl) (by first | rfl | simp [setL] | omega) (by rfl) (by exact (Int.toNat_of_nonneg (idxL_spec hv15).1).symm) (by have := idxL_lt hv15; simpa using this) (by rfl) (by rfl) ?_
        refine X.load_e shp3 (by rfl) (by rfl) (by rfl) (by first | rfl | simp [setL] | omega) (idxL_map _ hv15) (by rfl) (by rfl) (by rfl) ?_
        refine X.addW (by rfl) (by rfl) (by rfl) ?_
        refine X.index_xs elt24 (by rfl) (by rfl) (by first | rfl | simp [setL] | omega) (by rfl) (by exact (Int.toNat_of_nonneg (idxL_spec hv15).1).symm) (by have := idxL_lt hv15; simpa using this) (by rfl) (by rfl) ?_
        refine X.store_es shp3 (by rfl) (by rfl) (by first | rfl | simp [setL] | omega) (idxL_map _ hv15) (by rfl) (by rfl) (by repeat (first | trivial | refine ⟨by first | rfl | simp [setL], ?_⟩)) (by rfl) (by rfl) (by rfl) (by rfl) (by exact setL_map _ _ _ (W (v15 + 1))) ?_
        refine X.nil ?_
        refine Run.blk ?_
        refine Run.blk ?_
        refine Run.reg ?_
        refine X.add (by rfl) (by rfl) (by omega) (by rfl) ?_
        refine X.move (by rfl) (by rfl) ?_
        refine X.nil ?_
        refine R.castS (t := 3) (.own 384 ((setL a10 0 (W (v15 + 1))).map int).length) (by rfl) (.inl (by first | rfl | simp [setL])) ?_
        exact hag8 (n8 - 1) (z9 + 1, (setL a10 0 (W (v15 + 1)))) _ _ (by omega) ⟨by first | omega | (dsimp only; omega), by first | omega | (dsimp only; omega), by first | (rw [hds8]; exact h) | (dsimp only; rw [hds8]; exact h)⟩ (by repeat (first | trivial | refine ⟨by first | rfl | simp [setL], ?_⟩)) (by repeat (first | trivial | refine ⟨by first | rfl | simp [setL], ?_⟩)) (by rfl) (by rfl)
      · replace h := condF hc14 h
        refine Run.seq ?_
        obtain ⟨e16, he16, h2⟩ := bindE h
        refine R.regG [(3, .own 384 (a10.map int).length), (5, .lptr 320 0), (7, .slice (b0.map eTLine)), (8, int (b0.length : Int)), (9, int z9), (22, bool e16)] [(384, .obj true 3 1 (a10.map int)), (320, .blk true [int x11.Kind, int x11.Rule.Kind, int x11.Rule.A, int x11.Rule.B, int x11.Rule.C, .slice (x11.Clause.map eTLiteral)])] ?_ ?_
        · clear h; have h := he16; clear he16 h2
          refine X.fieldAddr_l fld67_0 (by rfl) (by rfl) ?_
          refine X.load_l shp3 (by rfl) (by rfl) (by rfl) (by rfl) (by rfl) (by rfl) ?_
          refine X.bin (by rfl) (by rfl) (by rfl) (by rfl) (by intro h; cases h) (by rfl) ?_
          refine X.move (by rfl) (by rfl) ?_
          refine X.ifG (by rfl) (by rfl) (by rfl) (fun hb17 => ?_) (fun hb17 => ?_)
          · replace h := condT hb17 h
            refine X.fieldAddr_l fld67_1 (by rfl) (by rfl) ?_
            refine X.gyes (by rfl) (by rfl) (by first | rfl | assumption) ?_
            refine X.fieldAddr_l fld65_0 (by rfl) (by rfl) ?_
            refine X.gyes (by rfl) (by rfl) (by first | rfl | assumption) ?_
            refine X.load_l shp3 (by rfl) (by rfl) (by rfl) (by rfl) (by rfl) (by rfl) ?_
            refine X.gyes (by rfl) (by rfl) (by first | rfl | assumption) ?_
            obtain ⟨v18, hv18, h⟩ := bindE h
            refine X.callP (i_within_pc _ _ _ _ hv18) (by rfl) (by rfl) (by rfl) (by trivial) (by rfl) (by rfl) (by rfl) (by rfl) ?_
            refine X.pickT (by rfl) (by first | rfl | assumption) (by rfl) (by rfl) ?_
            refine X.assign (by rfl) (by rfl) ?_
            cases h
            exact X.endG (by repeat (first | trivial | refine ⟨by first | rfl | simp [setL], ?_⟩)) (by repeat (first | trivial | refine ⟨by first | rfl | simp [setL], ?_⟩)) (by rfl) (by rfl)
          · replace h := condF hb17 h
            refine X.gno (by rfl) (by rfl) (by first | rfl | assumption) (by rfl) ?_
            refine X.gno (by rfl) (by rfl) (by first | rfl | assumption) (by rfl) ?_
            refine X.gno (by rfl) (by rfl) (by first | rfl | assumption) (by rfl) ?_
            refine X.pickF (by rfl) (by first | rfl | assumption) (by rfl) (by rfl) ?_
            refine X.assign (by rfl) (by rfl) ?_
            cases h
            exact X.endG (by repeat (first | trivial | refine ⟨by first | rfl | simp [setL], ?_⟩)) (by repeat (first | trivial | refine ⟨by first | rfl | simp [setL], ?_⟩)) (by rfl) (by rfl)
        replace h := h2; clear h2
        refine R.cond (by rfl) (fun hc19 => ?_) (fun hc19 => ?_)
        · replace h := condT hc19 h
          refine Run.reg ?_
          refine X.move (by rfl) (by rfl) ?_
          refine X.fieldAddr_l fld67_1 (by rfl) (by rfl) ?_
          refine X.fieldAddr_l fld65_0 (by rfl) (by rfl) ?_
          refine X.load_l shp3 (by rfl) (by rfl) (by rfl) (by rfl) (by rfl) (by rfl) ?_
          refine X.addW (by rfl) (by rfl) (by rfl) ?_
          obtain ⟨v20, hv20, h⟩ := bindE h
          refine X.index_xs elt24 (by rfl) (by rfl) (by first | rfl | simp [setL] | omega) (by rfl) (by exact (Int.toNat_of_nonneg (idxL_spec hv20).1).symm) (by have := idxL_lt hv20; simpa using this) (by rfl) (by rfl) ?_
          refine X.load_e shp3 (by rfl) (by rfl) (by rfl) (by first | rfl | simp [setL] | omega) (idxL_map _ hv20) (by rfl) (by rfl) (by rfl) ?_
          refine X.addW (by rfl) (by rfl) (by rfl) ?_
          refine X.index_xs elt24 (by rfl) (by rfl) (by first | rfl | simp [setL] | omega) (by rfl) (by exact (Int.toNat_of_nonneg (idxL_spec hv20).1).symm) (by have := idxL_lt hv20; simpa using this) (by rfl) (by rfl) ?_
          refine X.store_es shp3 (by rfl) (by rfl) (by first | rfl | simp [setL] | omega) (idxL_map _ hv20) (by rfl) (by rfl) (by repeat (first | trivial | refine ⟨by first | rfl | simp [setL], ?_⟩)) (by rfl) (by rfl) (by rfl) (by rfl) (by exact setL_map _ _ _ (W (v20 + 1))) ?_
          refine X.nil ?_
          refine Run.blk ?_
          refine Run.blk ?_
          refine Run.reg ?_
          refine X.add (by rfl) (by rfl) (by omega) (by rfl) ?_
          refine X.move (by rfl) (by rfl) ?_
          refine X.nil ?_
          refine R.castS (t := 3) (.own 384 ((setL a10 (W (x11.Rule.Kind + 1)) (W (v20 + 1))).map int).length) (by rfl) (.inl (by first | rfl | simp [setL])) ?_
          exact hag8 (n8 - 1) (z9 + 1, (setL a10 (W (x11.Rule.Kind + 1)) (W (v20 + 1)))) _ _ (by omega) ⟨by first | omega | (dsimp only; omega), by first | omega | (dsimp only; omega), by first | (rw [hds8]; exact h) | (dsimp only; rw [hds8]; exact h)⟩ (by repeat (first | trivial | refine ⟨by first | rfl | simp [setL], ?_⟩)) (by repeat (first | trivial | refine ⟨by first | rfl | simp [setL], ?_⟩)) (by rfl) (by rfl)
        · replace h := condF hc19 h
          refine Run.skip ?_
          refine Run.blk ?_
          refine Run.blk ?_
          refine Run.reg ?_
          refine X.add (by rfl) (by rfl) (by omega) (by rfl) ?_
          refine X.move (by rfl) (by rfl) ?_
          refine X.nil ?_
          exact hag8 (n8 - 1) (z9 + 1, a10) _ _ (by omega) ⟨by first | omega | (dsimp only; omega), by first | omega | (dsimp only; omega), by first | (rw [hds8]; exact h) | (dsimp only; rw [hds8]; exact h)⟩ (by repeat (first | trivial | refine ⟨by first | rfl | simp [setL], ?_⟩)) (by repeat (first | trivial | refine ⟨by first | rfl | simp [setL], ?_⟩)) (by rfl) (by rfl)
    · rw [drop_endI hza8 hc13] at h
      rw [i_ProofStats_L1] at h
      refine Run.exit (by rfl) ?_
      exact hmeet4 a10 _ _ (Option.some.inj h) (by repeat (first | trivial | refine ⟨by first | rfl | simp [setL], ?_⟩)) (by repeat (first | trivial | refine ⟨by first | rfl | simp [setL], ?_⟩)) (by rfl) (by rfl)
  rintro p21 rfl
  refine Run.seq ?_
  refine Run.reg ?_
  refine X.move (by rfl) (by rfl) ?_
  refine X.assign (by rfl) (by rfl) ?_
  refine X.nil ?_
  cases h
  refine R.fin1o Try.results11 (by rfl) (by rfl) (by first | rfl | simp [setL] | omega) ?_
  rfl
theorem w_eqIntS_pc (b0 : List Int) (b1 : List Int) (r : Bool) (h : w_eqIntS b0 b1 = some r) : PC Try.prog 12 [.slice (b0.map int), .slice (b1.map int)] (bool r) := by
  unfold w_eqIntS at h
  refine PC.start Try.func12 Try.ntmps12 rfl ok12 rfl ?_
  refine Run.seq ?_
  refine Run.reg ?_
  refine X.assign (by rfl) (by rfl) ?_
  refine X.nil ?_
  refine Run.seq ?_
  refine Run.seq ?_
  refine Run.reg ?_
  refine X.move (by rfl) (by rfl) ?_
  refine X.len_s elt24 (by rfl) (by exact List.length_map ..) (by rfl) ?_
  refine X.move (by rfl) (by rfl) ?_
  refine X.len_s elt24 (by rfl) (by exact List.length_map ..) (by rfl) ?_
  refine X.bin (by rfl) (by rfl) (by rfl) (by rfl) (by intro h; cases h) (by rfl) ?_
  refine X.nil ?_
  refine R.cond (by rfl) (fun hc1 => ?_) (fun hc1 => ?_)
  · replace h := condT hc1 h
    refine Run.seq ?_
    refine Run.reg ?_
    refine X.assign (by rfl) (by rfl) ?_
    refine X.nil ?_
    cases h
    refine R.fin1 Try.results12 (by rfl) (by rfl) ?_
    rfl
  · replace h := condF hc1 h
    refine Run.skip ?_
    refine Run.seq ?_
    refine Run.seq ?_
    refine Run.reg ?_
    refine X.assign (by rfl) (by rfl) ?_
    refine X.nil ?_
    obtain ⟨o2, ho2, h⟩ := bindE h
    refine R.join2 (β := Unit) [] [] (fun p15 S => S) (fun p15 M => M) (fun p15 => (Sum.inl p15) = o2) ?_ ?_
    · intro JJ5 hmeet4
      have hup3 := h; clear h; have h := ho2; clear ho2
      refine Run.block ?_
      refine R.bndS (t := 0) (by rfl) (fun hbd8 => ?_)
      replace hbd8 : b0.length ≤ 9223372036854775807 := by first | (rw [List.length_map] at hbd8; exact hbd8) | simp
      refine R.loop2 (β := Int) [(0, .slice (b0.map int)), (1, .slice (b1.map int))] [] (fun bb S => (5, int bb) :: S) (fun bb M => M) (fun n bb => 0 ≤ bb ∧ bb + n = (b0.length : Int) ∧ w_eqIntS_L1 b1 (b0.drop bb.toNat) bb = some o2) b0.length (0 : Int) (by repeat (first | trivial | refine ⟨by first | rfl | simp [setL], ?_⟩)) (by repeat (first | trivial | refine ⟨by first | rfl | simp [setL], ?_⟩)) (by rfl) (by rfl) ⟨Int.le_refl _, by simp, h⟩ ?_
      clear h
      rintro JJ8 n8 z9 hag8 ⟨hza8, hzb8, h⟩
      refine Run.seq ?_
      refine Run.seq ?_
      refine Run.reg ?_
      refine X.move (by rfl) (by rfl) ?_
      refine X.move (by rfl) (by rfl) ?_
      refine X.len_s elt24 (by rfl) (by exact List.length_map ..) (by rfl) ?_
      refine X.bin (by rfl) (by rfl) (by rfl) (by rfl) (by intro h; cases h) (by rfl) ?_
      refine X.nil ?_
      refine R.cond (by rfl) (fun hc12 => ?_) (fun hc12 => ?_)
      · obtain ⟨x10, xs11, hd8, hx8, hds8, hlt8⟩ := drop_atI hza8 hc12
        rw [hd8] at h
        rw [w_eqIntS_L1] at h
        refine Run.skip ?_
        refine Run.seq ?_
        refine Run.block ?_
        refine Run.seq ?_
        refine Run.draw (footOf []) mixed (by kernel_rfl) (by kernel_rfl) ?_
        refine X.move (by rfl) (by rfl) ?_
        refine X.move (by rfl) (by rfl) ?_
        refine X.index_s elt24 (by rfl) (by rfl) (idxL_spec hx8).1 (idxL_map int hx8) (by rfl) (by rfl) (by rfl) ?_
        refine X.load_c shp3 (by rfl) (by rfl) (by rfl) (by rfl) ?_
        refine X.move (by rfl) (by rfl) ?_
        refine X.move (by rfl) (by rfl) ?_
        obtain ⟨v13, hv13, h⟩ := bindE h
        refine X.index_s elt24 (by rfl) (by rfl) (idxL_spec hv13).1 (idxL_map int hv13) (by rfl) (by rfl) (by rfl) ?_
        refine X.load_c shp3 (by rfl) (by rfl) (by rfl) (by rfl) ?_
        refine X.bin (by rfl) (by rfl) (by rfl) (by rfl) (by intro h; cases h) (by rfl) ?_
        refine X.nil ?_
        refine R.cond (by rfl) (fun hc14 => ?_) (fun hc14 => ?_)
        · replace h := condT hc14 h
          refine Run.seq ?_
          refine Run.reg ?_
          refine X.assign (by rfl) (by rfl) ?_
          refine X.nil ?_
          cases h
          have h := hup3
          replace h := elimR h
          cases h
          refine R.fin1 Try.results12 (by rfl) (by rfl) ?_
          rfl
        · replace h := condF hc14 h
          refine Run.skip ?_
          refine Run.blk ?_
          refine Run.reg ?_
          refine X.move (by rfl) (by rfl) ?_
          refine X.add (by rfl) (by rfl) (by omega) (by rfl) ?_
          refine X.assign (by rfl) (by rfl) ?_
          refine X.nil ?_
          exact hag8 (n8 - 1) (z9 + 1) _ _ (by omega) ⟨by first | omega | (dsimp only; omega), by first | omega | (dsimp only; omega), by first | (rw [hds8]; exact h) | (dsimp only; rw [hds8]; exact h)⟩ (by trivial) (by trivial) (by rfl) (by rfl)
      · rw [drop_endI hza8 hc12] at h
        rw [w_eqIntS_L1] at h
        refine Run.exit (by rfl) ?_
        exact hmeet4 () _ _ (Option.some.inj h) (by trivial) (by trivial) (by rfl) (by rfl)
    rintro p15 rfl
    replace h := elimL h
    refine Run.seq ?_
    refine Run.reg ?_
    refine X.assign (by rfl) (by rfl) ?_
    refine X.nil ?_
    cases h
    refine R.fin1 Try.results12 (by rfl) (by rfl) ?_
    rfl
theorem w_eqRule_pc (b0 : TRule) (b1 : TRule) (r : Bool) (h : w_eqRule b0 b1 = some r) : PC Try.prog 59 [eTRule b0, eTRule b1] (bool r) := by
  unfold w_eqRule at h
  refine PC.start Try.func59 Try.ntmps59 rfl ok59 rfl ?_
  refine Run.seq ?_
  refine Run.reg ?_
  refine X.box (by rfl) (by rfl) (by repeat (first | trivial | refine ⟨by first | rfl | simp [setL], ?_⟩)) (by rfl) (by rfl) (by rfl) (by rfl) ?_
  refine X.box (by rfl) (by rfl) (by repeat (first | trivial | refine ⟨by first | rfl | simp [setL], ?_⟩)) (by rfl) (by rfl) (by rfl) (by rfl) ?_
  refine X.assign (by rfl) (by rfl) ?_
  refine X.nil ?_
  refine Run.seq ?_
  refine Run.seq ?_
  refine Run.reg ?_
  refine X.fieldAddr_l fld65_0 (by rfl) (by rfl) ?_
  refine X.load_l shp3 (by rfl) (by rfl) (by rfl) (by rfl) (by rfl) (by rfl) ?_
  refine X.fieldAddr_l fld65_0 (by rfl) (by rfl) ?_
  refine X.load_l shp3 (by rfl) (by rfl) (by rfl) (by rfl) (by rfl) (by rfl) ?_
  refine X.bin (by rfl) (by rfl) (by rfl) (by rfl) (by intro h; cases h) (by rfl) ?_
  refine X.nil ?_
  refine R.cond (by rfl) (fun hc1 => ?_) (fun hc1 => ?_)
  · replace h := condT hc1 h
    refine Run.seq ?_
    refine Run.reg ?_
    refine X.assign (by rfl) (by rfl) ?_
    refine X.nil ?_
    cases h
    refine R.fin1 Try.results59 (by rfl) (by rfl) ?_
    rfl
  · replace h := condF hc1 h
    refine Run.skip ?_
    refine Run.seq ?_
    refine Run.seq ?_
    refine Run.reg ?_
    refine X.fieldAddr_l fld65_1 (by rfl) (by rfl) ?_
    refine X.load_l shp3 (by rfl) (by rfl) (by rfl) (by rfl) (by rfl) (by rfl) ?_
    refine X.fieldAddr_l fld65_1 (by rfl) (by rfl) ?_
    refine X.load_l shp3 (by rfl) (by rfl) (by rfl) (by rfl) (by rfl) (by rfl) ?_
    refine X.bin (by rfl) (by rfl) (by rfl) (by rfl) (by intro h; cases h) (by rfl) ?_
    refine X.nil ?_
    refine R.cond (by rfl) (fun hc2 => ?_) (fun hc2 => ?_)
    · replace h := condT hc2 h
      refine Run.seq ?_
      refine Run.reg ?_
      refine X.assign (by rfl) (by rfl) ?_
      refine X.nil ?_
      cases h
      refine R.fin1 Try.results59 (by rfl) (by rfl) ?_
      rfl
    · replace h := condF hc2 h
      refine Run.skip ?_
      refine Run.seq ?_
      refine Run.seq ?_
      refine Run.reg ?_
      refine X.fieldAddr_l fld65_2 (by rfl) (by rfl) ?_
      refine X.load_l shp3 (by rfl) (by rfl) (by rfl) (by rfl) (by rfl) (by rfl) ?_
      refine X.fieldAddr_l fld65_2 (by rfl) (by rfl) ?_
      refine X.load_l shp3 (by rfl) (by rfl) (by rfl) (by rfl) (by rfl) (by rfl) ?_
      refine X.bin (by rfl) (by rfl) (by rfl) (by rfl) (by intro h; cases h) (by rfl) ?_
      refine X.nil ?_
      refine R.cond (by rfl) (fun hc3 => ?_) (fun hc3 => ?_)
      · replace h := condT hc3 h
        refine Run.seq ?_
        refine Run.reg ?_
        refine X.assign (by rfl) (by rfl) ?_
        refine X.nil ?_
        cases h
        refine R.fin1 Try.results59 (by rfl) (by rfl) ?_
        rfl
      · replace h := condF hc3 h
        refine Run.skip ?_
        refine Run.seq ?_
        refine Run.seq ?_
        refine Run.reg ?_
        refine X.fieldAddr_l fld65_3 (by rfl) (by rfl) ?_
        refine X.load_l shp3 (by rfl) (by rfl) (by rfl) (by rfl) (by rfl) (by rfl) ?_
        refine X.fieldAddr_l fld65_3 (by rfl) (by rfl) ?_
        refine X.load_l shp3 (by rfl) (by rfl) (by rfl) (by rfl) (by rfl) (by rfl) ?_
        refine X.bin (by rfl) (by rfl) (by rfl) (by rfl) (by intro h; cases h) (by rfl) ?_
        refine X.nil ?_
        refine R.cond (by rfl) (fun hc4 => ?_) (fun hc4 => ?_)
        · replace h := condT hc4 h
          refine Run.seq ?_
          refine Run.reg ?_
          refine X.assign (by rfl) (by rfl) ?_
          refine X.nil ?_
          cases h
          refine R.fin1 Try.results59 (by rfl) (by rfl) ?_
          rfl
        · replace h := condF hc4 h
          refine Run.skip ?_
          refine Run.seq ?_
          refine Run.reg ?_
          refine X.assign (by rfl) (by rfl) ?_
          refine X.nil ?_
          cases h
          refine R.fin1 Try.results59 (by rfl) (by rfl) ?_
          rfl
theorem w_eqLiteral_pc (b0 : TLiteral) (b1 : TLiteral) (r : Bool) (h : w_eqLiteral b0 b1 = some r) : PC Try.prog 53 [eTLiteral b0, eTLiteral b1] (bool r) := by
  unfold w_eqLiteral at h
  refine PC.start Try.func53 Try.ntmps53 rfl ok53 rfl ?_
  refine Run.seq ?_
  refine Run.reg ?_
  refine X.box (by rfl) (by rfl) (by repeat (first | trivial | refine ⟨by first | rfl | simp [setL], ?_⟩)) (by rfl) (by rfl) (by rfl) (by rfl) ?_
  refine X.box (by rfl) (by rfl) (by repeat (first | trivial | refine ⟨by first | rfl | simp [setL], ?_⟩)) (by rfl) (by rfl) (by rfl) (by rfl) ?_
  refine X.assign (by rfl) (by rfl) ?_
  refine X.nil ?_
  refine Run.seq ?_
  refine Run.seq ?_
  refine Run.reg ?_
  refine X.fieldAddr_l fld57_0 (by rfl) (by rfl) ?_
  refine X.load_l shp3 (by rfl) (by rfl) (by rfl) (by rfl) (by rfl) (by rfl) ?_
  refine X.fieldAddr_l fld57_0 (by rfl) (by rfl) ?_
  refine X.load_l shp3 (by rfl) (by rfl) (by rfl) (by rfl) (by rfl) (by rfl) ?_
  refine X.bin (by rfl) (by rfl) (by rfl) (by rfl) (by intro h; cases h) (by rfl) ?_
  refine X.nil ?_
  refine R.cond (by rfl) (fun hc1 => ?_) (fun hc1 => ?_)
  · replace h := condT hc1 h
    refine Run.seq ?_
    refine Run.reg ?_
    refine X.assign (by rfl) (by rfl) ?_
    refine X.nil ?_
    cases h
    refine R.fin1 Try.results53 (by rfl) (by rfl) ?_
    rfl
  · replace h := condF hc1 h
    refine Run.skip ?_
    refine Run.seq ?_
    refine Run.seq ?_
    refine Run.reg ?_
    refine X.fieldAddr_l fld57_1 (by rfl) (by rfl) ?_
    refine X.load_l shp3 (by rfl) (by rfl) (by rfl) (by rfl) (by rfl) (by rfl) ?_
    refine X.fieldAddr_l fld57_1 (by rfl) (by rfl) ?_
    refine X.load_l shp3 (by rfl) (by rfl) (by rfl) (by rfl) (by rfl) (by rfl) ?_
    refine X.bin (by rfl) (by rfl) (by rfl) (by rfl) (by intro h; cases h) (by rfl) ?_
    refine X.nil ?_
    refine R.cond (by rfl) (fun hc2 => ?_) (fun hc2 => ?_)
    · replace h := condT hc2 h
      refine Run.seq ?_
      refine Run.reg ?_
      refine X.assign (by rfl) (by rfl) ?_
      refine X.nil ?_
      cases h
      refine R.fin1 Try.results53 (by rfl) (by rfl) ?_
      rfl
    · replace h := condF hc2 h
      refine Run.skip ?_
      refine Run.seq ?_
      refine Run.seq ?_
      refine Run.reg ?_
      refine X.fieldAddr_l fld57_2 (by rfl) (by rfl) ?_
      refine X.load_l shp3 (by rfl) (by rfl) (by rfl) (by rfl) (by rfl) (by rfl) ?_
      refine X.fieldAddr_l fld57_2 (by rfl) (by rfl) ?_
      refine X.load_l shp3 (by rfl) (by rfl) (by rfl) (by rfl) (by rfl) (by rfl) ?_
      refine X.bin (by rfl) (by rfl) (by rfl) (by rfl) (by intro h; cases h) (by rfl) ?_
      refine X.nil ?_
      refine R.cond (by rfl) (fun hc3 => ?_) (fun hc3 => ?_)
      · replace h := condT hc3 h
        refine Run.seq ?_
        refine Run.reg ?_
        refine X.assign (by rfl) (by rfl) ?_
        refine X.nil ?_
        cases h
        refine R.fin1 Try.results53 (by rfl) (by rfl) ?_
        rfl
      · replace h := condF hc3 h
        refine Run.skip ?_
        refine Run.seq ?_
        refine Run.reg ?_
        refine X.assign (by rfl) (by rfl) ?_
        refine X.nil ?_
        cases h
        refine R.fin1 Try.results53 (by rfl) (by rfl) ?_
        rfl
theorem w_eqLiteralS_pc (b0 : List TLiteral) (b1 : List TLiteral) (r : Bool) (h : w_eqLiteralS b0 b1 = some r) : PC Try.prog 32 [.slice (b0.map eTLiteral), .slice (b1.map eTLiteral)] (bool r) := by
  unfold w_eqLiteralS at h
  refine PC.start Try.func32 Try.ntmps32 rfl ok32 rfl ?_
  refine Run.seq ?_
  refine Run.reg ?_
  refine X.assign (by rfl) (by rfl) ?_
  refine X.nil ?_
  refine Run.seq ?_
  refine Run.seq ?_
  refine Run.reg ?_
  refine X.move (by rfl) (by rfl) ?_
  refine X.len_s elt48 (by rfl) (by exact List.length_map ..) (by rfl) ?_
  refine X.move (by rfl) (by rfl) ?_
  refine X.len_s elt48 (by rfl) (by exact List.length_map ..) (by rfl) ?_
  refine X.bin (by rfl) (by rfl) (by rfl) (by rfl) (by intro h; cases h) (by rfl) ?_
  refine X.nil ?_
  refine R.cond (by rfl) (fun hc1 => ?_) (fun hc1 => ?_)
  · replace h := condT hc1 h
    refine Run.seq ?_
    refine Run.reg ?_
    refine X.assign (by rfl) (by rfl) ?_
    refine X.nil ?_
    cases h
    refine R.fin1 Try.results32 (by rfl) (by rfl) ?_
    rfl
  · replace h := condF hc1 h
    refine Run.skip ?_
    refine Run.seq ?_
    refine Run.seq ?_
    refine Run.reg ?_
    refine X.assign (by rfl) (by rfl) ?_
    refine X.nil ?_
    obtain ⟨o2, ho2, h⟩ := bindE h
    refine R.join2 (β := Unit) [] [] (fun p16 S => S) (fun p16 M => M) (fun p16 => (Sum.inl p16) = o2) ?_ ?_
    · intro JJ5 hmeet4
      have hup3 := h; clear h; have h := ho2; clear ho2
      refine Run.block ?_
      refine R.bndS (t := 0) (by rfl) (fun hbd8 => ?_)
      replace hbd8 : b0.length ≤ 9223372036854775807 := by first | (rw [List.length_map] at hbd8; exact hbd8) | simp
      refine R.loop2 (β := Int) [(0, .slice (b0.map eTLiteral)), (1, .slice (b1.map eTLiteral))] [] (fun bb S => (5, int bb) :: S) (fun bb M => M) (fun n bb => 0 ≤ bb ∧ bb + n = (b0.length : Int) ∧ w_eqLiteralS_L1 b1 (b0.drop bb.toNat) bb = some o2) b0.length (0 : Int) (by repeat (first | trivial | refine ⟨by first | rfl | simp [setL], ?_⟩)) (by repeat (first | trivial | refine ⟨by first | rfl | simp [setL], ?_⟩)) (by rfl) (by rfl) ⟨Int.le_refl _, by simp, h⟩ ?_
      clear h
      rintro JJ8 n8 z9 hag8 ⟨hza8, hzb8, h⟩
      refine Run.seq ?_
      refine Run.seq ?_
      refine Run.reg ?_
      refine X.move (by rfl) (by rfl) ?_
      refine X.move (by rfl) (by rfl) ?_
      refine X.len_s elt48 (by rfl) (by exact List.length_map ..) (by rfl) ?_
      refine X.bin (by rfl) (by rfl) (by rfl) (by rfl) (by intro h; cases h) (by rfl) ?_
      refine X.nil ?_
      refine R.cond (by rfl) (fun hc12 => ?_) (fun hc12 => ?_)
      · obtain ⟨x10, xs11, hd8, hx8, hds8, hlt8⟩ := drop_atI hza8 hc12
        rw [hd8] at h
        rw [w_eqLiteralS_L1] at h
        refine Run.skip ?_
        refine Run.seq ?_
        refine Run.block ?_
        refine Run.seq ?_
        refine Run.draw (footOf []) mixed (by kernel_rfl) (by kernel_rfl) ?_
        refine X.move (by rfl) (by rfl) ?_
        refine X.move (by rfl) (by rfl) ?_
        refine X.index_s elt48 (by rfl) (by rfl) (idxL_spec hx8).1 (idxL_map eTLiteral hx8) (by rfl) (by rfl) (by rfl) ?_
        refine X.load_c shp57 (by rfl) (by rfl) (by rfl) (by rfl) ?_
        refine X.move (by rfl) (by rfl) ?_
        refine X.move (by rfl) (by rfl) ?_
        obtain ⟨v13, hv13, h⟩ := bindE h
        refine X.index_s elt48 (by rfl) (by rfl) (idxL_spec hv13).1 (idxL_map eTLiteral hv13) (by rfl) (by rfl) (by rfl) ?_
        refine X.load_c shp57 (by rfl) (by rfl) (by rfl) (by rfl) ?_
        obtain ⟨v14, hv14, h⟩ := bindE h
        refine X.callP (w_eqLiteral_pc _ _ _ hv14) (by rfl) (by rfl) (by rfl) (by trivial) (by rfl) (by rfl) (by rfl) (by rfl) ?_
        refine X.un (by rfl) (by rfl) (by rfl) ?_
        refine X.nil ?_
        refine R.cond (by rfl) (fun hc15 => ?_) (fun hc15 => ?_)
        · replace h := condT hc15 h
          refine Run.seq ?_
          refine Run.reg ?_
          refine X.assign (by rfl) (by rfl) ?_
          refine X.nil ?_
          cases h
          have h := hup3
          replace h := elimR h
          cases h
          refine R.fin1 Try.results32 (by rfl) (by rfl) ?_
          rfl
        · replace h := condF hc15 h
          refine Run.skip ?_
          refine Run.blk ?_
          refine Run.reg ?_
          refine X.move (by rfl) (by rfl) ?_
          refine X.add (by rfl) (by rfl) (by omega) (by rfl) ?_
          refine X.assign (by rfl) (by rfl) ?_
          refine X.nil ?_
          exact hag8 (n8 - 1) (z9 + 1) _ _ (by omega) ⟨by first | omega | (dsimp only; omega), by first | omega | (dsimp only; omega), by first | (rw [hds8]; exact h) | (dsimp only; rw [hds8]; exact h)⟩ (by trivial) (by trivial) (by rfl) (by rfl)
      · rw [drop_endI hza8 hc12] at h
        rw [w_eqLiteralS_L1] at h
        refine Run.exit (by rfl) ?_
        exact hmeet4 () _ _ (Option.some.inj h) (by trivial) (by trivial) (by rfl) (by rfl)
    rintro p16 rfl
    replace h := elimL h
    refine Run.seq ?_
    refine Run.reg ?_
    refine X.assign (by rfl) (by rfl) ?_
    refine X.nil ?_
    cases h
    refine R.fin1 Try.results32 (by rfl) (by rfl) ?_
    rfl
theorem w_eqLine_pc (b0 : TLine) (b1 : TLine) (r : Bool) (h : w_eqLine b0 b1 = some r) : PC Try.prog 42 [eTLine b0, eTLine b1] (bool r) := by
  unfold w_eqLine at h
  refine PC.start Try.func42 Try.ntmps42 rfl ok42 rfl ?_
  refine Run.seq ?_
  refine Run.reg ?_
  refine X.box (by rfl) (by rfl) (by repeat (first | trivial | refine ⟨by first | rfl | simp [setL], ?_⟩)) (by rfl) (by rfl) (by rfl) (by rfl) ?_
  refine X.box (by rfl) (by rfl) (by repeat (first | trivial | refine ⟨by first | rfl | simp [setL], ?_⟩)) (by rfl) (by rfl) (by rfl) (by rfl) ?_
  refine X.assign (by rfl) (by rfl) ?_
  refine X.nil ?_
  refine Run.seq ?_
  refine Run.seq ?_
  refine Run.reg ?_
  refine X.fieldAddr_l fld67_0 (by rfl) (by rfl) ?_
  refine X.load_l shp3 (by rfl) (by rfl) (by rfl) (by rfl) (by rfl) (by rfl) ?_
  refine X.fieldAddr_l fld67_0 (by rfl) (by rfl) ?_
  refine X.load_l shp3 (by rfl) (by rfl) (by rfl) (by rfl) (by rfl) (by rfl) ?_
  refine X.bin (by rfl) (by rfl) (by rfl) (by rfl) (by intro h; cases h) (by rfl) ?_
  refine X.nil ?_
  refine R.cond (by rfl) (fun hc1 => ?_) (fun hc1 => ?_)
  · replace h := condT hc1 h
    refine Run.seq ?_
    refine Run.reg ?_
    refine X.assign (by rfl) (by rfl) ?_
    refine X.nil ?_
    cases h
    refine R.fin1 Try.results42 (by rfl) (by rfl) ?_
    rfl
  · replace h := condF hc1 h
    refine Run.skip ?_
    refine Run.seq ?_
    refine Run.seq ?_
    refine Run.reg ?_
    refine X.fieldAddr_l fld67_1 (by rfl) (by rfl) ?_
    refine X.load_l shp65 (by rfl) (by rfl) (by rfl) (by rfl) (by rfl) (by rfl) ?_
    refine X.fieldAddr_l fld67_1 (by rfl) (by rfl) ?_
    refine X.load_l shp65 (by rfl) (by rfl) (by rfl) (by rfl) (by rfl) (by rfl) ?_
    obtain ⟨v2, hv2, h⟩ := bindE h
    refine X.callP (w_eqRule_pc _ _ _ hv2) (by rfl) (by rfl) (by rfl) (by trivial) (by rfl) (by rfl) (by rfl) (by rfl) ?_
    refine X.un (by rfl) (by rfl) (by rfl) ?_
    refine X.nil ?_
    refine R.cond (by rfl) (fun hc3 => ?_) (fun hc3 => ?_)
    · replace h := condT hc3 h
      refine Run.seq ?_
      refine Run.reg ?_
      refine X.assign (by rfl) (by rfl) ?_
      refine X.nil ?_
      cases h
      refine R.fin1 Try.results42 (by rfl) (by rfl) ?_
      rfl
    · replace h := condF hc3 h
      refine Run.skip ?_
      refine Run.seq ?_
      refine Run.seq ?_
      refine Run.reg ?_
      refine X.fieldAddr_l fld67_2 (by rfl) (by rfl) ?_
      refine X.load_l shp48 (by rfl) (by rfl) (by rfl) (by rfl) (by rfl) (by rfl) ?_
      refine X.fieldAddr_l fld67_2 (by rfl) (by rfl) ?_
      refine X.load_l shp48 (by rfl) (by rfl) (by rfl) (by rfl) (by rfl) (by rfl) ?_
      obtain ⟨v4, hv4, h⟩ := bindE h
      refine X.callP (w_eqLiteralS_pc _ _ _ hv4) (by rfl) (by rfl) (by rfl) (by trivial) (by rfl) (by rfl) (by rfl) (by rfl) ?_
      refine X.un (by rfl) (by rfl) (by rfl) ?_
      refine X.nil ?_
      refine R.cond (by rfl) (fun hc5 => ?_) (fun hc5 => ?_)
      · replace h := condT hc5 h
        refine Run.seq ?_
        refine Run.reg ?_
        refine X.assign (by rfl) (by rfl) ?_
        refine X.nil ?_
        cases h
        refine R.fin1 Try.results42 (by rfl) (by rfl) ?_
        rfl
      · replace h := condF hc5 h
        refine Run.skip ?_
        refine Run.seq ?_
        refine Run.reg ?_
        refine X.assign (by rfl) (by rfl) ?_
        refine X.nil ?_
        cases h
        refine R.fin1 Try.results42 (by rfl) (by rfl) ?_
        rfl
theorem w_eqLineS_pc (b0 : List TLine) (b1 : List TLine) (r : Bool) (h : w_eqLineS b0 b1 = some r) : PC Try.prog 13 [.slice (b0.map eTLine), .slice (b1.map eTLine)] (bool r) := by
  unfold w_eqLineS at h
  refine PC.start Try.func13 Try.ntmps13 rfl ok13 rfl ?_
  refine Run.seq ?_
  refine Run.reg ?_
  refine X.assign (by rfl) (by rfl) ?_
  refine X.nil ?_
  refine Run.seq ?_
  refine Run.seq ?_
  refine Run.reg ?_
  refine X.move (by rfl) (by rfl) ?_
  refine X.len_s elt26 (by rfl) (by exact List.length_map ..) (by rfl) ?_
  refine X.move (by rfl) (by rfl) ?_
  refine X.len_s elt26 (by rfl) (by exact List.length_map ..) (by rfl) ?_
  refine X.bin (by rfl) (by rfl) (by rfl) (by rfl) (by intro h; cases h) (by rfl) ?_
  refine X.nil ?_
  refine R.cond (by rfl) (fun hc1 => ?_) (fun hc1 => ?_)
  · replace h := condT hc1 h
    refine Run.seq ?_
    refine Run.reg ?_
    refine X.assign (by rfl) (by rfl) ?_
    refine X.nil ?_
    cases h
    refine R.fin1 Try.results13 (by rfl) (by rfl) ?_
    rfl
  · replace h := condF hc1 h
    refine Run.skip ?_
    refine Run.seq ?_
    refine Run.seq ?_
    refine Run.reg ?_
    refine X.assign (by rfl) (by rfl) ?_
    refine X.nil ?_
    obtain ⟨o2, ho2, h⟩ := bindE h
    refine R.join2 (β := Unit) [] [] (fun p16 S => S) (fun p16 M => M) (fun p16 => (Sum.inl p16) = o2) ?_ ?_
    · intro JJ5 hmeet4
      have hup3 := h; clear h; have h := ho2; clear ho2
      refine Run.block ?_
      refine R.bndS (t := 0) (by rfl) (fun hbd8 => ?_)
      replace hbd8 : b0.length ≤ 9223372036854775807 := by first | (rw [List.length_map] at hbd8; exact hbd8) | simp
      refine R.loop2 (β := Int) [(0, .slice (b0.map eTLine)), (1, .slice (b1.map eTLine))] [] (fun bb S => (5, int bb) :: S) (fun bb M => M) (fun n bb => 0 ≤ bb ∧ bb + n = (b0.length : Int) ∧ w_eqLineS_L1 b1 (b0.drop bb.toNat) bb = some o2) b0.length (0 : Int) (by repeat (first | trivial | refine ⟨by first | rfl | simp [setL], ?_⟩)) (by repeat (first | trivial | refine ⟨by first | rfl | simp [setL], ?_⟩)) (by rfl) (by rfl) ⟨Int.le_refl _, by simp, h⟩ ?_
      clear h
      rintro JJ8 n8 z9 hag8 ⟨hza8, hzb8, h⟩
      refine Run.seq ?_
      refine Run.seq ?_
      refine Run.reg ?_
      refine X.move (by rfl) (by rfl) ?_
      refine X.move (by rfl) (by rfl) ?_
      refine X.len_s elt26 (by rfl) (by exact List.length_map ..) (by rfl) ?_
      refine X.bin (by rfl) (by rfl) (by rfl) (by rfl) (by intro h; cases h) (by rfl) ?_
      refine X.nil ?_
      refine R.cond (by rfl) (fun hc12 => ?_) (fun hc12 => ?_)
      · obtain ⟨x10, xs11, hd8, hx8, hds8, hlt8⟩ := drop_atI hza8 hc12
        rw [hd8] at h
        rw [w_eqLineS_L1] at h
        refine Run.skip ?_
        refine Run.seq ?_
        refine Run.block ?_
        refine Run.seq ?_
        refine Run.draw (footOf []) mixed (by kernel_rfl) (by kernel_rfl) ?_
        refine X.move (by rfl) (by rfl) ?_
        refine X.move (by rfl) (by rfl) ?_
        refine X.index_s elt26 (by rfl) (by rfl) (idxL_spec hx8).1 (idxL_map eTLine hx8) (by rfl) (by rfl) (by rfl) ?_
        refine X.load_c shp67 (by rfl) (by rfl) (by rfl) (by rfl) ?_
        refine X.move (by rfl) (by rfl) ?_
        refine X.move (by rfl) (by rfl) ?_
        obtain ⟨v13, hv13, h⟩ := bindE h
        refine X.index_s elt26 (by rfl) (by rfl) (idxL_spec hv13).1 (idxL_map eTLine hv13) (by rfl) (by rfl) (by rfl) ?_
        refine X.load_c shp67 (by rfl) (by rfl) (by rfl) (by rfl) ?_
        obtain ⟨v14, hv14, h⟩ := bindE h
        refine X.callP (w_eqLine_pc _ _ _ hv14) (by rfl) (by rfl) (by rfl) (by trivial) (by rfl) (by rfl) (by rfl) (by rfl) ?_
        refine X.un (by rfl) (by rfl) (by rfl) ?_
        refine X.nil ?_
        refine R.cond (by rfl) (fun hc15 => ?_) (fun hc15 => ?_)
        · replace h := condT hc15 h
          refine Run.seq ?_
          refine Run.reg ?_
          refine X.assign (by rfl) (by rfl) ?_
          refine X.nil ?_
          cases h
          have h := hup3
          replace h := elimR h
          cases h
          refine R.fin1 Try.results13 (by rfl) (by rfl) ?_
          rfl
        · replace h := condF hc15 h
          refine Run.skip ?_
          refine Run.blk ?_
          refine Run.reg ?_
          refine X.move (by rfl) (by rfl) ?_
          refine X.add (by rfl) (by rfl) (by omega) (by rfl) ?_
          refine X.assign (by rfl) (by rfl) ?_
          refine X.nil ?_
          exact hag8 (n8 - 1) (z9 + 1) _ _ (by omega) ⟨by first | omega | (dsimp only; omega), by first | omega | (dsimp only; omega), by first | (rw [hds8]; exact h) | (dsimp only; rw [hds8]; exact h)⟩ (by trivial) (by trivial) (by rfl) (by rfl)
      · rw [drop_endI hza8 hc12] at h
        rw [w_eqLineS_L1] at h
        refine Run.exit (by rfl) ?_
        exact hmeet4 () _ _ (Option.some.inj h) (by trivial) (by trivial) (by rfl) (by rfl)
    rintro p16 rfl
    replace h := elimL h
    refine Run.seq ?_
    refine Run.reg ?_
    refine X.assign (by rfl) (by rfl) ?_
    refine X.nil ?_
    cases h
    refine R.fin1 Try.results13 (by rfl) (by rfl) ?_
    rfl
theorem w_markLiteralS_k_pc (b0 : List TLiteral) (b1 : Int) (r : Int) (h : w_markLiteralS_k b0 b1 = some r) : PCM Try.prog 33 [.ysk 63 (.slice (b0.map eTLiteral)), int b1] [(63, .yreg true true)] (int r) [(63, .yreg true true)] := by
  unfold w_markLiteralS_k at h
  refine PCM.start Try.func33 Try.ntmps33 rfl ok33 rfl (by rfl) (by rfl) (by rfl) (by rfl) (by rfl) ?_
  refine Run.seq ?_
  refine Run.reg ?_
  refine X.assign (by rfl) (by rfl) ?_
  refine X.nil ?_
  refine Run.seq ?_
  refine Run.seq ?_
  refine Run.reg ?_
  refine X.assign (by rfl) (by rfl) ?_
  refine X.nil ?_
  obtain ⟨o1, ho1, h⟩ := bindE h
  refine R.join2 (β := Int) [] [(63, .yreg true true)] (fun p13 S => (1, int p13) :: S) (fun p13 M => M) (fun p13 => p13 = o1) ?_ ?_
  · intro JJ4 hmeet3
    have hup2 := h; clear h; have h := ho1; clear ho1
    refine Run.block ?_
    refine R.bndY true 63 (t := 0) (by rfl) (fun hbd7 => ?_)
    replace hbd7 : b0.length ≤ 9223372036854775807 := by first | (rw [List.length_map] at hbd7; exact hbd7) | simp
    refine R.loop2 (β := Int × Int) [(0, .ysk 63 (.slice (b0.map eTLiteral)))] [(63, .yreg true true)] (fun bb S => (1, int bb.2) :: (5, int bb.1) :: S) (fun bb M => M) (fun n bb => 0 ≤ bb.1 ∧ bb.1 + n = (b0.length : Int) ∧ w_markLiteralS_k_L1 (b0.drop bb.1.toNat) bb.1 bb.2 = some o1) b0.length (0, b1) (by repeat (first | trivial | refine ⟨by first | rfl | simp [setL], ?_⟩)) (by repeat (first | trivial | refine ⟨by first | rfl | simp [setL], ?_⟩)) (by rfl) (by rfl) ⟨Int.le_refl _, by simp, h⟩ ?_
    clear h
    rintro JJ7 n7 ⟨z8, a9⟩ hag7 ⟨hza7, hzb7, h⟩
    dsimp only at hza7 hzb7 h
    refine Run.seq ?_
    refine Run.seq ?_
    refine Run.reg ?_
    refine X.move (by rfl) (by rfl) ?_
    refine X.move (by rfl) (by rfl) ?_
    refine X.lenY true 63 elt48 (by rfl) (by exact List.length_map ..) (by rfl) ?_
    refine X.bin (by rfl) (by rfl) (by rfl) (by rfl) (by intro h; cases h) (by rfl) ?_
    refine X.nil ?_
    refine R.cond (by rfl) (fun hc12 => ?_) (fun hc12 => ?_)
    · obtain ⟨x10, xs11, hd7, hx7, hds7, hlt7⟩ := drop_atI hza7 hc12
      rw [hd7] at h
      rw [w_markLiteralS_k_L1] at h
      refine Run.skip ?_
      refine Run.seq ?_
      refine Run.block ?_
      refine Run.seq ?_
      refine Run.reg ?_
      refine X.move (by rfl) (by rfl) ?_
      refine X.move (by rfl) (by rfl) ?_
      refine X.move (by rfl) (by rfl) ?_
      refine X.indexY true 63 elt48 (by rfl) (by rfl) (idxL_spec hx7).1 (idxL_map eTLiteral hx7) (by rfl) (by rfl) ?_
      refine X.fieldY true 63 fld57_0 (by rfl) (by rfl) ?_
      refine X.storeY 63 shp3 (by rfl) (by rfl) (by rfl) (by rfl) (by rfl) (by rfl) (by rfl) ?_
      refine X.nil ?_
      refine Run.seq ?_
      refine Run.reg ?_
      refine X.move (by rfl) (by rfl) ?_
      refine X.addW (by rfl) (by rfl) (by rfl) ?_
      refine X.assign (by rfl) (by rfl) ?_
      refine X.nil ?_
      refine Run.seq ?_
      refine Run.reg ?_
      refine X.move (by rfl) (by rfl) ?_
      refine X.move (by rfl) (by rfl) ?_
      refine X.move (by rfl) (by rfl) ?_
      refine X.indexY true 63 elt48 (by rfl) (by rfl) (idxL_spec hx7).1 (idxL_map eTLiteral hx7) (by rfl) (by rfl) ?_
      refine X.fieldY true 63 fld57_1 (by rfl) (by rfl) ?_
      refine X.storeY 63 shp3 (by rfl) (by rfl) (by rfl) (by rfl) (by rfl) (by rfl) (by rfl) ?_
      refine X.nil ?_
      refine Run.seq ?_
      refine Run.reg ?_
      refine X.move (by rfl) (by rfl) ?_
      refine X.addW (by rfl) (by rfl) (by rfl) ?_
      refine X.assign (by rfl) (by rfl) ?_
      refine X.nil ?_
      refine Run.seq ?_
      refine Run.reg ?_
      refine X.move (by rfl) (by rfl) ?_
      refine X.move (by rfl) (by rfl) ?_
      refine X.move (by rfl) (by rfl) ?_
      refine X.indexY true 63 elt48 (by rfl) (by rfl) (idxL_spec hx7).1 (idxL_map eTLiteral hx7) (by rfl) (by rfl) ?_
      refine X.fieldY true 63 fld57_2 (by rfl) (by rfl) ?_
      refine X.storeY 63 shp3 (by rfl) (by rfl) (by rfl) (by rfl) (by rfl) (by rfl) (by rfl) ?_
      refine X.nil ?_
      refine Run.reg ?_
      refine X.move (by rfl) (by rfl) ?_
      refine X.addW (by rfl) (by rfl) (by rfl) ?_
      refine X.assign (by rfl) (by rfl) ?_
      refine X.nil ?_
      refine Run.blk ?_
      refine Run.reg ?_
      refine X.move (by rfl) (by rfl) ?_
      refine X.add (by rfl) (by rfl) (by omega) (by rfl) ?_
      refine X.assign (by rfl) (by rfl) ?_
      refine X.nil ?_
      exact hag7 (n7 - 1) (z8 + 1, (W ((W ((W (a9 + 1)) + 1)) + 1))) _ _ (by omega) ⟨by first | omega | (dsimp only; omega), by first | omega | (dsimp only; omega), by first | (rw [hds7]; exact h) | (dsimp only; rw [hds7]; exact h)⟩ (by trivial) (by trivial) (by rfl) (by rfl)
    · rw [drop_endI hza7 hc12] at h
      rw [w_markLiteralS_k_L1] at h
      refine Run.exit (by rfl) ?_
      exact hmeet3 a9 _ _ (Option.some.inj h) (by trivial) (by trivial) (by rfl) (by rfl)
  rintro p13 rfl
  refine Run.seq ?_
  refine Run.reg ?_
  refine X.move (by rfl) (by rfl) ?_
  refine X.assign (by rfl) (by rfl) ?_
  refine X.nil ?_
  cases h
  exact R.finM1 Try.results33 (by rfl) (by rfl) (by repeat (first | exact trivial | refine ⟨by rfl, ?_⟩)) rfl
theorem w_markLineS_k_pc (b0 : List TLine) (b1 : Int) (r : Int) (h : w_markLineS_k b0 b1 = some r) : PCM Try.prog 14 [.ysk 63 (.slice (b0.map eTLine)), int b1] [(63, .yreg true true)] (int r) [(63, .yreg true true)] := by
  unfold w_markLineS_k at h
  refine PCM.start Try.func14 Try.ntmps14 rfl ok14 rfl (by rfl) (by rfl) (by rfl) (by rfl) (by rfl) ?_
  refine Run.seq ?_
  refine Run.reg ?_
  refine X.assign (by rfl) (by rfl) ?_
  refine X.nil ?_
  refine Run.seq ?_
  refine Run.seq ?_
  refine Run.reg ?_
  refine X.assign (by rfl) (by rfl) ?_
  refine X.nil ?_
  obtain ⟨o1, ho1, h⟩ := bindE h
  refine R.join2 (β := Int) [] [(63, .yreg true true)] (fun p14 S => (1, int p14) :: S) (fun p14 M => M) (fun p14 => p14 = o1) ?_ ?_
  · intro JJ4 hmeet3
    have hup2 := h; clear h; have h := ho1; clear ho1
    refine Run.block ?_
    refine R.bndY true 63 (t := 0) (by rfl) (fun hbd7 => ?_)
    replace hbd7 : b0.length ≤ 9223372036854775807 := by first | (rw [List.length_map] at hbd7; exact hbd7) | simp
    refine R.loop2 (β := Int × Int) [(0, .ysk 63 (.slice (b0.map eTLine)))] [(63, .yreg true true)] (fun bb S => (1, int bb.2) :: (5, int bb.1) :: S) (fun bb M => M) (fun n bb => 0 ≤ bb.1 ∧ bb.1 + n = (b0.length : Int) ∧ w_markLineS_k_L1 (b0.drop bb.1.toNat) bb.1 bb.2 = some o1) b0.length (0, b1) (by repeat (first | trivial | refine ⟨by first | rfl | simp [setL], ?_⟩)) (by repeat (first | trivial | refine ⟨by first | rfl | simp [setL], ?_⟩)) (by rfl) (by rfl) ⟨Int.le_refl _, by simp, h⟩ ?_
    clear h
    rintro JJ7 n7 ⟨z8, a9⟩ hag7 ⟨hza7, hzb7, h⟩
    dsimp only at hza7 hzb7 h
    refine Run.seq ?_
    refine Run.seq ?_
    refine Run.reg ?_
    refine X.move (by rfl) (by rfl) ?_
    refine X.move (by rfl) (by rfl) ?_
    refine X.lenY true 63 elt26 (by rfl) (by exact List.length_map ..) (by rfl) ?_
    refine X.bin (by rfl) (by rfl) (by rfl) (by rfl) (by intro h; cases h) (by rfl) ?_
    refine X.nil ?_
    refine R.cond (by rfl) (fun hc12 => ?_) (fun hc12 => ?_)
    · obtain ⟨x10, xs11, hd7, hx7, hds7, hlt7⟩ := drop_atI hza7 hc12
      rw [hd7] at h
      rw [w_markLineS_k_L1] at h
      refine Run.skip ?_
      refine Run.seq ?_
      refine Run.block ?_
      refine Run.seq ?_
      refine Run.reg ?_
      refine X.move (by rfl) (by rfl) ?_
      refine X.move (by rfl) (by rfl) ?_
      refine X.move (by rfl) (by rfl) ?_
      refine X.indexY true 63 elt26 (by rfl) (by rfl) (idxL_spec hx7).1 (idxL_map eTLine hx7) (by rfl) (by rfl) ?_
      refine X.fieldY true 63 fld67_0 (by rfl) (by rfl) ?_
      refine X.storeY 63 shp3 (by rfl) (by rfl) (by rfl) (by rfl) (by rfl) (by rfl) (by rfl) ?_
      refine X.nil ?_
      refine Run.seq ?_
      refine Run.reg ?_
      refine X.move (by rfl) (by rfl) ?_
      refine X.addW (by rfl) (by rfl) (by rfl) ?_
      refine X.assign (by rfl) (by rfl) ?_
      refine X.nil ?_
      refine Run.seq ?_
      refine Run.reg ?_
      refine X.move (by rfl) (by rfl) ?_
      refine X.move (by rfl) (by rfl) ?_
      refine X.move (by rfl) (by rfl) ?_
      refine X.indexY true 63 elt26 (by rfl) (by rfl) (idxL_spec hx7).1 (idxL_map eTLine hx7) (by rfl) (by rfl) ?_
      refine X.fieldY true 63 fld67_1 (by rfl) (by rfl) ?_
      refine X.fieldY true 63 fld65_0 (by rfl) (by rfl) ?_
      refine X.storeY 63 shp3 (by rfl) (by rfl) (by rfl) (by rfl) (by rfl) (by rfl) (by rfl) ?_
      refine X.nil ?_
      refine Run.seq ?_
      refine Run.reg ?_
      refine X.move (by rfl) (by rfl) ?_
      refine X.addW (by rfl) (by rfl) (by rfl) ?_
      refine X.assign (by rfl) (by rfl) ?_
      refine X.nil ?_
      refine Run.seq ?_
      refine Run.reg ?_
      refine X.move (by rfl) (by rfl) ?_
      refine X.move (by rfl) (by rfl) ?_
      refine X.move (by rfl) (by rfl) ?_
      refine X.indexY true 63 elt26 (by rfl) (by rfl) (idxL_spec hx7).1 (idxL_map eTLine hx7) (by rfl) (by rfl) ?_
      refine X.fieldY true 63 fld67_1 (by rfl) (by rfl) ?_
      refine X.fieldY true 63 fld65_1 (by rfl) (by rfl) ?_
      refine X.storeY 63 shp3 (by rfl) (by rfl) (by rfl) (by rfl) (by rfl) (by rfl) (by rfl) ?_
      refine X.nil ?_
      refine Run.seq ?_
      refine Run.reg ?_
      refine X.move (by rfl) (by rfl) ?_
      refine X.addW (by rfl) (by rfl) (by rfl) ?_
      refine X.assign (by rfl) (by rfl) ?_
      refine X.nil ?_
      refine Run.seq ?_
      refine Run.reg ?_
      refine X.move (by rfl) (by rfl) ?_
      refine X.move (by rfl) (by rfl) ?_
      refine X.move (by rfl) (by rfl) ?_
      refine X.indexY true 63 elt26 (by rfl) (by rfl) (idxL_spec hx7).1 (idxL_map eTLine hx7) (by rfl) (by rfl) ?_
      refine X.fieldY true 63 fld67_1 (by rfl) (by rfl) ?_
      refine X.fieldY true 63 fld65_2 (by rfl) (by rfl) ?_
      refine X.storeY 63 shp3 (by rfl) (by rfl) (by rfl) (by rfl) (by rfl) (by rfl) (by rfl) ?_
      refine X.nil ?_
      refine Run.seq ?_
      refine Run.reg ?_
      refine X.move (by rfl) (by rfl) ?_
      refine X.addW (by rfl) (by rfl) (by rfl) ?_
      refine X.assign (by rfl) (by rfl) ?_
      refine X.nil ?_
      refine Run.seq ?_
      refine Run.reg ?_
      refine X.move (by rfl) (by rfl) ?_
      refine X.move (by rfl) (by rfl) ?_
      refine X.move (by rfl) (by rfl) ?_
      refine X.indexY true 63 elt26 (by rfl) (by rfl) (idxL_spec hx7).1 (idxL_map eTLine hx7) (by rfl) (by rfl) ?_
      refine X.fieldY true 63 fld67_1 (by rfl) (by rfl) ?_
      refine X.fieldY true 63 fld65_3 (by rfl) (by rfl) ?_
      refine X.storeY 63 shp3 (by rfl) (by rfl) (by rfl) (by rfl) (by rfl) (by rfl) (by rfl) ?_
      refine X.nil ?_
      refine Run.seq ?_
      refine Run.reg ?_
      refine X.move (by rfl) (by rfl) ?_
      refine X.addW (by rfl) (by rfl) (by rfl) ?_
      refine X.assign (by rfl) (by rfl) ?_
      refine X.nil ?_
      refine Run.reg ?_
      refine X.move (by rfl) (by rfl) ?_
      refine X.move (by rfl) (by rfl) ?_
      refine X.indexY true 63 elt26 (by rfl) (by rfl) (idxL_spec hx7).1 (idxL_map eTLine hx7) (by rfl) (by rfl) ?_
      refine X.fieldY true 63 fld67_2 (by rfl) (by rfl) ?_
      refine X.loadY true 63 shp48 (by rfl) (by rfl) (by rfl) (by rfl) ?_
      refine X.move (by rfl) (by rfl) ?_
      obtain ⟨v13, hv13, h⟩ := bindE h
      refine X.callM [(63, 63)] (w_markLiteralS_k_pc _ _ _ hv13) (by rfl) (by rfl) (.yskB 63 (by rfl) (by rfl) (.pureB (by rfl) (by repeat (first | trivial | refine ⟨by first | rfl | simp [setL], ?_⟩)) .nil)) (by rfl) ⟨rfl, rfl, ⟨_, by rfl, by constructor⟩, by constructor, trivial⟩ (by rfl) (by rfl) (by rfl) (by rfl) (by rfl) (by rfl) (by rfl) (by rfl) (by rfl) ?_
      refine X.assign (by rfl) (by rfl) ?_
      refine X.nil ?_
      refine Run.blk ?_
      refine Run.reg ?_
      refine X.move (by rfl) (by rfl) ?_
      refine X.add (by rfl) (by rfl) (by omega) (by rfl) ?_
      refine X.assign (by rfl) (by rfl) ?_
      refine X.nil ?_
      exact hag7 (n7 - 1) (z8 + 1, v13) _ _ (by omega) ⟨by first | omega | (dsimp only; omega), by first | omega | (dsimp only; omega), by first | (rw [hds7]; exact h) | (dsimp only; rw [hds7]; exact h)⟩ (by trivial) (by trivial) (by rfl) (by rfl)
    · rw [drop_endI hza7 hc12] at h
      rw [w_markLineS_k_L1] at h
      refine Run.exit (by rfl) ?_
      exact hmeet3 a9 _ _ (Option.some.inj h) (by trivial) (by trivial) (by rfl) (by rfl)
  rintro p14 rfl
  refine Run.seq ?_
  refine Run.reg ?_
  refine X.move (by rfl) (by rfl) ?_
  refine X.assign (by rfl) (by rfl) ?_
  refine X.nil ?_
  cases h
  exact R.finM1 Try.results14 (by rfl) (by rfl) (by repeat (first | exact trivial | refine ⟨by rfl, ?_⟩)) rfl
theorem w_markIntS_pc (b0 : List Int) (b1 : Int) (r : Int × (List Int)) (h : w_markIntS b0 b1 = some r) : PCM Try.prog 15 [.own 63 (b0.map int).length, int b1] [(63, .obj true 3 1 (b0.map int))] (int r.1) [(63, .obj true 3 1 (r.2.map int))] := by
  unfold w_markIntS at h
  refine PCM.start Try.func15 Try.ntmps15 rfl ok15 rfl (by rfl) (by rfl) (by rfl) (by rfl) (by rfl) ?_
  refine Run.seq ?_
  refine Run.reg ?_
  refine X.assign (by rfl) (by rfl) ?_
  refine X.nil ?_
  refine Run.seq ?_
  refine Run.seq ?_
  refine Run.reg ?_
  refine X.assign (by rfl) (by rfl) ?_
  refine X.nil ?_
  obtain ⟨o1, ho1, h⟩ := bindE h
  refine R.join2 (β := Int × (List Int)) [] [] (fun p14 S => (1, int p14.1) :: S) (fun p14 M => (63, .obj true 3 1 (p14.2.map int)) :: M) (fun p14 => p14 = o1) ?_ ?_
  · intro JJ4 hmeet3
    have hup2 := h; clear h; have h := ho1; clear ho1
    refine Run.block ?_
    refine R.loop2 (β := Int × Int × (List Int)) [] [] (fun bb S => (0, .own 63 (bb.2.2.map int).length) :: (1, int bb.1) :: (5, int bb.2.1) :: S) (fun bb M => (63, .obj true 3 1 (bb.2.2.map int)) :: M) (fun n bb => w_markIntS_L1 n bb.1 bb.2.1 bb.2.2 = some o1) F0 (b1, 0, b0) (by repeat (first | trivial | refine ⟨by first | rfl | simp [setL], ?_⟩)) (by repeat (first | trivial | refine ⟨by first | rfl | simp [setL], ?_⟩)) (by rfl) (by rfl) h ?_
    clear h
    rintro JJ5 n5 ⟨a7, a8, a9⟩ hag5 h
    dsimp only at h
    obtain _ | n5 := n5
    · exact absurd h (by simp [w_markIntS_L1])
    rw [w_markIntS_L1] at h
    refine Run.seq ?_
    refine Run.seq ?_
    refine Run.reg ?_
    refine X.move (by rfl) (by rfl) ?_
    refine X.move (by rfl) (by rfl) ?_
    refine X.len_o elt24 (by rfl) (by rfl) (by first | rfl | simp [setL] | omega) (by first | exact List.length_map .. | rfl) (by rfl) (by rfl) ?_
    refine X.bin (by rfl) (by rfl) (by rfl) (by rfl) (by intro h; cases h) (by rfl) ?_
    refine X.nil ?_
    refine R.cond (by rfl) (fun hc12 => ?_) (fun hc12 => ?_)
    · replace h := condT hc12 h
      refine Run.skip ?_
      refine Run.seq ?_
      refine Run.block ?_
      refine Run.seq ?_
      refine Run.reg ?_
      refine X.move (by rfl) (by rfl) ?_
      refine X.move (by rfl) (by rfl) ?_
      refine X.move (by rfl) (by rfl) ?_
      obtain ⟨v13, hv13, h⟩ := bindE h
      refine X.index_xs elt24 (by rfl) (by rfl) (by first | rfl | simp [setL] | omega) (by rfl) (by exact (Int.toNat_of_nonneg (idxL_spec hv13).1).symm) (by have := idxL_lt hv13; simpa using this) (by rfl) (by rfl) ?_
      refine X.store_es shp3 (by rfl) (by rfl) (by first | rfl | simp [setL] | omega) (idxL_map _ hv13) (by rfl) (by rfl) (by repeat (first | trivial | refine ⟨by first | rfl | simp [setL], ?_⟩)) (by rfl) (by rfl) (by rfl) (by rfl) (by exact setL_map _ _ _ a7) ?_
      refine X.nil ?_
      refine Run.reg ?_
      refine X.move (by rfl) (by rfl) ?_
      refine X.addW (by rfl) (by rfl) (by rfl) ?_
      refine X.assign (by rfl) (by rfl) ?_
      refine X.nil ?_
      refine Run.blk ?_
      refine Run.reg ?_
      refine X.move (by rfl) (by rfl) ?_
      refine X.addW (by rfl) (by rfl) (by rfl) ?_
      refine X.assign (by rfl) (by rfl) ?_
      refine X.nil ?_
      refine R.castS (t := 0) (.own 63 ((setL a9 a8 a7).map int).length) (by rfl) (.inl (by first | rfl | simp [setL])) ?_
      exact hag5 n5 ((W (a7 + 1)), (W (a8 + 1)), (setL a9 a8 a7)) _ _ (by omega) h (by repeat (first | trivial | refine ⟨by first | rfl | simp [setL], ?_⟩)) (by repeat (first | trivial | refine ⟨by first | rfl | simp [setL], ?_⟩)) (by rfl) (by rfl)
    · replace h := condF hc12 h
      refine Run.exit (by rfl) ?_
      exact hmeet3 (a7, a9) _ _ (Option.some.inj h) (by repeat (first | trivial | refine ⟨by first | rfl | simp [setL], ?_⟩)) (by repeat (first | trivial | refine ⟨by first | rfl | simp [setL], ?_⟩)) (by rfl) (by rfl)
  rintro p14 rfl
  refine Run.seq ?_
  refine Run.reg ?_
  refine X.move (by rfl) (by rfl) ?_
  refine X.assign (by rfl) (by rfl) ?_
  refine X.nil ?_
  cases h
  exact R.finM1 Try.results15 (by rfl) (by rfl) (by repeat (first | exact trivial | refine ⟨by rfl, ?_⟩)) rfl
theorem w_heldIntS_pc (b0 : List Int) (b1 : Int) (r : Int) (h : w_heldIntS b0 b1 = some r) : PC Try.prog 16 [.slice (b0.map int), int b1] (int r) := by
  unfold w_heldIntS at h
  refine PC.start Try.func16 Try.ntmps16 rfl ok16 rfl ?_
  refine Run.seq ?_
  refine Run.reg ?_
  refine X.assign (by rfl) (by rfl) ?_
  refine X.nil ?_
  refine Run.seq ?_
  refine Run.seq ?_
  refine Run.reg ?_
  refine X.assign (by rfl) (by rfl) ?_
  refine X.nil ?_
  obtain ⟨o1, ho1, h⟩ := bindE h
  refine R.join2 (β := Int) [] [] (fun p14 S => (1, int p14) :: S) (fun p14 M => M) (fun p14 => (Sum.inl p14) = o1) ?_ ?_
  · intro JJ4 hmeet3
    have hup2 := h; clear h; have h := ho1; clear ho1
    refine Run.block ?_
    refine R.bndS (t := 0) (by rfl) (fun hbd7 => ?_)
    replace hbd7 : b0.length ≤ 9223372036854775807 := by first | (rw [List.length_map] at hbd7; exact hbd7) | simp
    refine R.loop2 (β := Int × Int) [(0, .slice (b0.map int))] [] (fun bb S => (1, int bb.2) :: (5, int bb.1) :: S) (fun bb M => M) (fun n bb => 0 ≤ bb.1 ∧ bb.1 + n = (b0.length : Int) ∧ w_heldIntS_L1 (b0.drop bb.1.toNat) bb.1 bb.2 = some o1) b0.length (0, b1) (by repeat (first | trivial | refine ⟨by first | rfl | simp [setL], ?_⟩)) (by repeat (first | trivial | refine ⟨by first | rfl | simp [setL], ?_⟩)) (by rfl) (by rfl) ⟨Int.le_refl _, by simp, h⟩ ?_
    clear h
    rintro JJ7 n7 ⟨z8, a9⟩ hag7 ⟨hza7, hzb7, h⟩
    dsimp only at hza7 hzb7 h
    refine Run.seq ?_
    refine Run.seq ?_
    refine Run.reg ?_
    refine X.move (by rfl) (by rfl) ?_
    refine X.move (by rfl) (by rfl) ?_
    refine X.len_s elt24 (by rfl) (by exact List.length_map ..) (by rfl) ?_
    refine X.bin (by rfl) (by rfl) (by rfl) (by rfl) (by intro h; cases h) (by rfl) ?_
    refine X.nil ?_
    refine R.cond (by rfl) (fun hc12 => ?_) (fun hc12 => ?_)
    · obtain ⟨x10, xs11, hd7, hx7, hds7, hlt7⟩ := drop_atI hza7 hc12
      rw [hd7] at h
      rw [w_heldIntS_L1] at h
      refine Run.skip ?_
      refine Run.seq ?_
      refine Run.block ?_
      refine Run.seq ?_
      refine Run.seq ?_
      refine Run.reg ?_
      refine X.move (by rfl) (by rfl) ?_
      refine X.move (by rfl) (by rfl) ?_
      refine X.index_s elt24 (by rfl) (by rfl) (idxL_spec hx7).1 (idxL_map int hx7) (by rfl) (by rfl) (by rfl) ?_
      refine X.load_c shp3 (by rfl) (by rfl) (by rfl) (by rfl) ?_
      refine X.move (by rfl) (by rfl) ?_
      refine X.bin (by rfl) (by rfl) (by rfl) (by rfl) (by intro h; cases h) (by rfl) ?_
      refine X.nil ?_
      refine R.cond (by rfl) (fun hc13 => ?_) (fun hc13 => ?_)
      · replace h := condT hc13 h
        refine Run.seq ?_
        refine Run.reg ?_
        refine X.assign (by rfl) (by rfl) ?_
        refine X.nil ?_
        cases h
        have h := hup2
        replace h := elimR h
        cases h
        refine R.fin1 Try.results16 (by rfl) (by rfl) ?_
        rfl
      · replace h := condF hc13 h
        refine Run.skip ?_
        refine Run.reg ?_
        refine X.move (by rfl) (by rfl) ?_
        refine X.addW (by rfl) (by rfl) (by rfl) ?_
        refine X.assign (by rfl) (by rfl) ?_
        refine X.nil ?_
        refine Run.blk ?_
        refine Run.reg ?_
        refine X.move (by rfl) (by rfl) ?_
        refine X.add (by rfl) (by rfl) (by omega) (by rfl) ?_
        refine X.assign (by rfl) (by rfl) ?_
        refine X.nil ?_
        exact hag7 (n7 - 1) (z8 + 1, (W (a9 + 1))) _ _ (by omega) ⟨by first | omega | (dsimp only; omega), by first | omega | (dsimp only; omega), by first | (rw [hds7]; exact h) | (dsimp only; rw [hds7]; exact h)⟩ (by trivial) (by trivial) (by rfl) (by rfl)
    · rw [drop_endI hza7 hc12] at h
      rw [w_heldIntS_L1] at h
      refine Run.exit (by rfl) ?_
      exact hmeet3 a9 _ _ (Option.some.inj h) (by trivial) (by trivial) (by rfl) (by rfl)
  rintro p14 rfl
  replace h := elimL h
  refine Run.seq ?_
  refine Run.reg ?_
  refine X.move (by rfl) (by rfl) ?_
  refine X.assign (by rfl) (by rfl) ?_
  refine X.nil ?_
  cases h
  refine R.fin1 Try.results16 (by rfl) (by rfl) ?_
  rfl
theorem w_FnExactProofStats_pc (b0 : List TLine) (r : Bool) (h : w_FnExactProofStats b0 = some r) : PC Try.prog 3 [.slice (b0.map eTLine)] (bool r) := by
  unfold w_FnExactProofStats at h
  refine PC.start Try.func3 Try.ntmps3 rfl ok3 rfl ?_
  refine Run.seq ?_
  refine Run.reg ?_
  refine X.assign (by rfl) (by rfl) ?_
  refine X.nil ?_
  refine Run.seq ?_
  refine Run.reg ?_
  refine X.assign (by rfl) (by rfl) ?_
  refine X.nil ?_
  refine Run.seq ?_
  refine Run.reg ?_
  refine X.move (by rfl) (by rfl) ?_
  refine X.move (by rfl) (by rfl) ?_
  obtain ⟨v1, hv1, h⟩ := bindE h
  refine X.callP (w_szLineS_pc _ _ _ hv1) (by rfl) (by rfl) (by rfl) (by trivial) (by rfl) (by rfl) (by rfl) (by rfl) ?_
  refine X.assign (by rfl) (by rfl) ?_
  refine X.nil ?_
  refine Run.seq ?_
  refine Run.seq ?_
  refine Run.reg ?_
  refine X.move (by rfl) (by rfl) ?_
  refine X.bin (by rfl) (by rfl) (by rfl) (by rfl) (by intro h; cases h) (by rfl) ?_
  refine X.nil ?_
  refine R.cond (by rfl) (fun hc2 => ?_) (fun hc2 => ?_)
  · replace h := condT hc2 h
    refine Run.seq ?_
    refine Run.reg ?_
    refine X.assign (by rfl) (by rfl) ?_
    refine X.nil ?_
    cases h
    refine R.fin1 Try.results3 (by rfl) (by rfl) ?_
    rfl
  · replace h := condF hc2 h
    refine Run.skip ?_
    refine Run.seq ?_
    refine Run.reg ?_
    refine X.move (by rfl) (by rfl) ?_
    obtain ⟨v3, hv3, h⟩ := bindE h
    refine X.callF (PC.ofY (ps := [.slice (b0.map eTLine)]) (w_toLineS_pc _ _ hv3) (by rfl) (by rfl)) (by rfl) (by rfl) (by rfl) (by trivial) (by rfl) (by rfl) (by rfl) (by rfl) ?_
    obtain ⟨v4, hv4, h⟩ := bindE h
    refine X.callF (s_ProofStats_pc _ _ hv4) (by rfl) (by rfl) (by rfl) (by repeat (first | trivial | refine ⟨by first | rfl | simp [setL], ?_⟩)) (by rfl) (by rfl) (by rfl) (by rfl) ?_
    refine X.assign (by rfl) (by rfl) ?_
    refine X.nil ?_
    refine Run.seq ?_
    refine Run.reg ?_
    refine X.move (by rfl) (by rfl) ?_
    obtain ⟨v5, hv5, h⟩ := bindE h
    refine X.callY (w_toLineS_pc _ _ hv5) (by rfl) (by rfl) (by rfl) (by trivial) (by rfl) (by rfl) (by rfl) (by rfl) (by rfl) (by rfl) (by rfl) ?_
    refine X.assign (by rfl) (by rfl) ?_
    refine X.nil ?_
    refine Run.seq ?_
    refine Run.reg ?_
    refine X.move (by rfl) (by rfl) ?_
    obtain ⟨v6, hv6, h⟩ := bindE h
    refine X.callM [(63, 1280)] (PC.lend (M0 := [(63, .yreg false false)]) (i_ProofStats_pc _ _ hv6) (FlatR.freshM (fun _ => (by repeat (first | exact trivial | refine ⟨trivial, ?_⟩)))) (by rfl) (.yng 63 _ _ _ _ (by rfl) .nil)) (by rfl) (by rfl) (.yngB 63 (by rfl) (by rfl) .nil) (by rfl) ⟨rfl, rfl, ⟨_, by rfl, by constructor⟩, by constructor, trivial⟩ (by rfl) (by rfl) (by rfl) (by rfl) (by rfl) (by rfl) (by rfl) (by rfl) (by rfl) ?_
    refine X.assign (by rfl) (by rfl) ?_
    refine X.nil ?_
    refine Run.seq ?_
    refine Run.seq ?_
    refine Run.reg ?_
    refine X.move (by rfl) (by rfl) ?_
    refine X.move (by rfl) (by rfl) ?_
    obtain ⟨v7, hv7, h⟩ := bindE h
    refine X.callM [(63, 1408)] (PC.lend (M0 := [(63, .obj true 3 1 (v6.map int))]) (w_eqIntS_pc _ _ _ hv7) (.lit _) (by rfl) (.own 63 _ _ _ _ _ _ _ (by rfl) (by first | rfl | simp [setL] | omega) (.same _ _ _ (by rfl) .nil))) (by rfl) (by rfl) (.ownB 63 (by rfl) (by first | rfl | simp [setL] | omega) (by rfl) (.pureB (by rfl) (by repeat (first | trivial | refine ⟨by first | rfl | simp [setL], ?_⟩)) .nil)) (by rfl) ⟨rfl, rfl, ⟨_, by rfl, by constructor⟩, by constructor, trivial⟩ (by rfl) (by rfl) (by rfl) (by rfl) (by rfl) (by rfl) (by rfl) (by rfl) (by rfl) ?_
    refine X.un (by rfl) (by rfl) (by rfl) ?_
    refine X.nil ?_
    refine R.cond (by rfl) (fun hc8 => ?_) (fun hc8 => ?_)
    · replace h := condT hc8 h
      refine Run.seq ?_
      refine Run.reg ?_
      refine X.assign (by rfl) (by rfl) ?_
      refine X.nil ?_
      cases h
      refine R.fin1 Try.results3 (by rfl) (by rfl) ?_
      rfl
    · replace h := condF hc8 h
      refine Run.skip ?_
      refine Run.seq ?_
      refine Run.seq ?_
      refine Run.reg ?_
      refine X.move (by rfl) (by rfl) ?_
      refine X.move (by rfl) (by rfl) ?_
      obtain ⟨v9, hv9, h⟩ := bindE h
      refine X.callF (PC.ofY (ps := [.slice (b0.map eTLine)]) (w_toLineS_pc _ _ hv9) (by rfl) (by rfl)) (by rfl) (by rfl) (by rfl) (by trivial) (by rfl) (by rfl) (by rfl) (by rfl) ?_
      obtain ⟨v10, hv10, h⟩ := bindE h
      refine X.callM [(63, 1280)] (PC.lend (M0 := [(63, .yreg false false)]) (w_eqLineS_pc _ _ _ hv10) (.lit _) (by rfl) (.yng 63 _ _ _ _ (by rfl) (.same _ _ _ (by rfl) .nil))) (by rfl) (by rfl) (.yngB 63 (by rfl) (by rfl) (.pureB (by rfl) (by repeat (first | trivial | refine ⟨by first | rfl | simp [setL], ?_⟩)) .nil)) (by rfl) ⟨rfl, rfl, ⟨_, by rfl, by constructor⟩, by constructor, trivial⟩ (by rfl) (by rfl) (by rfl) (by rfl) (by rfl) (by rfl) (by rfl) (by rfl) (by rfl) ?_
      refine X.un (by rfl) (by rfl) (by rfl) ?_
      refine X.nil ?_
      refine R.cond (by rfl) (fun hc11 => ?_) (fun hc11 => ?_)
      · replace h := condT hc11 h
        refine Run.seq ?_
        refine Run.reg ?_
        refine X.assign (by rfl) (by rfl) ?_
        refine X.nil ?_
        cases h
        refine R.fin1 Try.results3 (by rfl) (by rfl) ?_
        rfl
      · replace h := condF hc11 h
        refine Run.skip ?_
        refine Run.seq ?_
        refine Run.reg ?_
        refine X.assign (by rfl) (by rfl) ?_
        refine X.nil ?_
        refine Run.seq ?_
        refine R.demote 1280 (by rfl) (by rfl) (by rfl) (by rfl) (by rfl) ?_
        refine Run.reg ?_
        refine X.move (by rfl) (by rfl) ?_
        refine X.move (by rfl) (by rfl) ?_
        obtain ⟨v12, hv12, h⟩ := bindE h
        refine X.callM [(63, 1280)] (w_markLineS_k_pc _ _ _ hv12) (by rfl) (by rfl) (.yskB 63 (by rfl) (by rfl) (.pureB (by rfl) (by repeat (first | trivial | refine ⟨by first | rfl | simp [setL], ?_⟩)) .nil)) (by rfl) ⟨rfl, rfl, ⟨_, by rfl, by constructor⟩, by constructor, trivial⟩ (by rfl) (by rfl) (by rfl) (by rfl) (by rfl) (by rfl) (by rfl) (by rfl) (by rfl) ?_
        refine X.assign (by rfl) (by rfl) ?_
        refine X.nil ?_
        refine Run.seq ?_
        refine Run.seq ?_
        obtain ⟨e13, he13, h2⟩ := bindE h
        refine R.regG [(0, .slice (b0.map eTLine)), (4, .own 1152 (v4.map int).length), (6, .own 1408 (v6.map int).length), (42, bool e13)] [(1152, .obj false 3 1 (v4.map int)), (1408, .obj true 3 1 (v6.map int))] ?_ ?_
        · clear h; have h := he13; clear he13 h2
          refine X.move (by rfl) (by rfl) ?_
          refine X.bin (by rfl) (by rfl) (by rfl) (by rfl) (by intro h; cases h) (by rfl) ?_
          refine X.move (by rfl) (by rfl) ?_
          refine X.ifG (by rfl) (by rfl) (by rfl) (fun hb14 => ?_) (fun hb14 => ?_)
          · replace h := condF hb14 h
            refine X.move (by rfl) (by rfl) ?_
            refine X.gyes (by rfl) (by rfl) (by first | rfl | assumption) ?_
            refine X.move (by rfl) (by rfl) ?_
            refine X.gyes (by rfl) (by rfl) (by first | rfl | assumption) ?_
            obtain ⟨v15, hv15, h⟩ := bindE h
            refine X.callM [(63, 1408)] (PC.lend (M0 := [(63, .obj true 3 1 (v6.map int))]) (w_eqIntS_pc _ _ _ hv15) (.lit _) (by rfl) (.own 63 _ _ _ _ _ _ _ (by rfl) (by first | rfl | simp [setL] | omega) (.same _ _ _ (by rfl) .nil))) (by rfl) (by rfl) (.ownB 63 (by rfl) (by first | rfl | simp [setL] | omega) (by rfl) (.pureB (by rfl) (by repeat (first | trivial | refine ⟨by first | rfl | simp [setL], ?_⟩)) .nil)) (by rfl) ⟨rfl, rfl, ⟨_, by rfl, by constructor⟩, by constructor, trivial⟩ (by rfl) (by rfl) (by rfl) (by rfl) (by rfl) (by rfl) (by rfl) (by rfl) (by rfl) ?_
            refine X.gyes (by rfl) (by rfl) (by first | rfl | assumption) ?_
            refine X.un (by rfl) (by rfl) (by rfl) ?_
            refine X.pickF (by rfl) (by first | rfl | assumption) (by rfl) (by rfl) ?_
            cases h
            exact X.endG (by repeat (first | trivial | refine ⟨by first | rfl | simp [setL], ?_⟩)) (by repeat (first | trivial | refine ⟨by first | rfl | simp [setL], ?_⟩)) (by rfl) (by rfl)
          · replace h := condT hb14 h
            refine X.gno (by rfl) (by rfl) (by first | rfl | assumption) (by rfl) ?_
            refine X.gno (by rfl) (by rfl) (by first | rfl | assumption) (by rfl) ?_
            refine X.gno (by rfl) (by rfl) (by first | rfl | assumption) (by rfl) ?_
            refine X.pickT (by rfl) (by first | rfl | assumption) (by rfl) (by rfl) ?_
            cases h
            exact X.endG (by repeat (first | trivial | refine ⟨by first | rfl | simp [setL], ?_⟩)) (by repeat (first | trivial | refine ⟨by first | rfl | simp [setL], ?_⟩)) (by rfl) (by rfl)
        replace h := h2; clear h2
        refine R.cond (by rfl) (fun hc16 => ?_) (fun hc16 => ?_)
        · replace h := condT hc16 h
          refine Run.seq ?_
          refine Run.reg ?_
          refine X.assign (by rfl) (by rfl) ?_
          refine X.nil ?_
          cases h
          refine R.fin1 Try.results3 (by rfl) (by rfl) ?_
          rfl
        · replace h := condF hc16 h
          refine Run.skip ?_
          refine Run.seq ?_
          refine Run.reg ?_
          refine X.assign (by rfl) (by rfl) ?_
          refine X.nil ?_
          refine Run.seq ?_
          refine Run.reg ?_
          refine X.move (by rfl) (by rfl) ?_
          refine X.move (by rfl) (by rfl) ?_
          obtain ⟨v17, hv17, h⟩ := bindE h
          refine X.callR [(63, 1408)] [(1408, (v6.map int).length)] [(1408, (v17.2.map int).length)] (w_markIntS_pc _ _ _ hv17) (by rfl) (by rfl) (.ownB 63 (by rfl) (by first | rfl | simp [setL] | omega) (by rfl) (.pureB (by rfl) (by repeat (first | trivial | refine ⟨by first | rfl | simp [setL], ?_⟩)) .nil)) (by rfl) ⟨rfl, rfl, ⟨_, by rfl, by constructor⟩, by constructor, trivial⟩ (by rfl) (by rfl) (by rfl) (by rfl) ⟨rfl, ⟨_, _, _, _, by rfl, by rfl⟩, ⟨_, _, _, _, by rfl, by rfl⟩, trivial⟩ (by rfl) (by repeat (first | trivial | refine ⟨by first | rfl | simp [setL], ?_⟩)) (by rfl) (by rfl) (by rfl) (by rfl) (by rfl) ?_
          refine X.assign (by rfl) (by rfl) ?_
          refine X.nil ?_
          refine Run.seq ?_
          refine Run.reg ?_
          refine X.assign (by rfl) (by rfl) ?_
          refine X.nil ?_
          refine Run.seq ?_
          refine Run.reg ?_
          refine X.move (by rfl) (by rfl) ?_
          refine X.move (by rfl) (by rfl) ?_
          obtain ⟨v18, hv18, h⟩ := bindE h
          refine X.callM [(63, 1408)] (PC.lend (M0 := [(63, .obj true 3 1 (v17.2.map int))]) (w_heldIntS_pc _ _ _ hv18) (.lit _) (by rfl) (.own 63 _ _ _ _ _ _ _ (by rfl) (by first | rfl | simp [setL] | omega) (.same _ _ _ (by rfl) .nil))) (by rfl) (by rfl) (.ownB 63 (by rfl) (by first | rfl | simp [setL] | omega) (by rfl) (.pureB (by rfl) (by repeat (first | trivial | refine ⟨by first | rfl | simp [setL], ?_⟩)) .nil)) (by rfl) ⟨rfl, rfl, ⟨_, by rfl, by constructor⟩, by constructor, trivial⟩ (by rfl) (by rfl) (by rfl) (by rfl) (by rfl) (by rfl) (by rfl) (by rfl) (by rfl) ?_
          refine X.assign (by rfl) (by rfl) ?_
          refine X.nil ?_
          refine Run.seq ?_
          refine Run.seq ?_
          refine Run.reg ?_
          refine X.move (by rfl) (by rfl) ?_
          refine X.bin (by rfl) (by rfl) (by rfl) (by rfl) (by intro h; cases h) (by rfl) ?_
          refine X.nil ?_
          refine R.cond (by rfl) (fun hc19 => ?_) (fun hc19 => ?_)
          · replace h := condT hc19 h
            refine Run.seq ?_
            refine Run.reg ?_
            refine X.assign (by rfl) (by rfl) ?_
            refine X.nil ?_
            cases h
            refine R.fin1 Try.results3 (by rfl) (by rfl) ?_
            rfl
          · replace h := condF hc19 h
            refine Run.skip ?_
            refine Run.seq ?_
            refine Run.seq ?_
            refine Run.reg ?_
            refine X.move (by rfl) (by rfl) ?_
            refine X.move (by rfl) (by rfl) ?_
            refine X.bin (by rfl) (by rfl) (by rfl) (by rfl) (by intro h; cases h) (by rfl) ?_
            refine X.nil ?_
            refine R.cond (by rfl) (fun hc20 => ?_) (fun hc20 => ?_)
            · replace h := condT hc20 h
              refine Run.seq ?_
              refine Run.reg ?_
              refine X.assign (by rfl) (by rfl) ?_
              refine X.nil ?_
              cases h
              refine R.fin1 Try.results3 (by rfl) (by rfl) ?_
              rfl
            · replace h := condF hc20 h
              refine Run.skip ?_
              refine Run.seq ?_
              refine Run.reg ?_
              refine X.move (by rfl) (by rfl) ?_
              obtain ⟨v21, hv21, h⟩ := bindE h
              refine X.callF (PC.ofY (ps := [.slice (b0.map eTLine)]) (w_toLineS_pc _ _ hv21) (by rfl) (by rfl)) (by rfl) (by rfl) (by rfl) (by trivial) (by rfl) (by rfl) (by rfl) (by rfl) ?_
              obtain ⟨v22, hv22, h⟩ := bindE h
              refine X.callF (PC.pubF (i_ProofStats_pc _ _ hv22)) (by rfl) (by rfl) (by rfl) (by repeat (first | trivial | refine ⟨by first | rfl | simp [setL], ?_⟩)) (by rfl) (by rfl) (by rfl) (by rfl) ?_
              refine X.assign (by rfl) (by rfl) ?_
              refine X.nil ?_
              refine Run.seq ?_
              refine Run.seq ?_
              refine Run.reg ?_
              refine X.move (by rfl) (by rfl) ?_
              refine X.move (by rfl) (by rfl) ?_
              obtain ⟨v23, hv23, h⟩ := bindE h
              refine X.callP (w_eqIntS_pc _ _ _ hv23) (by rfl) (by rfl) (by rfl) (by repeat (first | trivial | refine ⟨by first | rfl | simp [setL], ?_⟩)) (by rfl) (by rfl) (by rfl) (by rfl) ?_
              refine X.un (by rfl) (by rfl) (by rfl) ?_
              refine X.nil ?_
              refine R.cond (by rfl) (fun hc24 => ?_) (fun hc24 => ?_)
              · replace h := condT hc24 h
                refine Run.seq ?_
                refine Run.reg ?_
                refine X.assign (by rfl) (by rfl) ?_
                refine X.nil ?_
                cases h
                refine R.fin1 Try.results3 (by rfl) (by rfl) ?_
                rfl
              · replace h := condF hc24 h
                refine Run.skip ?_
                refine Run.seq ?_
                refine Run.reg ?_
                refine X.assign (by rfl) (by rfl) ?_
                refine X.nil ?_
                refine Run.seq ?_
                refine Run.reg ?_
                refine X.move (by rfl) (by rfl) ?_
                refine X.move (by rfl) (by rfl) ?_
                obtain ⟨v25, hv25, h⟩ := bindE h
                refine X.callM [(63, 1408)] (PC.lend (M0 := [(63, .obj true 3 1 (v17.2.map int))]) (w_heldIntS_pc _ _ _ hv25) (.lit _) (by rfl) (.own 63 _ _ _ _ _ _ _ (by rfl) (by first | rfl | simp [setL] | omega) (.same _ _ _ (by rfl) .nil))) (by rfl) (by rfl) (.ownB 63 (by rfl) (by first | rfl | simp [setL] | omega) (by rfl) (.pureB (by rfl) (by repeat (first | trivial | refine ⟨by first | rfl | simp [setL], ?_⟩)) .nil)) (by rfl) ⟨rfl, rfl, ⟨_, by rfl, by constructor⟩, by constructor, trivial⟩ (by rfl) (by rfl) (by rfl) (by rfl) (by rfl) (by rfl) (by rfl) (by rfl) (by rfl) ?_
                refine X.assign (by rfl) (by rfl) ?_
                refine X.nil ?_
                refine Run.seq ?_
                refine Run.seq ?_
                refine Run.reg ?_
                refine X.move (by rfl) (by rfl) ?_
                refine X.bin (by rfl) (by rfl) (by rfl) (by rfl) (by intro h; cases h) (by rfl) ?_
                refine X.nil ?_
                refine R.cond (by rfl) (fun hc26 => ?_) (fun hc26 => ?_)
                · replace h := condT hc26 h
                  refine Run.seq ?_
                  refine Run.reg ?_
                  refine X.assign (by rfl) (by rfl) ?_
                  refine X.nil ?_
                  cases h
                  refine R.fin1 Try.results3 (by rfl) (by rfl) ?_
                  rfl
                · replace h := condF hc26 h
                  refine Run.skip ?_
                  refine Run.seq ?_
                  refine Run.seq ?_
                  refine Run.reg ?_
                  refine X.move (by rfl) (by rfl) ?_
                  refine X.move (by rfl) (by rfl) ?_
                  refine X.bin (by rfl) (by rfl) (by rfl) (by rfl) (by intro h; cases h) (by rfl) ?_
                  refine X.nil ?_
                  refine R.cond (by rfl) (fun hc27 => ?_) (fun hc27 => ?_)
                  · replace h := condT hc27 h
                    refine Run.seq ?_
                    refine Run.reg ?_
                    refine X.assign (by rfl) (by rfl) ?_
                    refine X.nil ?_
                    cases h
                    refine R.fin1 Try.results3 (by rfl) (by rfl) ?_
                    rfl
                  · replace h := condF hc27 h
                    refine Run.skip ?_
                    refine Run.seq ?_
                    refine Run.reg ?_
                    refine X.assign (by rfl) (by rfl) ?_
                    refine X.nil ?_
                    cases h
                    refine R.fin1 Try.results3 (by rfl) (by rfl) ?_
                    rfl
end Go.Px.Ythdejnjjdihmfab
