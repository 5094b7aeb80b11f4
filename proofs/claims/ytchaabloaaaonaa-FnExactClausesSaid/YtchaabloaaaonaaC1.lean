/-
  PROVED: contracts of functions of the program over pure values. No condition beyond those that each theorem names.
-/
import Derived.Test.YtchaabloaaaonaaProg
import Derived.Test.YtchaabloaaaonaaD1
namespace Go.Px.Ytchaabloaaaonaa
set_option linter.unusedSimpArgs false
set_option linter.unusedVariables false
open Go.Px Go.Proofs
theorem elt22 : eltOf Try.prog 22 = some (54, 6, 64) := by kernel_rfl
theorem shp54 : shp Try.prog 54 = some (true, 6) := by kernel_rfl
theorem fld54_2 : fldOff Try.prog 54 2 = some 5 := by kernel_rfl
theorem shp52 : shp Try.prog 52 = some (false, 1) := by kernel_rfl
theorem elt52 : eltOf Try.prog 52 = some (122, 3, 24) := by kernel_rfl
theorem ok44 : okFn Try.prog 44 = true := by kernel_rfl
theorem ok19 : okFn Try.prog 19 = true := by kernel_rfl
theorem ok5 : okFn Try.prog 5 = true := by kernel_rfl
theorem elt26 : eltOf Try.prog 26 = some (58, 6, 64) := by kernel_rfl
theorem zer58 : zeroPV Try.prog 58 = some [.lit (.int .i64 0), .lit (.int .i64 0), .lit (.int .i64 0), .lit (.int .i64 0), .lit (.int .i64 0), .nils] := by kernel_rfl
theorem fld54_0 : fldOff Try.prog 54 0 = some 0 := by kernel_rfl
theorem shp3 : shp Try.prog 3 = some (false, 1) := by kernel_rfl
theorem fld58_0 : fldOff Try.prog 58 0 = some 0 := by kernel_rfl
theorem fld54_1 : fldOff Try.prog 54 1 = some 1 := by kernel_rfl
theorem shp51 : shp Try.prog 51 = some (true, 4) := by kernel_rfl
theorem zer55 : zeroPV Try.prog 55 = some [.lit (.int .i64 0), .lit (.int .i64 0), .lit (.int .i64 0), .lit (.int .i64 0)] := by kernel_rfl
theorem fld51_0 : fldOff Try.prog 51 0 = some 0 := by kernel_rfl
theorem fld55_0 : fldOff Try.prog 55 0 = some 0 := by kernel_rfl
theorem fld51_1 : fldOff Try.prog 51 1 = some 1 := by kernel_rfl
theorem fld55_1 : fldOff Try.prog 55 1 = some 1 := by kernel_rfl
theorem fld51_2 : fldOff Try.prog 51 2 = some 2 := by kernel_rfl
theorem fld55_2 : fldOff Try.prog 55 2 = some 2 := by kernel_rfl
theorem fld51_3 : fldOff Try.prog 51 3 = some 3 := by kernel_rfl
theorem fld55_3 : fldOff Try.prog 55 3 = some 3 := by kernel_rfl
theorem shp55 : shp Try.prog 55 = some (true, 4) := by kernel_rfl
theorem ok45 : okFn Try.prog 45 = true := by kernel_rfl
theorem fld58_1 : fldOff Try.prog 58 1 = some 1 := by kernel_rfl
theorem elt56 : eltOf Try.prog 56 = some (62, 3, 24) := by kernel_rfl
theorem zer62 : zeroPV Try.prog 62 = some [.lit (.int .i64 0), .lit (.int .i64 0), .lit (.int .i64 0)] := by kernel_rfl
theorem shp122 : shp Try.prog 122 = some (true, 3) := by kernel_rfl
theorem fld122_0 : fldOff Try.prog 122 0 = some 0 := by kernel_rfl
theorem fld62_0 : fldOff Try.prog 62 0 = some 0 := by kernel_rfl
theorem fld122_1 : fldOff Try.prog 122 1 = some 1 := by kernel_rfl
theorem fld62_1 : fldOff Try.prog 62 1 = some 1 := by kernel_rfl
theorem fld122_2 : fldOff Try.prog 122 2 = some 2 := by kernel_rfl
theorem fld62_2 : fldOff Try.prog 62 2 = some 2 := by kernel_rfl
theorem shp62 : shp Try.prog 62 = some (true, 3) := by kernel_rfl
theorem ok76 : okFn Try.prog 76 = true := by kernel_rfl
theorem ok46 : okFn Try.prog 46 = true := by kernel_rfl
theorem fld58_2 : fldOff Try.prog 58 2 = some 5 := by kernel_rfl
theorem shp56 : shp Try.prog 56 = some (false, 1) := by kernel_rfl
theorem shp58 : shp Try.prog 58 = some (true, 6) := by kernel_rfl
theorem ok20 : okFn Try.prog 20 = true := by kernel_rfl
theorem ok7 : okFn Try.prog 7 = true := by kernel_rfl
theorem elt24 : eltOf Try.prog 24 = some (56, 1, 24) := by kernel_rfl
theorem zer56 : zeroPV Try.prog 56 = some [.nils] := by kernel_rfl
theorem ok6 : okFn Try.prog 6 = true := by kernel_rfl
theorem ok21 : okFn Try.prog 21 = true := by kernel_rfl
theorem ok8 : okFn Try.prog 8 = true := by kernel_rfl
theorem ok47 : okFn Try.prog 47 = true := by kernel_rfl
theorem mixed : Try.prog.follows .mixedOrders = true := by kernel_rfl
theorem ok22 : okFn Try.prog 22 = true := by kernel_rfl
theorem ok9 : okFn Try.prog 9 = true := by kernel_rfl
theorem ok48 : okFn Try.prog 48 = true := by kernel_rfl
theorem ok23 : okFn Try.prog 23 = true := by kernel_rfl
theorem ok10 : okFn Try.prog 10 = true := by kernel_rfl
theorem ok24 : okFn Try.prog 24 = true := by kernel_rfl
theorem ok11 : okFn Try.prog 11 = true := by kernel_rfl
theorem ok12 : okFn Try.prog 12 = true := by kernel_rfl
theorem shape_t_eTLiteral (a b : List (List TLiteral)) (h : b.length = a.length) : ShapeT (a.map t_eTLiteral) (b.map t_eTLiteral) := shapeT_map (fun x y i e sz rl h => by
  rcases i with _ | i
  · first | (cases h; done) | (cases h; exact ⟨_, rfl⟩)
  · cases h) (fun _ _ => rfl) a b h
theorem ok25 : okFn Try.prog 25 = true := by kernel_rfl
theorem ok13 : okFn Try.prog 13 = true := by kernel_rfl
theorem ok3 : okFn Try.prog 3 = true := by kernel_rfl
theorem w_szLiteralS_pc (b0 : List TLiteral) (b1 : Int) (r : Int) (h : w_szLiteralS b0 b1 = some r) : PC Try.prog 44 [.slice (b0.map eTLiteral), int b1] (int r) := by
 unfold w_szLiteralS at h
 refine PC.start Try.func44 Try.ntmps44 rfl ok44 rfl ?_
 refine Run.sr ?_
 refine X.an ?_
 refine Run.sr ?_
 refine X.mv ?_
 refine X.mv ?_
 refine X.ls elt52 ?_
 refine X.subW (by rfl) (by rfl) (by rfl) ?_
 refine X.an ?_
 refine Run.seq ?_
 refine Run.sr ?_
 refine X.mv ?_
 refine X.bi ?_
 refine X.nil ?_
 refine R.cd (fun hc1 => ?_) (fun hc1 => ?_)
 ·replace h := condT hc1 h
  refine Run.sr ?_
  refine X.an ?_
  cases h
  refine R.f1 Try.results44 ?_
  rfl
 ·replace h := condF hc1 h
  refine Run.skip ?_
  refine Run.sr ?_
  refine X.mv ?_
  refine X.an ?_
  cases h
  refine R.f1 Try.results44 ?_
  rfl
theorem w_szLine_pc (b0 : TLine) (b1 : Int) (r : Int) (h : w_szLine b0 b1 = some r) : PC Try.prog 19 [eTLine b0, int b1] (int r) := by
 unfold w_szLine at h
 refine PC.start Try.func19 Try.ntmps19 rfl ok19 rfl ?_
 refine Run.sr ?_
 refine X.bx ?_
 refine X.an ?_
 refine Run.sr ?_
 refine X.fl fld54_2 ?_
 refine X.ld shp52 ?_
 refine X.mv ?_
 obtain ⟨v1, hv1, h⟩ := bindE h
 refine X.cp (w_szLiteralS_pc _ _ _ hv1) ?_
 refine X.an ?_
 refine Run.seq ?_
 refine Run.sr ?_
 refine X.mv ?_
 refine X.bi ?_
 refine X.nil ?_
 refine R.cd (fun hc2 => ?_) (fun hc2 => ?_)
 ·replace h := condT hc2 h
  refine Run.sr ?_
  refine X.an ?_
  cases h
  refine R.f1 Try.results19 ?_
  rfl
 ·replace h := condF hc2 h
  refine Run.skip ?_
  refine Run.sr ?_
  refine X.mv ?_
  refine X.an ?_
  cases h
  refine R.f1 Try.results19 ?_
  rfl
theorem w_szLineS_pc (b0 : List TLine) (b1 : Int) (r : Int) (h : w_szLineS b0 b1 = some r) : PC Try.prog 5 [.slice (b0.map eTLine), int b1] (int r) := by
 unfold w_szLineS at h
 refine PC.start Try.func5 Try.ntmps5 rfl ok5 rfl ?_
 refine Run.sr ?_
 refine X.an ?_
 refine Run.sr ?_
 refine X.mv ?_
 refine X.mv ?_
 refine X.ls elt22 ?_
 refine X.subW (by rfl) (by rfl) (by rfl) ?_
 refine X.an ?_
 refine Run.seq ?_
 refine Run.sr ?_
 refine X.mv ?_
 refine X.bi ?_
 refine X.nil ?_
 refine R.cd (fun hc1 => ?_) (fun hc1 => ?_)
 ·replace h := condT hc1 h
  refine Run.sr ?_
  refine X.an ?_
  cases h
  refine R.f1 Try.results5 ?_
  rfl
 ·replace h := condF hc1 h
  refine Run.skip ?_
  refine Run.seq ?_
  refine Run.sr ?_
  refine X.an ?_
  obtain ⟨o2, ho2, h⟩ := bindE h
  refine R.join2 (β := Int) [] [] (fun p16 S => (1, int p16) :: S) (fun p16 M => M) (fun p16 => (Sum.inl p16) = o2) ?_ ?_
  ·intro JJ5 hmeet4
   have hup3 := h; clear h; have h := ho2; clear ho2
   refine Run.block ?_
   refine R.bndS (t := 0) (by rfl) (fun hbd8 => ?_)
   replace hbd8 : b0.length ≤ 9223372036854775807 := by first | (rw [List.length_map] at hbd8; exact hbd8) | simp
   refine R.lp (β := Int × Int) [(0, .slice (b0.map eTLine))] [] (fun bb S => (1, int bb.2) :: (5, int bb.1) :: S) (fun bb M => M) (fun n bb => 0 ≤ bb.1 ∧ bb.1 + n = (b0.length : Int) ∧ w_szLineS_L1 (b0.drop bb.1.toNat) bb.1 bb.2 = some o2) b0.length (0, (W (b1 - (b0.length : Int)))) ⟨Int.le_refl _, by simp, h⟩ ?_
   clear h
   rintro JJ8 n8 ⟨z9, a10⟩ hag8 ⟨hza8, hzb8, h⟩
   dsimp only at hza8 hzb8 h
   refine Run.seq ?_
   refine Run.sr ?_
   refine X.mv ?_
   refine X.mv ?_
   refine X.ls elt22 ?_
   refine X.bi ?_
   refine X.nil ?_
   refine R.cd (fun hc13 => ?_) (fun hc13 => ?_)
   ·obtain ⟨x11, xs12, hd8, hx8, hds8, hlt8⟩ := drop_atI hza8 hc13
    rw [hd8] at h
    rw [w_szLineS_L1] at h
    refine Run.skip ?_
    refine Run.seq ?_
    refine Run.block ?_
    refine Run.sr ?_
    refine X.mv ?_
    refine X.mv ?_
    refine X.ix elt22 (idxL_spec hx8).1 (idxL_map eTLine hx8) ?_
    refine X.lc shp54 ?_
    refine X.mv ?_
    obtain ⟨v14, hv14, h⟩ := bindE h
    refine X.cp (w_szLine_pc _ _ _ hv14) ?_
    refine X.an ?_
    refine Run.sr ?_
    refine X.mv ?_
    refine X.bi ?_
    refine X.nil ?_
    refine R.cd (fun hc15 => ?_) (fun hc15 => ?_)
    ·replace h := condT hc15 h
     refine Run.sr ?_
     refine X.an ?_
     cases h
     have h := hup3
     replace h := elimR h
     cases h
     refine R.f1 Try.results5 ?_
     rfl
    ·replace h := condF hc15 h
     refine Run.skip ?_
     refine Run.blk ?_
     refine Run.reg ?_
     refine X.mv ?_
     refine X.ad ?_
     refine X.an ?_
     exact R.ag hag8 (n8 - 1) (z9 + 1, v14) (R.n3 (by first | (rw [hds8]; exact h) | (dsimp only; rw [hds8]; exact h)))
   ·rw [drop_endI hza8 hc13] at h
    rw [w_szLineS_L1] at h
    refine Run.exit (by rfl) ?_
    exact R.mt hmeet4 a10 (Option.some.inj h)
  rintro p16 rfl
  replace h := elimL h
  refine Run.sr ?_
  refine X.mv ?_
  refine X.an ?_
  cases h
  refine R.f1 Try.results5 ?_
  rfl
theorem w_toRule_pc (b0 : TRule) (r : TRule) (h : w_toRule b0 = some r) : PC Try.prog 45 [eTRule b0] (eTRule r) := by
 unfold w_toRule at h
 refine PC.start Try.func45 Try.ntmps45 rfl ok45 rfl ?_
 refine Run.sr ?_
 refine X.bx ?_
 refine X.alloc zer55 (by rfl) (by rfl) (by rfl) ?_
 refine X.nil ?_
 refine Run.sr ?_
 refine X.alloc zer55 (by rfl) (by rfl) (by rfl) ?_
 refine X.nil ?_
 refine Run.sr ?_
 refine X.fl fld51_0 ?_
 refine X.ld shp3 ?_
 refine X.fl fld55_0 ?_
 refine X.sl shp3 ?_
 refine X.nil ?_
 refine Run.sr ?_
 refine X.fl fld51_1 ?_
 refine X.ld shp3 ?_
 refine X.fl fld55_1 ?_
 refine X.sl shp3 ?_
 refine X.nil ?_
 refine Run.sr ?_
 refine X.fl fld51_2 ?_
 refine X.ld shp3 ?_
 refine X.fl fld55_2 ?_
 refine X.sl shp3 ?_
 refine X.nil ?_
 refine Run.sr ?_
 refine X.fl fld51_3 ?_
 refine X.ld shp3 ?_
 refine X.fl fld55_3 ?_
 refine X.sl shp3 ?_
 refine X.nil ?_
 refine Run.sr ?_
 refine X.ld shp55 ?_
 refine X.sl shp55 ?_
 refine X.nil ?_
 cases h
 refine R.finC Try.results45 shp55 (by rfl) (by rfl) (by rfl) (by rfl) (by repeat (first | trivial | refine ⟨by first | rfl | simp [setL], ?_⟩)) ?_
 rfl
theorem w_toLiteral_pc (b0 : TLiteral) (r : TLiteral) (h : w_toLiteral b0 = some r) : PC Try.prog 76 [eTLiteral b0] (eTLiteral r) := by
 unfold w_toLiteral at h
 refine PC.start Try.func76 Try.ntmps76 rfl ok76 rfl ?_
 refine Run.sr ?_
 refine X.bx ?_
 refine X.alloc zer62 (by rfl) (by rfl) (by rfl) ?_
 refine X.nil ?_
 refine Run.sr ?_
 refine X.alloc zer62 (by rfl) (by rfl) (by rfl) ?_
 refine X.nil ?_
 refine Run.sr ?_
 refine X.fl fld122_0 ?_
 refine X.ld shp3 ?_
 refine X.fl fld62_0 ?_
 refine X.sl shp3 ?_
 refine X.nil ?_
 refine Run.sr ?_
 refine X.fl fld122_1 ?_
 refine X.ld shp3 ?_
 refine X.fl fld62_1 ?_
 refine X.sl shp3 ?_
 refine X.nil ?_
 refine Run.sr ?_
 refine X.fl fld122_2 ?_
 refine X.ld shp3 ?_
 refine X.fl fld62_2 ?_
 refine X.sl shp3 ?_
 refine X.nil ?_
 refine Run.sr ?_
 refine X.ld shp62 ?_
 refine X.sl shp62 ?_
 refine X.nil ?_
 cases h
 refine R.finC Try.results76 shp62 (by rfl) (by rfl) (by rfl) (by rfl) (by repeat (first | trivial | refine ⟨by first | rfl | simp [setL], ?_⟩)) ?_
 rfl
theorem w_toLiteralS_pc (b0 : List TLiteral) (r : List TLiteral) (h : w_toLiteralS b0 = some r) : PCM Try.prog 46 [.yng 63 (.slice (b0.map eTLiteral))] [(63, .yreg false false)] (.fresh false 62 3 (r.map eTLiteral)) [(63, .yreg false false)] := by
 unfold w_toLiteralS at h
 refine PCM.start Try.func46 Try.ntmps46 rfl ok46 rfl (by rfl) (by rfl) (by rfl) (by rfl) (by rfl) ?_
 refine Run.sr ?_
 refine X.an ?_
 refine Run.sr ?_
 refine X.mv ?_
 refine X.lenY false 63 elt52 (by rfl) (by exact List.length_map ..) (by rfl) ?_
 obtain ⟨v1, hv1, h⟩ := bindE h
 refine X.makeSlice2 eTLiteral hv1 elt56 zer62 (by rfl) (by rfl) (by rfl) (by simp [PV.plain]) (by rfl) (by rfl) (by rfl) (by rfl) (by rfl) (by rfl) ?_
 refine X.an ?_
 refine Run.seq ?_
 refine Run.sr ?_
 refine X.an ?_
 obtain ⟨o2, ho2, h⟩ := bindE h
 refine R.join2 (β := (List TLiteral)) [] [(63, .yreg false false)] (fun p16 S => (3, .own 448 (p16.map eTLiteral).length) :: S) (fun p16 M => (448, .obj true 62 3 (p16.map eTLiteral)) :: M) (fun p16 => p16 = o2) ?_ ?_
 ·intro JJ5 hmeet4
  have hup3 := h; clear h; have h := ho2; clear ho2
  refine Run.block ?_
  refine R.bndY false 63 (t := 0) (by rfl) (fun hbd8 => ?_)
  replace hbd8 : b0.length ≤ 9223372036854775807 := by first | (rw [List.length_map] at hbd8; exact hbd8) | simp
  refine R.lp (β := Int × (List TLiteral)) [(0, .yng 63 (.slice (b0.map eTLiteral)))] [(63, .yreg false false)] (fun bb S => (3, .own 448 (bb.2.map eTLiteral).length) :: (4, int bb.1) :: S) (fun bb M => (448, .obj true 62 3 (bb.2.map eTLiteral)) :: M) (fun n bb => 0 ≤ bb.1 ∧ bb.1 + n = (b0.length : Int) ∧ w_toLiteralS_L1 (b0.drop bb.1.toNat) bb.1 bb.2 = some o2) b0.length (0, v1) ⟨Int.le_refl _, by simp, h⟩ ?_
  clear h
  rintro JJ8 n8 ⟨z9, a10⟩ hag8 ⟨hza8, hzb8, h⟩
  dsimp only at hza8 hzb8 h
  refine Run.seq ?_
  refine Run.sr ?_
  refine X.mv ?_
  refine X.mv ?_
  refine X.lenY false 63 elt52 (by rfl) (by exact List.length_map ..) (by rfl) ?_
  refine X.bi ?_
  refine X.nil ?_
  refine R.cd (fun hc13 => ?_) (fun hc13 => ?_)
  ·obtain ⟨x11, xs12, hd8, hx8, hds8, hlt8⟩ := drop_atI hza8 hc13
   rw [hd8] at h
   rw [w_toLiteralS_L1] at h
   refine Run.skip ?_
   refine Run.seq ?_
   refine Run.block ?_
   refine Run.reg ?_
   refine X.mv ?_
   refine X.mv ?_
   refine X.mv ?_
   refine X.mv ?_
   refine X.indexY false 63 elt52 (by rfl) (by rfl) (idxL_spec hx8).1 (idxL_map eTLiteral hx8) (by rfl) (by rfl) ?_
   refine X.loadY false 63 shp122 (by rfl) (by rfl) (by rfl) (by rfl) ?_
   obtain ⟨v14, hv14, h⟩ := bindE h
   refine X.callA (w_toLiteral_pc _ _ hv14) (by rfl) (by rfl) (by rfl) (by trivial) (by rfl) (by rfl) (by rfl) (by rfl) (by rfl) (by rfl) ?_
   obtain ⟨v15, hv15, h⟩ := bindE h
   refine X.index_xs elt56 (by rfl) (by rfl) (by first | rfl | simp [setL] | omega) (by rfl) (by exact (Int.toNat_of_nonneg (idxL_spec hv15).1).symm) (by have := idxL_lt hv15; first | exact this | (rw [List.length_map]; exact this)) (by rfl) (by rfl) ?_
   refine X.store_es shp62 (by rfl) (by rfl) (by first | rfl | simp [setL] | omega) (idxL_map _ hv15) (by rfl) (by rfl) (by repeat (first | trivial | refine ⟨by first | rfl | simp [setL], ?_⟩)) (by rfl) (by rfl) (by rfl) (by rfl) (by exact setL_map _ _ _ v14) ?_
   refine X.nil ?_
   refine Run.blk ?_
   refine Run.reg ?_
   refine X.mv ?_
   refine X.ad ?_
   refine X.an ?_
   refine R.castS (t := 3) (.own 448 ((setL a10 z9 v14).map eTLiteral).length) (by rfl) (.inl (by first | rfl | simp [setL])) ?_
   exact R.ag hag8 (n8 - 1) (z9 + 1, (setL a10 z9 v14)) (R.n3 (by first | (rw [hds8]; exact h) | (dsimp only; rw [hds8]; exact h)))
  ·rw [drop_endI hza8 hc13] at h
   rw [w_toLiteralS_L1] at h
   refine Run.exit (by rfl) ?_
   exact R.mt hmeet4 a10 (Option.some.inj h)
 rintro p16 rfl
 refine Run.sr ?_
 refine X.mv ?_
 refine X.an ?_
 cases h
 refine R.pubObj (n := 448) (by rfl) ?_
 exact R.finM1o Try.results46 (by rfl) (by rfl) (by first | rfl | simp [setL] | omega) (by rfl) (by repeat (first | exact trivial | refine ⟨by rfl, ?_⟩)) rfl
theorem w_toLine_pc (b0 : TLine) (r : TLine) (h : w_toLine b0 = some r) : PCM Try.prog 20 [.agg [int b0.Kind, int b0.Rule.Kind, int b0.Rule.A, int b0.Rule.B, int b0.Rule.C, .yng 63 (.slice (b0.Clause.map eTLiteral))]] [(63, .yreg false false)] (.agg [int r.Kind, int r.Rule.Kind, int r.Rule.A, int r.Rule.B, int r.Rule.C, .fresh false 62 3 (r.Clause.map eTLiteral)]) [(63, .yreg false false)] := by
 unfold w_toLine at h
 refine PCM.start Try.func20 Try.ntmps20 rfl ok20 rfl (by rfl) (by rfl) (by rfl) (by rfl) (by rfl) ?_
 refine Run.sr ?_
 refine X.bx ?_
 refine X.alloc zer58 (by rfl) (by rfl) (by rfl) ?_
 refine X.nil ?_
 refine Run.sr ?_
 refine X.alloc zer58 (by rfl) (by rfl) (by rfl) ?_
 refine X.nil ?_
 refine Run.sr ?_
 refine X.fl fld54_0 ?_
 refine X.ld shp3 ?_
 refine X.fl fld58_0 ?_
 refine X.sl shp3 ?_
 refine X.nil ?_
 refine Run.sr ?_
 refine X.fl fld54_1 ?_
 refine X.ld shp51 ?_
 obtain ⟨v1, hv1, h⟩ := bindE h
 refine X.callA (w_toRule_pc _ _ hv1) (by rfl) (by rfl) (by rfl) (by trivial) (by rfl) (by rfl) (by rfl) (by rfl) (by rfl) (by rfl) ?_
 refine X.fl fld58_1 ?_
 refine X.sl shp55 ?_
 refine X.nil ?_
 refine Run.sr ?_
 refine X.fl fld54_2 ?_
 refine X.ld shp52 ?_
 obtain ⟨v2, hv2, h⟩ := bindE h
 refine X.callM [(63, 63)] (w_toLiteralS_pc _ _ hv2) (by rfl) (by rfl) (.yngB 63 (by rfl) (by rfl) .nil) (by rfl) ⟨rfl, rfl, ⟨_, by rfl, by constructor⟩, by constructor, trivial⟩ (by rfl) (by rfl) (by rfl) (by rfl) (by rfl) (by rfl) (by rfl) (by rfl) (by rfl) ?_
 refine X.fl fld58_2 ?_
 refine X.sl shp56 ?_
 refine X.nil ?_
 refine Run.sr ?_
 refine X.ld shp58 ?_
 refine X.sl shp58 ?_
 refine X.nil ?_
 cases h
 exact R.finMC Try.results20 shp58 (by rfl) (by rfl) (by rfl) (by rfl) (by repeat (first | trivial | refine ⟨by first | rfl | simp [setL], ?_⟩)) (by rfl) (by repeat (first | exact trivial | refine ⟨by rfl, ?_⟩)) rfl
theorem w_toLineS_pc (b0 : List TLine) (r : List TLine) (h : w_toLineS b0 = some r) : PCM Try.prog 7 [.yng 63 (.slice (b0.map eTLine))] [(63, .yreg false false)] (.fresh false 58 6 (r.map eTLine)) [(63, .yreg false false)] := by
 unfold w_toLineS at h
 refine PCM.start Try.func7 Try.ntmps7 rfl ok7 rfl (by rfl) (by rfl) (by rfl) (by rfl) (by rfl) ?_
 refine Run.sr ?_
 refine X.an ?_
 refine Run.sr ?_
 refine X.mv ?_
 refine X.lenY false 63 elt22 (by rfl) (by exact List.length_map ..) (by rfl) ?_
 obtain ⟨v1, hv1, h⟩ := bindE h
 refine X.makeSlice2 eTLine hv1 elt26 zer58 (by rfl) (by rfl) (by rfl) (by simp [PV.plain]) (by rfl) (by rfl) (by rfl) (by rfl) (by rfl) (by rfl) ?_
 refine X.an ?_
 refine Run.seq ?_
 refine Run.sr ?_
 refine X.an ?_
 obtain ⟨o2, ho2, h⟩ := bindE h
 refine R.join2 (β := (List TLine)) [] [(63, .yreg false false)] (fun p16 S => (3, .own 448 (p16.map eTLine).length) :: S) (fun p16 M => (448, .obj true 58 6 (p16.map eTLine)) :: M) (fun p16 => p16 = o2) ?_ ?_
 ·intro JJ5 hmeet4
  have hup3 := h; clear h; have h := ho2; clear ho2
  refine Run.block ?_
  refine R.bndY false 63 (t := 0) (by rfl) (fun hbd8 => ?_)
  replace hbd8 : b0.length ≤ 9223372036854775807 := by first | (rw [List.length_map] at hbd8; exact hbd8) | simp
  refine R.lp (β := Int × (List TLine)) [(0, .yng 63 (.slice (b0.map eTLine)))] [(63, .yreg false false)] (fun bb S => (3, .own 448 (bb.2.map eTLine).length) :: (4, int bb.1) :: S) (fun bb M => (448, .obj true 58 6 (bb.2.map eTLine)) :: M) (fun n bb => 0 ≤ bb.1 ∧ bb.1 + n = (b0.length : Int) ∧ w_toLineS_L1 (b0.drop bb.1.toNat) bb.1 bb.2 = some o2) b0.length (0, v1) ⟨Int.le_refl _, by simp, h⟩ ?_
  clear h
  rintro JJ8 n8 ⟨z9, a10⟩ hag8 ⟨hza8, hzb8, h⟩
  dsimp only at hza8 hzb8 h
  refine Run.seq ?_
  refine Run.sr ?_
  refine X.mv ?_
  refine X.mv ?_
  refine X.lenY false 63 elt22 (by rfl) (by exact List.length_map ..) (by rfl) ?_
  refine X.bi ?_
  refine X.nil ?_
  refine R.cd (fun hc13 => ?_) (fun hc13 => ?_)
  ·obtain ⟨x11, xs12, hd8, hx8, hds8, hlt8⟩ := drop_atI hza8 hc13
   rw [hd8] at h
   rw [w_toLineS_L1] at h
   refine Run.skip ?_
   refine Run.seq ?_
   refine Run.block ?_
   refine Run.reg ?_
   refine X.mv ?_
   refine X.mv ?_
   refine X.mv ?_
   refine X.mv ?_
   refine X.indexY false 63 elt22 (by rfl) (by rfl) (idxL_spec hx8).1 (idxL_map eTLine hx8) (by rfl) (by rfl) ?_
   refine X.loadY false 63 shp54 (by rfl) (by rfl) (by rfl) (by rfl) ?_
   obtain ⟨v14, hv14, h⟩ := bindE h
   refine X.callM [(63, 63)] (w_toLine_pc _ _ hv14) (by rfl) (by rfl) (.agg _ _ _ _ _ _ (.pureB (by rfl) (by repeat (first | trivial | refine ⟨by first | rfl | simp [setL], ?_⟩)) (.pureB (by rfl) (by repeat (first | trivial | refine ⟨by first | rfl | simp [setL], ?_⟩)) (.pureB (by rfl) (by repeat (first | trivial | refine ⟨by first | rfl | simp [setL], ?_⟩)) (.pureB (by rfl) (by repeat (first | trivial | refine ⟨by first | rfl | simp [setL], ?_⟩)) (.pureB (by rfl) (by repeat (first | trivial | refine ⟨by first | rfl | simp [setL], ?_⟩)) (.yngB 63 (by rfl) (by rfl) .nil)))))) .nil) (by rfl) ⟨rfl, rfl, ⟨_, by rfl, by constructor⟩, by constructor, trivial⟩ (by rfl) (by rfl) (by rfl) (by rfl) (by rfl) (by rfl) (by rfl) (by rfl) (by rfl) ?_
   obtain ⟨v15, hv15, h⟩ := bindE h
   refine X.index_xs elt26 (by rfl) (by rfl) (by first | rfl | simp [setL] | omega) (by rfl) (by exact (Int.toNat_of_nonneg (idxL_spec hv15).1).symm) (by have := idxL_lt hv15; first | exact this | (rw [List.length_map]; exact this)) (by rfl) (by rfl) ?_
   refine X.store_es shp58 (by rfl) (by rfl) (by first | rfl | simp [setL] | omega) (idxL_map _ hv15) (by rfl) (by rfl) (by repeat (first | trivial | refine ⟨by first | rfl | simp [setL], ?_⟩)) (by rfl) (by rfl) (by rfl) (by rfl) (by exact setL_map _ _ _ v14) ?_
   refine X.nil ?_
   refine Run.blk ?_
   refine Run.reg ?_
   refine X.mv ?_
   refine X.ad ?_
   refine X.an ?_
   refine R.castS (t := 3) (.own 448 ((setL a10 z9 v14).map eTLine).length) (by rfl) (.inl (by first | rfl | simp [setL])) ?_
   exact R.ag hag8 (n8 - 1) (z9 + 1, (setL a10 z9 v14)) (R.n3 (by first | (rw [hds8]; exact h) | (dsimp only; rw [hds8]; exact h)))
  ·rw [drop_endI hza8 hc13] at h
   rw [w_toLineS_L1] at h
   refine Run.exit (by rfl) ?_
   exact R.mt hmeet4 a10 (Option.some.inj h)
 rintro p16 rfl
 refine Run.sr ?_
 refine X.mv ?_
 refine X.an ?_
 cases h
 refine R.pubObj (n := 448) (by rfl) ?_
 exact R.finM1o Try.results7 (by rfl) (by rfl) (by first | rfl | simp [setL] | omega) (by rfl) (by repeat (first | exact trivial | refine ⟨by rfl, ?_⟩)) rfl
theorem s_Clauses_pc (b0 : List TLine) (r : List (List TLiteral)) (h : s_Clauses b0 = some r) : PC Try.prog 6 [.slice (b0.map eTLine)] (.fresh false 56 1 (r.map l_eTLiteral)) := by
 unfold s_Clauses at h
 refine PC.start Try.func6 Try.ntmps6 rfl ok6 rfl ?_
 refine Run.sr ?_
 refine X.an ?_
 refine Run.sr ?_
 refine X.buildSlice false elt24 zer56 (by rfl) (by rfl) (by rfl) (by rfl) (by rfl) (by rfl) (by repeat (first | trivial | refine ⟨by first | rfl | simp [setL], ?_⟩)) (allSz_spec (by rfl)) (by rfl) (by rfl) (by rfl) ?_
 refine X.an ?_
 refine Run.seq ?_
 refine Run.sr ?_
 refine X.mv ?_
 refine X.ls elt26 ?_
 refine X.mn ?_
 obtain ⟨o1, ho1, h⟩ := bindE h
 refine R.join2 (β := (List (List TLiteral))) [] [] (fun p15 S => (3, .own 384 (p15.map l_eTLiteral).length) :: S) (fun p15 M => (384, .obj false 56 1 (p15.map l_eTLiteral)) :: M) (fun p15 => p15 = o1) ?_ ?_
 ·intro JJ4 hmeet3
  have hup2 := h; clear h; have h := ho1; clear ho1
  refine Run.block ?_
  refine R.bndS (t := 0) (by rfl) (fun hbd7 => ?_)
  replace hbd7 : b0.length ≤ 9223372036854775807 := by first | (rw [List.length_map] at hbd7; exact hbd7) | simp
  refine R.lp (β := Int × (List (List TLiteral))) [(7, .slice (b0.map eTLine)), (8, int (b0.length : Int))] [] (fun bb S => (3, .own 384 (bb.2.map l_eTLiteral).length) :: (9, int bb.1) :: S) (fun bb M => (384, .obj false 56 1 (bb.2.map l_eTLiteral)) :: M) (fun n bb => 0 ≤ bb.1 ∧ bb.1 + n = (b0.length : Int) ∧ s_Clauses_L1 (b0.drop bb.1.toNat) bb.1 bb.2 = some o1) b0.length (0, ([] : List (List TLiteral))) ⟨Int.le_refl _, by simp, h⟩ ?_
  clear h
  rintro JJ7 n7 ⟨z8, a9⟩ hag7 ⟨hza7, hzb7, h⟩
  dsimp only at hza7 hzb7 h
  refine Run.sr ?_
  refine X.bi ?_
  refine X.nil ?_
  refine Run.seq ?_
  refine R.cd (fun hc12 => ?_) (fun hc12 => ?_)
  ·obtain ⟨x10, xs11, hd7, hx7, hds7, hlt7⟩ := drop_atI hza7 hc12
   rw [hd7] at h
   rw [s_Clauses_L1] at h
   refine Run.skip ?_
   refine Run.seq ?_
   refine Run.block ?_
   refine Run.sr ?_
   refine X.ix elt26 (idxL_spec hx7).1 (idxL_map eTLine hx7) ?_
   refine X.lc shp58 ?_
   refine X.alloc zer58 (by rfl) (by rfl) (by rfl) ?_
   refine X.sl shp58 ?_
   refine X.nil ?_
   refine Run.reg ?_
   refine X.mv ?_
   refine X.buildSlice false elt56 zer62 (by rfl) (by rfl) (by rfl) (by rfl) (by rfl) (by rfl) (by repeat (first | trivial | refine ⟨by first | rfl | simp [setL], ?_⟩)) (allSz_spec (by rfl)) (by rfl) (by rfl) (by rfl) ?_
   refine X.fl fld58_2 ?_
   refine X.ld shp56 ?_
   obtain ⟨v13, hv13, h⟩ := bindE h
   refine X.append elt56 zer62 (by rfl) (by rfl) (by first | rfl | simp [setL] | omega) (by rfl) (.pure _) (by exact cells_map (f := eTLiteral) (fun _ => rfl)) (appL_len eTLiteral hv13) (appL_map eTLiteral hv13) (by rfl) (by rfl) (by rfl) (by rfl) ?_
   refine X.buildSlice false elt24 zer56 (by rfl) (by rfl) (by rfl) (by rfl) (by rfl) (by rfl) (by repeat (first | trivial | refine ⟨by first | rfl | simp [setL], ?_⟩)) (allSz_spec (by rfl)) (by rfl) (by rfl) (by rfl) ?_
   obtain ⟨v14, hv14, h⟩ := bindE h
   refine X.append elt24 zer56 (by rfl) (by rfl) (by first | rfl | simp [setL] | omega) (by rfl) (.own _ _ _ _ _ _ (look_mem (by rfl)) (by first | rfl | simp [setL] | omega)) (allSz_spec (by rfl)) (appL_len l_eTLiteral hv14) (appL_map l_eTLiteral hv14) (by rfl) (by rfl) (by rfl) (by rfl) ?_
   refine X.an ?_
   refine Run.blk ?_
   refine Run.reg ?_
   refine X.ad ?_
   refine X.mn ?_
   exact R.ag hag7 (n7 - 1) (z8 + 1, v14) (R.n3 (by first | (rw [hds7]; exact h) | (dsimp only; rw [hds7]; exact h)))
  ·rw [drop_endI hza7 hc12] at h
   rw [s_Clauses_L1] at h
   refine Run.exit (by rfl) ?_
   exact R.mt hmeet3 a9 (Option.some.inj h)
 rintro p15 rfl
 refine Run.sr ?_
 refine X.mv ?_
 refine X.an ?_
 cases h
 refine R.fin1o Try.results6 (by rfl) (by rfl) (by first | rfl | simp [setL] | omega) ?_
 rfl
theorem slices_Clone_Literal_pc (b0 : List TLiteral) (r : List TLiteral) (h : slices_Clone_Literal b0 = some r) : PC Try.prog 21 [.slice (b0.map eTLiteral)] (.fresh true 62 3 (r.map eTLiteral)) := by
 unfold slices_Clone_Literal at h
 refine PC.split (fun hl ad cap => ?_) (fun hl => ?_)
 ·refine PC.start Try.func21 Try.ntmps21 rfl ok21 rfl ?_
  refine Run.sr ?_
  refine X.an ?_
  refine Run.seq ?_
  refine Run.sr ?_
  refine X.mv ?_
  refine X.eqlNilL elt56 (by rfl) (by rfl) (by rfl) ?_
  refine X.nil ?_
  refine R.cd (fun hc => ?_) (fun hc => ?_)
  ·refine Run.sr ?_
   refine X.an ?_
   refine R.fin1n (x := true) (e := 62) (sz := 3) Try.results21 (by rfl) (by decide) ?_
   obtain ⟨q, hq, h⟩ := bindE h
   have hqr := Option.some.inj h
   have hz : r = [] := by rw [← hqr, (appL_spec hq).2, List.map_eq_nil_iff.1 hl]; rfl
   rw [hz]; rfl
  ·refine Run.skip ?_
   refine R.slice0 (t := 0) (l := b0.map eTLiteral) hl (by rfl) ?_
   refine Run.sr ?_
   refine X.buildSlice true elt56 zer62 (by rfl) (by rfl) (by rfl) (by rfl) (by rfl) (by rfl) (by repeat (first | trivial | refine ⟨by first | rfl | simp [setL], ?_⟩)) (allSz_spec (by rfl)) (by rfl) (by rfl) (by rfl) ?_
   refine X.mv ?_
   obtain ⟨v1, hv1, h⟩ := bindE h
   refine X.append elt56 zer62 (by rfl) (by rfl) (by first | rfl | simp [setL] | omega) (by rfl) (.pure _) (by exact cells_map (f := eTLiteral) (fun _ => rfl)) (appL_len eTLiteral hv1) (appL_map eTLiteral hv1) (by rfl) (by rfl) (by rfl) (by rfl) ?_
   refine X.an ?_
   cases h
   refine R.fin1o Try.results21 (by rfl) (by rfl) (by first | rfl | simp [setL] | omega) ?_
   rfl
 ·refine PC.start Try.func21 Try.ntmps21 rfl ok21 rfl ?_
  refine Run.sr ?_
  refine X.an ?_
  refine Run.seq ?_
  refine Run.sr ?_
  refine X.mv ?_
  refine X.eqlNilS elt56 (by rfl) (.pure _) (.inl hl) (by rfl) (by rfl) ?_
  refine X.nil ?_
  refine R.condF (b := (b0.map eTLiteral).isEmpty) (by simpa using hl) (by rfl) ?_
  refine Run.skip ?_
  refine Run.sr ?_
  refine X.buildSlice true elt56 zer62 (by rfl) (by rfl) (by rfl) (by rfl) (by rfl) (by rfl) (by repeat (first | trivial | refine ⟨by first | rfl | simp [setL], ?_⟩)) (allSz_spec (by rfl)) (by rfl) (by rfl) (by rfl) ?_
  refine X.mv ?_
  obtain ⟨v1, hv1, h⟩ := bindE h
  refine X.append elt56 zer62 (by rfl) (by rfl) (by first | rfl | simp [setL] | omega) (by rfl) (.pure _) (by exact cells_map (f := eTLiteral) (fun _ => rfl)) (appL_len eTLiteral hv1) (appL_map eTLiteral hv1) (by rfl) (by rfl) (by rfl) (by rfl) ?_
  refine X.an ?_
  cases h
  refine R.fin1o Try.results21 (by rfl) (by rfl) (by first | rfl | simp [setL] | omega) ?_
  rfl
theorem i_Clauses_pc (b0 : List TLine) (r : List (List TLiteral)) (h : i_Clauses b0 = some r) : PC Try.prog 8 [.slice (b0.map eTLine)] (.tre 56 1 (r.map t_eTLiteral)) := by
 unfold i_Clauses at h
 refine PC.start Try.func8 Try.ntmps8 rfl ok8 rfl ?_
 refine Run.sr ?_
 refine X.an ?_
 refine Run.seq ?_
 refine Run.region ?_
 refine Run.buildT0 elt24 (by rfl) zer56 (by rfl) (by rfl) (by rfl) ?_
 refine Run.aso ?_
 refine Run.nil ?_
 refine Run.seq ?_
 refine Run.sr ?_
 refine X.mv ?_
 refine X.ls elt26 ?_
 refine X.mn ?_
 obtain ⟨o1, ho1, h⟩ := bindE h
 refine R.join2 (β := (List (List TLiteral))) [] [] (fun p15 S => (3, .tref 384 (p15.map t_eTLiteral).length .out) :: S) (fun p15 M => (384, .tre 56 1 (p15.map t_eTLiteral)) :: M) (fun p15 => p15 = o1) ?_ ?_
 ·intro JJ4 hmeet3
  have hup2 := h; clear h; have h := ho1; clear ho1
  refine Run.block ?_
  refine R.bndS (t := 0) (by rfl) (fun hbd7 => ?_)
  replace hbd7 : b0.length ≤ 9223372036854775807 := by first | (rw [List.length_map] at hbd7; exact hbd7) | simp
  refine R.lp (β := Int × (List (List TLiteral))) [(7, .slice (b0.map eTLine)), (8, int (b0.length : Int))] [] (fun bb S => (3, .tref 384 (bb.2.map t_eTLiteral).length .out) :: (9, int bb.1) :: S) (fun bb M => (384, .tre 56 1 (bb.2.map t_eTLiteral)) :: M) (fun n bb => 0 ≤ bb.1 ∧ bb.1 + n = (b0.length : Int) ∧ i_Clauses_L1 (b0.drop bb.1.toNat) bb.1 bb.2 = some o1) b0.length (0, ([] : List (List TLiteral))) ⟨Int.le_refl _, by simp, h⟩ ?_
  clear h
  rintro JJ7 n7 ⟨z8, a9⟩ hag7 ⟨hza7, hzb7, h⟩
  dsimp only at hza7 hzb7 h
  refine Run.sr ?_
  refine X.bi ?_
  refine X.nil ?_
  refine Run.seq ?_
  refine R.cd (fun hc12 => ?_) (fun hc12 => ?_)
  ·obtain ⟨x10, xs11, hd7, hx7, hds7, hlt7⟩ := drop_atI hza7 hc12
   rw [hd7] at h
   rw [i_Clauses_L1] at h
   refine Run.skip ?_
   refine Run.seq ?_
   refine Run.block ?_
   refine Run.sr ?_
   refine X.ix elt26 (idxL_spec hx7).1 (idxL_map eTLine hx7) ?_
   refine X.lc shp58 ?_
   refine X.alloc zer58 (by rfl) (by rfl) (by rfl) ?_
   refine X.sl shp58 ?_
   refine X.nil ?_
   refine Run.region ?_
   refine Run.mvo ?_
   refine Run.one ?_
   refine X.fl fld58_2 ?_
   refine X.nil ?_
   refine Run.one ?_
   refine X.ld shp56 ?_
   refine X.nil ?_
   refine Run.one ?_
   obtain ⟨v13, hv13, h⟩ := bindE h
   refine X.callF (slices_Clone_Literal_pc _ _ hv13) (by rfl) (by rfl) (by rfl) (by trivial) (by rfl) (by rfl) (by rfl) (by rfl) ?_
   refine X.nil ?_
   refine Run.buildT1 (S' := [(7, .slice (b0.map eTLine)), (8, int (b0.length : Int)), (9, int z8), (13, .tref 384 (a9.map t_eTLiteral).length .out)]) (M' := [(384, .tre 56 1 (a9.map t_eTLiteral))]) (q := t_eTLiteral v13) elt24 (by rfl) (by rfl) zer56 (by rfl) (by rfl) (by exact (.own _ _ _ _ _ _ _ _ (by rfl) (by first | rfl | simp [setL] | omega) (flat_lit _ (fun _ => (by repeat (first | exact trivial | refine ⟨trivial, ?_⟩)))) (by simp) .nil)) (by rfl) (by repeat (first | trivial | refine ⟨by first | rfl | simp [setL], ?_⟩)) (by repeat (first | trivial | refine ⟨by first | rfl | simp [setL], ?_⟩)) (by rfl) (by rfl) (by rfl) (by rfl) (by rfl) ?_
   obtain ⟨v14, hv14, h⟩ := bindE h
   refine Run.appT (S' := [(7, .slice (b0.map eTLine)), (8, int (b0.length : Int)), (9, int z8)]) (M' := []) (appL_map t_eTLiteral hv14) elt24 (by rfl) zer56 (by rfl) (by rfl) (by rfl) (by first | rfl | simp [setL] | omega) (by rfl) (by rfl) (by first | rfl | simp [setL] | omega) (by rfl) (by rfl) (appL_len t_eTLiteral hv14) (by rfl) (by repeat (first | trivial | refine ⟨by first | rfl | simp [setL], ?_⟩)) (by repeat (first | trivial | refine ⟨by first | rfl | simp [setL], ?_⟩)) (by rfl) (by rfl) (by rfl) (by rfl) (by rfl) ?_
   refine Run.aso ?_
   refine Run.nil ?_
   refine Run.blk ?_
   refine Run.reg ?_
   refine X.ad ?_
   refine X.mn ?_
   exact R.ag hag7 (n7 - 1) (z8 + 1, v14) (R.n3 (by first | (rw [hds7]; exact h) | (dsimp only; rw [hds7]; exact h)))
  ·rw [drop_endI hza7 hc12] at h
   rw [i_Clauses_L1] at h
   refine Run.exit (by rfl) ?_
   exact R.mt hmeet3 a9 (Option.some.inj h)
 rintro p15 rfl
 refine Run.sr ?_
 refine X.mv ?_
 refine X.an ?_
 cases h
 refine R.fin1t Try.results8 (by rfl) (by rfl) (by first | rfl | simp [setL] | omega) ?_
 rfl
theorem w_eqLiteral_pc (b0 : TLiteral) (b1 : TLiteral) (r : Bool) (h : w_eqLiteral b0 b1 = some r) : PC Try.prog 47 [eTLiteral b0, eTLiteral b1] (bool r) := by
 unfold w_eqLiteral at h
 refine PC.start Try.func47 Try.ntmps47 rfl ok47 rfl ?_
 refine Run.sr ?_
 refine X.bx ?_
 refine X.bx ?_
 refine X.an ?_
 refine Run.seq ?_
 refine Run.sr ?_
 refine X.fl fld62_0 ?_
 refine X.ld shp3 ?_
 refine X.fl fld62_0 ?_
 refine X.ld shp3 ?_
 refine X.bi ?_
 refine X.nil ?_
 refine R.cd (fun hc1 => ?_) (fun hc1 => ?_)
 ·replace h := condT hc1 h
  refine Run.sr ?_
  refine X.an ?_
  cases h
  refine R.f1 Try.results47 ?_
  rfl
 ·replace h := condF hc1 h
  refine Run.skip ?_
  refine Run.seq ?_
  refine Run.sr ?_
  refine X.fl fld62_1 ?_
  refine X.ld shp3 ?_
  refine X.fl fld62_1 ?_
  refine X.ld shp3 ?_
  refine X.bi ?_
  refine X.nil ?_
  refine R.cd (fun hc2 => ?_) (fun hc2 => ?_)
  ·replace h := condT hc2 h
   refine Run.sr ?_
   refine X.an ?_
   cases h
   refine R.f1 Try.results47 ?_
   rfl
  ·replace h := condF hc2 h
   refine Run.skip ?_
   refine Run.seq ?_
   refine Run.sr ?_
   refine X.fl fld62_2 ?_
   refine X.ld shp3 ?_
   refine X.fl fld62_2 ?_
   refine X.ld shp3 ?_
   refine X.bi ?_
   refine X.nil ?_
   refine R.cd (fun hc3 => ?_) (fun hc3 => ?_)
   ·replace h := condT hc3 h
    refine Run.sr ?_
    refine X.an ?_
    cases h
    refine R.f1 Try.results47 ?_
    rfl
   ·replace h := condF hc3 h
    refine Run.skip ?_
    refine Run.sr ?_
    refine X.an ?_
    cases h
    refine R.f1 Try.results47 ?_
    rfl
theorem w_eqLiteralS_pc (b0 : List TLiteral) (b1 : List TLiteral) (r : Bool) (h : w_eqLiteralS b0 b1 = some r) : PC Try.prog 22 [.slice (b0.map eTLiteral), .slice (b1.map eTLiteral)] (bool r) := by
 unfold w_eqLiteralS at h
 refine PC.start Try.func22 Try.ntmps22 rfl ok22 rfl ?_
 refine Run.sr ?_
 refine X.an ?_
 refine Run.seq ?_
 refine Run.sr ?_
 refine X.mv ?_
 refine X.ls elt56 ?_
 refine X.mv ?_
 refine X.ls elt56 ?_
 refine X.bi ?_
 refine X.nil ?_
 refine R.cd (fun hc1 => ?_) (fun hc1 => ?_)
 ·replace h := condT hc1 h
  refine Run.sr ?_
  refine X.an ?_
  cases h
  refine R.f1 Try.results22 ?_
  rfl
 ·replace h := condF hc1 h
  refine Run.skip ?_
  refine Run.seq ?_
  refine Run.sr ?_
  refine X.an ?_
  obtain ⟨o2, ho2, h⟩ := bindE h
  refine R.join2 (β := Unit) [] [] (fun p16 S => S) (fun p16 M => M) (fun p16 => (Sum.inl p16) = o2) ?_ ?_
  ·intro JJ5 hmeet4
   have hup3 := h; clear h; have h := ho2; clear ho2
   refine Run.block ?_
   refine R.bndS (t := 0) (by rfl) (fun hbd8 => ?_)
   replace hbd8 : b0.length ≤ 9223372036854775807 := by first | (rw [List.length_map] at hbd8; exact hbd8) | simp
   refine R.lp (β := Int) [(0, .slice (b0.map eTLiteral)), (1, .slice (b1.map eTLiteral))] [] (fun bb S => (5, int bb) :: S) (fun bb M => M) (fun n bb => 0 ≤ bb ∧ bb + n = (b0.length : Int) ∧ w_eqLiteralS_L1 b1 (b0.drop bb.toNat) bb = some o2) b0.length (0 : Int) ⟨Int.le_refl _, by simp, h⟩ ?_
   clear h
   rintro JJ8 n8 z9 hag8 ⟨hza8, hzb8, h⟩
   refine Run.seq ?_
   refine Run.sr ?_
   refine X.mv ?_
   refine X.mv ?_
   refine X.ls elt56 ?_
   refine X.bi ?_
   refine X.nil ?_
   refine R.cd (fun hc12 => ?_) (fun hc12 => ?_)
   ·obtain ⟨x10, xs11, hd8, hx8, hds8, hlt8⟩ := drop_atI hza8 hc12
    rw [hd8] at h
    rw [w_eqLiteralS_L1] at h
    refine Run.skip ?_
    refine Run.seq ?_
    refine Run.block ?_
    refine Run.seq ?_
    refine Run.draw (footOf []) mixed (by kernel_rfl) (by kernel_rfl) ?_
    refine X.mv ?_
    refine X.mv ?_
    refine X.ix elt56 (idxL_spec hx8).1 (idxL_map eTLiteral hx8) ?_
    refine X.lc shp62 ?_
    refine X.mv ?_
    refine X.mv ?_
    obtain ⟨v13, hv13, h⟩ := bindE h
    refine X.ix elt56 (idxL_spec hv13).1 (idxL_map eTLiteral hv13) ?_
    refine X.lc shp62 ?_
    obtain ⟨v14, hv14, h⟩ := bindE h
    refine X.cp (w_eqLiteral_pc _ _ _ hv14) ?_
    refine X.un (by rfl) (by rfl) (by rfl) ?_
    refine X.nil ?_
    refine R.cd (fun hc15 => ?_) (fun hc15 => ?_)
    ·replace h := condT hc15 h
     refine Run.sr ?_
     refine X.an ?_
     cases h
     have h := hup3
     replace h := elimR h
     cases h
     refine R.f1 Try.results22 ?_
     rfl
    ·replace h := condF hc15 h
     refine Run.skip ?_
     refine Run.blk ?_
     refine Run.reg ?_
     refine X.mv ?_
     refine X.ad ?_
     refine X.an ?_
     exact R.ag hag8 (n8 - 1) (z9 + 1) (R.n3 (by first | (rw [hds8]; exact h) | (dsimp only; rw [hds8]; exact h)))
   ·rw [drop_endI hza8 hc12] at h
    rw [w_eqLiteralS_L1] at h
    refine Run.exit (by rfl) ?_
    exact R.mt hmeet4 () (Option.some.inj h)
  rintro p16 rfl
  replace h := elimL h
  refine Run.sr ?_
  refine X.an ?_
  cases h
  refine R.f1 Try.results22 ?_
  rfl
theorem w_eqLiteralSS_pc (b0 : List (List TLiteral)) (b1 : List (List TLiteral)) (r : Bool) (h : w_eqLiteralSS b0 b1 = some r) : PC Try.prog 9 [.slice (b0.map l_eTLiteral), .slice (b1.map l_eTLiteral)] (bool r) := by
 unfold w_eqLiteralSS at h
 refine PC.start Try.func9 Try.ntmps9 rfl ok9 rfl ?_
 refine Run.sr ?_
 refine X.an ?_
 refine Run.seq ?_
 refine Run.sr ?_
 refine X.mv ?_
 refine X.ls elt24 ?_
 refine X.mv ?_
 refine X.ls elt24 ?_
 refine X.bi ?_
 refine X.nil ?_
 refine R.cd (fun hc1 => ?_) (fun hc1 => ?_)
 ·replace h := condT hc1 h
  refine Run.sr ?_
  refine X.an ?_
  cases h
  refine R.f1 Try.results9 ?_
  rfl
 ·replace h := condF hc1 h
  refine Run.skip ?_
  refine Run.seq ?_
  refine Run.sr ?_
  refine X.an ?_
  obtain ⟨o2, ho2, h⟩ := bindE h
  refine R.join2 (β := Unit) [] [] (fun p16 S => S) (fun p16 M => M) (fun p16 => (Sum.inl p16) = o2) ?_ ?_
  ·intro JJ5 hmeet4
   have hup3 := h; clear h; have h := ho2; clear ho2
   refine Run.block ?_
   refine R.bndS (t := 0) (by rfl) (fun hbd8 => ?_)
   replace hbd8 : b0.length ≤ 9223372036854775807 := by first | (rw [List.length_map] at hbd8; exact hbd8) | simp
   refine R.lp (β := Int) [(0, .slice (b0.map l_eTLiteral)), (1, .slice (b1.map l_eTLiteral))] [] (fun bb S => (5, int bb) :: S) (fun bb M => M) (fun n bb => 0 ≤ bb ∧ bb + n = (b0.length : Int) ∧ w_eqLiteralSS_L1 b1 (b0.drop bb.toNat) bb = some o2) b0.length (0 : Int) ⟨Int.le_refl _, by simp, h⟩ ?_
   clear h
   rintro JJ8 n8 z9 hag8 ⟨hza8, hzb8, h⟩
   refine Run.seq ?_
   refine Run.sr ?_
   refine X.mv ?_
   refine X.mv ?_
   refine X.ls elt24 ?_
   refine X.bi ?_
   refine X.nil ?_
   refine R.cd (fun hc12 => ?_) (fun hc12 => ?_)
   ·obtain ⟨x10, xs11, hd8, hx8, hds8, hlt8⟩ := drop_atI hza8 hc12
    rw [hd8] at h
    rw [w_eqLiteralSS_L1] at h
    refine Run.skip ?_
    refine Run.seq ?_
    refine Run.block ?_
    refine Run.seq ?_
    refine Run.draw (footOf []) mixed (by kernel_rfl) (by kernel_rfl) ?_
    refine X.mv ?_
    refine X.mv ?_
    refine X.ix elt24 (idxL_spec hx8).1 (idxL_map l_eTLiteral hx8) ?_
    refine X.lc shp56 ?_
    refine X.mv ?_
    refine X.mv ?_
    obtain ⟨v13, hv13, h⟩ := bindE h
    refine X.ix elt24 (idxL_spec hv13).1 (idxL_map l_eTLiteral hv13) ?_
    refine X.lc shp56 ?_
    obtain ⟨v14, hv14, h⟩ := bindE h
    refine X.cp (w_eqLiteralS_pc _ _ _ hv14) ?_
    refine X.un (by rfl) (by rfl) (by rfl) ?_
    refine X.nil ?_
    refine R.cd (fun hc15 => ?_) (fun hc15 => ?_)
    ·replace h := condT hc15 h
     refine Run.sr ?_
     refine X.an ?_
     cases h
     have h := hup3
     replace h := elimR h
     cases h
     refine R.f1 Try.results9 ?_
     rfl
    ·replace h := condF hc15 h
     refine Run.skip ?_
     refine Run.blk ?_
     refine Run.reg ?_
     refine X.mv ?_
     refine X.ad ?_
     refine X.an ?_
     exact R.ag hag8 (n8 - 1) (z9 + 1) (R.n3 (by first | (rw [hds8]; exact h) | (dsimp only; rw [hds8]; exact h)))
   ·rw [drop_endI hza8 hc12] at h
    rw [w_eqLiteralSS_L1] at h
    refine Run.exit (by rfl) ?_
    exact R.mt hmeet4 () (Option.some.inj h)
  rintro p16 rfl
  replace h := elimL h
  refine Run.sr ?_
  refine X.an ?_
  cases h
  refine R.f1 Try.results9 ?_
  rfl
theorem w_eqRule_pc (b0 : TRule) (b1 : TRule) (r : Bool) (h : w_eqRule b0 b1 = some r) : PC Try.prog 48 [eTRule b0, eTRule b1] (bool r) := by
 unfold w_eqRule at h
 refine PC.start Try.func48 Try.ntmps48 rfl ok48 rfl ?_
 refine Run.sr ?_
 refine X.bx ?_
 refine X.bx ?_
 refine X.an ?_
 refine Run.seq ?_
 refine Run.sr ?_
 refine X.fl fld55_0 ?_
 refine X.ld shp3 ?_
 refine X.fl fld55_0 ?_
 refine X.ld shp3 ?_
 refine X.bi ?_
 refine X.nil ?_
 refine R.cd (fun hc1 => ?_) (fun hc1 => ?_)
 ·replace h := condT hc1 h
  refine Run.sr ?_
  refine X.an ?_
  cases h
  refine R.f1 Try.results48 ?_
  rfl
 ·replace h := condF hc1 h
  refine Run.skip ?_
  refine Run.seq ?_
  refine Run.sr ?_
  refine X.fl fld55_1 ?_
  refine X.ld shp3 ?_
  refine X.fl fld55_1 ?_
  refine X.ld shp3 ?_
  refine X.bi ?_
  refine X.nil ?_
  refine R.cd (fun hc2 => ?_) (fun hc2 => ?_)
  ·replace h := condT hc2 h
   refine Run.sr ?_
   refine X.an ?_
   cases h
   refine R.f1 Try.results48 ?_
   rfl
  ·replace h := condF hc2 h
   refine Run.skip ?_
   refine Run.seq ?_
   refine Run.sr ?_
   refine X.fl fld55_2 ?_
   refine X.ld shp3 ?_
   refine X.fl fld55_2 ?_
   refine X.ld shp3 ?_
   refine X.bi ?_
   refine X.nil ?_
   refine R.cd (fun hc3 => ?_) (fun hc3 => ?_)
   ·replace h := condT hc3 h
    refine Run.sr ?_
    refine X.an ?_
    cases h
    refine R.f1 Try.results48 ?_
    rfl
   ·replace h := condF hc3 h
    refine Run.skip ?_
    refine Run.seq ?_
    refine Run.sr ?_
    refine X.fl fld55_3 ?_
    refine X.ld shp3 ?_
    refine X.fl fld55_3 ?_
    refine X.ld shp3 ?_
    refine X.bi ?_
    refine X.nil ?_
    refine R.cd (fun hc4 => ?_) (fun hc4 => ?_)
    ·replace h := condT hc4 h
     refine Run.sr ?_
     refine X.an ?_
     cases h
     refine R.f1 Try.results48 ?_
     rfl
    ·replace h := condF hc4 h
     refine Run.skip ?_
     refine Run.sr ?_
     refine X.an ?_
     cases h
     refine R.f1 Try.results48 ?_
     rfl
theorem w_eqLine_pc (b0 : TLine) (b1 : TLine) (r : Bool) (h : w_eqLine b0 b1 = some r) : PC Try.prog 23 [eTLine b0, eTLine b1] (bool r) := by
 unfold w_eqLine at h
 refine PC.start Try.func23 Try.ntmps23 rfl ok23 rfl ?_
 refine Run.sr ?_
 refine X.bx ?_
 refine X.bx ?_
 refine X.an ?_
 refine Run.seq ?_
 refine Run.sr ?_
 refine X.fl fld58_0 ?_
 refine X.ld shp3 ?_
 refine X.fl fld58_0 ?_
 refine X.ld shp3 ?_
 refine X.bi ?_
 refine X.nil ?_
 refine R.cd (fun hc1 => ?_) (fun hc1 => ?_)
 ·replace h := condT hc1 h
  refine Run.sr ?_
  refine X.an ?_
  cases h
  refine R.f1 Try.results23 ?_
  rfl
 ·replace h := condF hc1 h
  refine Run.skip ?_
  refine Run.seq ?_
  refine Run.sr ?_
  refine X.fl fld58_1 ?_
  refine X.ld shp55 ?_
  refine X.fl fld58_1 ?_
  refine X.ld shp55 ?_
  obtain ⟨v2, hv2, h⟩ := bindE h
  refine X.cp (w_eqRule_pc _ _ _ hv2) ?_
  refine X.un (by rfl) (by rfl) (by rfl) ?_
  refine X.nil ?_
  refine R.cd (fun hc3 => ?_) (fun hc3 => ?_)
  ·replace h := condT hc3 h
   refine Run.sr ?_
   refine X.an ?_
   cases h
   refine R.f1 Try.results23 ?_
   rfl
  ·replace h := condF hc3 h
   refine Run.skip ?_
   refine Run.seq ?_
   refine Run.sr ?_
   refine X.fl fld58_2 ?_
   refine X.ld shp56 ?_
   refine X.fl fld58_2 ?_
   refine X.ld shp56 ?_
   obtain ⟨v4, hv4, h⟩ := bindE h
   refine X.cp (w_eqLiteralS_pc _ _ _ hv4) ?_
   refine X.un (by rfl) (by rfl) (by rfl) ?_
   refine X.nil ?_
   refine R.cd (fun hc5 => ?_) (fun hc5 => ?_)
   ·replace h := condT hc5 h
    refine Run.sr ?_
    refine X.an ?_
    cases h
    refine R.f1 Try.results23 ?_
    rfl
   ·replace h := condF hc5 h
    refine Run.skip ?_
    refine Run.sr ?_
    refine X.an ?_
    cases h
    refine R.f1 Try.results23 ?_
    rfl
theorem w_eqLineS_pc (b0 : List TLine) (b1 : List TLine) (r : Bool) (h : w_eqLineS b0 b1 = some r) : PC Try.prog 10 [.slice (b0.map eTLine), .slice (b1.map eTLine)] (bool r) := by
 unfold w_eqLineS at h
 refine PC.start Try.func10 Try.ntmps10 rfl ok10 rfl ?_
 refine Run.sr ?_
 refine X.an ?_
 refine Run.seq ?_
 refine Run.sr ?_
 refine X.mv ?_
 refine X.ls elt26 ?_
 refine X.mv ?_
 refine X.ls elt26 ?_
 refine X.bi ?_
 refine X.nil ?_
 refine R.cd (fun hc1 => ?_) (fun hc1 => ?_)
 ·replace h := condT hc1 h
  refine Run.sr ?_
  refine X.an ?_
  cases h
  refine R.f1 Try.results10 ?_
  rfl
 ·replace h := condF hc1 h
  refine Run.skip ?_
  refine Run.seq ?_
  refine Run.sr ?_
  refine X.an ?_
  obtain ⟨o2, ho2, h⟩ := bindE h
  refine R.join2 (β := Unit) [] [] (fun p16 S => S) (fun p16 M => M) (fun p16 => (Sum.inl p16) = o2) ?_ ?_
  ·intro JJ5 hmeet4
   have hup3 := h; clear h; have h := ho2; clear ho2
   refine Run.block ?_
   refine R.bndS (t := 0) (by rfl) (fun hbd8 => ?_)
   replace hbd8 : b0.length ≤ 9223372036854775807 := by first | (rw [List.length_map] at hbd8; exact hbd8) | simp
   refine R.lp (β := Int) [(0, .slice (b0.map eTLine)), (1, .slice (b1.map eTLine))] [] (fun bb S => (5, int bb) :: S) (fun bb M => M) (fun n bb => 0 ≤ bb ∧ bb + n = (b0.length : Int) ∧ w_eqLineS_L1 b1 (b0.drop bb.toNat) bb = some o2) b0.length (0 : Int) ⟨Int.le_refl _, by simp, h⟩ ?_
   clear h
   rintro JJ8 n8 z9 hag8 ⟨hza8, hzb8, h⟩
   refine Run.seq ?_
   refine Run.sr ?_
   refine X.mv ?_
   refine X.mv ?_
   refine X.ls elt26 ?_
   refine X.bi ?_
   refine X.nil ?_
   refine R.cd (fun hc12 => ?_) (fun hc12 => ?_)
   ·obtain ⟨x10, xs11, hd8, hx8, hds8, hlt8⟩ := drop_atI hza8 hc12
    rw [hd8] at h
    rw [w_eqLineS_L1] at h
    refine Run.skip ?_
    refine Run.seq ?_
    refine Run.block ?_
    refine Run.seq ?_
    refine Run.draw (footOf []) mixed (by kernel_rfl) (by kernel_rfl) ?_
    refine X.mv ?_
    refine X.mv ?_
    refine X.ix elt26 (idxL_spec hx8).1 (idxL_map eTLine hx8) ?_
    refine X.lc shp58 ?_
    refine X.mv ?_
    refine X.mv ?_
    obtain ⟨v13, hv13, h⟩ := bindE h
    refine X.ix elt26 (idxL_spec hv13).1 (idxL_map eTLine hv13) ?_
    refine X.lc shp58 ?_
    obtain ⟨v14, hv14, h⟩ := bindE h
    refine X.cp (w_eqLine_pc _ _ _ hv14) ?_
    refine X.un (by rfl) (by rfl) (by rfl) ?_
    refine X.nil ?_
    refine R.cd (fun hc15 => ?_) (fun hc15 => ?_)
    ·replace h := condT hc15 h
     refine Run.sr ?_
     refine X.an ?_
     cases h
     have h := hup3
     replace h := elimR h
     cases h
     refine R.f1 Try.results10 ?_
     rfl
    ·replace h := condF hc15 h
     refine Run.skip ?_
     refine Run.blk ?_
     refine Run.reg ?_
     refine X.mv ?_
     refine X.ad ?_
     refine X.an ?_
     exact R.ag hag8 (n8 - 1) (z9 + 1) (R.n3 (by first | (rw [hds8]; exact h) | (dsimp only; rw [hds8]; exact h)))
   ·rw [drop_endI hza8 hc12] at h
    rw [w_eqLineS_L1] at h
    refine Run.exit (by rfl) ?_
    exact R.mt hmeet4 () (Option.some.inj h)
  rintro p16 rfl
  replace h := elimL h
  refine Run.sr ?_
  refine X.an ?_
  cases h
  refine R.f1 Try.results10 ?_
  rfl
theorem w_markLiteralS_k_pc (b0 : List TLiteral) (b1 : Int) (r : Int) (h : w_markLiteralS_k b0 b1 = some r) : PCM Try.prog 24 [.ysk 63 (.slice (b0.map eTLiteral)), int b1] [(63, .yreg true true)] (int r) [(63, .yreg true true)] := by
 unfold w_markLiteralS_k at h
 refine PCM.start Try.func24 Try.ntmps24 rfl ok24 rfl (by rfl) (by rfl) (by rfl) (by rfl) (by rfl) ?_
 refine Run.sr ?_
 refine X.an ?_
 refine Run.seq ?_
 refine Run.sr ?_
 refine X.an ?_
 obtain ⟨o1, ho1, h⟩ := bindE h
 refine R.join2 (β := Int) [] [(63, .yreg true true)] (fun p13 S => (1, int p13) :: S) (fun p13 M => M) (fun p13 => p13 = o1) ?_ ?_
 ·intro JJ4 hmeet3
  have hup2 := h; clear h; have h := ho1; clear ho1
  refine Run.block ?_
  refine R.bndY true 63 (t := 0) (by rfl) (fun hbd7 => ?_)
  replace hbd7 : b0.length ≤ 9223372036854775807 := by first | (rw [List.length_map] at hbd7; exact hbd7) | simp
  refine R.lp (β := Int × Int) [(0, .ysk 63 (.slice (b0.map eTLiteral)))] [(63, .yreg true true)] (fun bb S => (1, int bb.2) :: (5, int bb.1) :: S) (fun bb M => M) (fun n bb => 0 ≤ bb.1 ∧ bb.1 + n = (b0.length : Int) ∧ w_markLiteralS_k_L1 (b0.drop bb.1.toNat) bb.1 bb.2 = some o1) b0.length (0, b1) ⟨Int.le_refl _, by simp, h⟩ ?_
  clear h
  rintro JJ7 n7 ⟨z8, a9⟩ hag7 ⟨hza7, hzb7, h⟩
  dsimp only at hza7 hzb7 h
  refine Run.seq ?_
  refine Run.sr ?_
  refine X.mv ?_
  refine X.mv ?_
  refine X.lenY true 63 elt56 (by rfl) (by exact List.length_map ..) (by rfl) ?_
  refine X.bi ?_
  refine X.nil ?_
  refine R.cd (fun hc12 => ?_) (fun hc12 => ?_)
  ·obtain ⟨x10, xs11, hd7, hx7, hds7, hlt7⟩ := drop_atI hza7 hc12
   rw [hd7] at h
   rw [w_markLiteralS_k_L1] at h
   refine Run.skip ?_
   refine Run.seq ?_
   refine Run.block ?_
   refine Run.sr ?_
   refine X.mv ?_
   refine X.mv ?_
   refine X.mv ?_
   refine X.indexY true 63 elt56 (by rfl) (by rfl) (idxL_spec hx7).1 (idxL_map eTLiteral hx7) (by rfl) (by rfl) ?_
   refine X.fieldY true 63 fld62_0 (by rfl) (by rfl) ?_
   refine X.storeY 63 shp3 (by rfl) (by rfl) (by rfl) (by rfl) (by rfl) (by rfl) (by rfl) ?_
   refine X.nil ?_
   refine Run.sr ?_
   refine X.mv ?_
   refine X.addW (by rfl) (by rfl) (by rfl) ?_
   refine X.an ?_
   refine Run.sr ?_
   refine X.mv ?_
   refine X.mv ?_
   refine X.mv ?_
   refine X.indexY true 63 elt56 (by rfl) (by rfl) (idxL_spec hx7).1 (idxL_map eTLiteral hx7) (by rfl) (by rfl) ?_
   refine X.fieldY true 63 fld62_1 (by rfl) (by rfl) ?_
   refine X.storeY 63 shp3 (by rfl) (by rfl) (by rfl) (by rfl) (by rfl) (by rfl) (by rfl) ?_
   refine X.nil ?_
   refine Run.sr ?_
   refine X.mv ?_
   refine X.addW (by rfl) (by rfl) (by rfl) ?_
   refine X.an ?_
   refine Run.sr ?_
   refine X.mv ?_
   refine X.mv ?_
   refine X.mv ?_
   refine X.indexY true 63 elt56 (by rfl) (by rfl) (idxL_spec hx7).1 (idxL_map eTLiteral hx7) (by rfl) (by rfl) ?_
   refine X.fieldY true 63 fld62_2 (by rfl) (by rfl) ?_
   refine X.storeY 63 shp3 (by rfl) (by rfl) (by rfl) (by rfl) (by rfl) (by rfl) (by rfl) ?_
   refine X.nil ?_
   refine Run.reg ?_
   refine X.mv ?_
   refine X.addW (by rfl) (by rfl) (by rfl) ?_
   refine X.an ?_
   refine Run.blk ?_
   refine Run.reg ?_
   refine X.mv ?_
   refine X.ad ?_
   refine X.an ?_
   exact R.ag hag7 (n7 - 1) (z8 + 1, (W ((W ((W (a9 + 1)) + 1)) + 1))) (R.n3 (by first | (rw [hds7]; exact h) | (dsimp only; rw [hds7]; exact h)))
  ·rw [drop_endI hza7 hc12] at h
   rw [w_markLiteralS_k_L1] at h
   refine Run.exit (by rfl) ?_
   exact R.mt hmeet3 a9 (Option.some.inj h)
 rintro p13 rfl
 refine Run.sr ?_
 refine X.mv ?_
 refine X.an ?_
 cases h
 exact R.finM1 Try.results24 (by rfl) (by rfl) (by repeat (first | exact trivial | refine ⟨by rfl, ?_⟩)) rfl
theorem w_markLineS_k_pc (b0 : List TLine) (b1 : Int) (r : Int) (h : w_markLineS_k b0 b1 = some r) : PCM Try.prog 11 [.ysk 63 (.slice (b0.map eTLine)), int b1] [(63, .yreg true true)] (int r) [(63, .yreg true true)] := by
 unfold w_markLineS_k at h
 refine PCM.start Try.func11 Try.ntmps11 rfl ok11 rfl (by rfl) (by rfl) (by rfl) (by rfl) (by rfl) ?_
 refine Run.sr ?_
 refine X.an ?_
 refine Run.seq ?_
 refine Run.sr ?_
 refine X.an ?_
 obtain ⟨o1, ho1, h⟩ := bindE h
 refine R.join2 (β := Int) [] [(63, .yreg true true)] (fun p14 S => (1, int p14) :: S) (fun p14 M => M) (fun p14 => p14 = o1) ?_ ?_
 ·intro JJ4 hmeet3
  have hup2 := h; clear h; have h := ho1; clear ho1
  refine Run.block ?_
  refine R.bndY true 63 (t := 0) (by rfl) (fun hbd7 => ?_)
  replace hbd7 : b0.length ≤ 9223372036854775807 := by first | (rw [List.length_map] at hbd7; exact hbd7) | simp
  refine R.lp (β := Int × Int) [(0, .ysk 63 (.slice (b0.map eTLine)))] [(63, .yreg true true)] (fun bb S => (1, int bb.2) :: (5, int bb.1) :: S) (fun bb M => M) (fun n bb => 0 ≤ bb.1 ∧ bb.1 + n = (b0.length : Int) ∧ w_markLineS_k_L1 (b0.drop bb.1.toNat) bb.1 bb.2 = some o1) b0.length (0, b1) ⟨Int.le_refl _, by simp, h⟩ ?_
  clear h
  rintro JJ7 n7 ⟨z8, a9⟩ hag7 ⟨hza7, hzb7, h⟩
  dsimp only at hza7 hzb7 h
  refine Run.seq ?_
  refine Run.sr ?_
  refine X.mv ?_
  refine X.mv ?_
  refine X.lenY true 63 elt26 (by rfl) (by exact List.length_map ..) (by rfl) ?_
  refine X.bi ?_
  refine X.nil ?_
  refine R.cd (fun hc12 => ?_) (fun hc12 => ?_)
  ·obtain ⟨x10, xs11, hd7, hx7, hds7, hlt7⟩ := drop_atI hza7 hc12
   rw [hd7] at h
   rw [w_markLineS_k_L1] at h
   refine Run.skip ?_
   refine Run.seq ?_
   refine Run.block ?_
   refine Run.sr ?_
   refine X.mv ?_
   refine X.mv ?_
   refine X.mv ?_
   refine X.indexY true 63 elt26 (by rfl) (by rfl) (idxL_spec hx7).1 (idxL_map eTLine hx7) (by rfl) (by rfl) ?_
   refine X.fieldY true 63 fld58_0 (by rfl) (by rfl) ?_
   refine X.storeY 63 shp3 (by rfl) (by rfl) (by rfl) (by rfl) (by rfl) (by rfl) (by rfl) ?_
   refine X.nil ?_
   refine Run.sr ?_
   refine X.mv ?_
   refine X.addW (by rfl) (by rfl) (by rfl) ?_
   refine X.an ?_
   refine Run.sr ?_
   refine X.mv ?_
   refine X.mv ?_
   refine X.mv ?_
   refine X.indexY true 63 elt26 (by rfl) (by rfl) (idxL_spec hx7).1 (idxL_map eTLine hx7) (by rfl) (by rfl) ?_
   refine X.fieldY true 63 fld58_1 (by rfl) (by rfl) ?_
   refine X.fieldY true 63 fld55_0 (by rfl) (by rfl) ?_
   refine X.storeY 63 shp3 (by rfl) (by rfl) (by rfl) (by rfl) (by rfl) (by rfl) (by rfl) ?_
   refine X.nil ?_
   refine Run.sr ?_
   refine X.mv ?_
   refine X.addW (by rfl) (by rfl) (by rfl) ?_
   refine X.an ?_
   refine Run.sr ?_
   refine X.mv ?_
   refine X.mv ?_
   refine X.mv ?_
   refine X.indexY true 63 elt26 (by rfl) (by rfl) (idxL_spec hx7).1 (idxL_map eTLine hx7) (by rfl) (by rfl) ?_
   refine X.fieldY true 63 fld58_1 (by rfl) (by rfl) ?_
   refine X.fieldY true 63 fld55_1 (by rfl) (by rfl) ?_
   refine X.storeY 63 shp3 (by rfl) (by rfl) (by rfl) (by rfl) (by rfl) (by rfl) (by rfl) ?_
   refine X.nil ?_
   refine Run.sr ?_
   refine X.mv ?_
   refine X.addW (by rfl) (by rfl) (by rfl) ?_
   refine X.an ?_
   refine Run.sr ?_
   refine X.mv ?_
   refine X.mv ?_
   refine X.mv ?_
   refine X.indexY true 63 elt26 (by rfl) (by rfl) (idxL_spec hx7).1 (idxL_map eTLine hx7) (by rfl) (by rfl) ?_
   refine X.fieldY true 63 fld58_1 (by rfl) (by rfl) ?_
   refine X.fieldY true 63 fld55_2 (by rfl) (by rfl) ?_
   refine X.storeY 63 shp3 (by rfl) (by rfl) (by rfl) (by rfl) (by rfl) (by rfl) (by rfl) ?_
   refine X.nil ?_
   refine Run.sr ?_
   refine X.mv ?_
   refine X.addW (by rfl) (by rfl) (by rfl) ?_
   refine X.an ?_
   refine Run.sr ?_
   refine X.mv ?_
   refine X.mv ?_
   refine X.mv ?_
   refine X.indexY true 63 elt26 (by rfl) (by rfl) (idxL_spec hx7).1 (idxL_map eTLine hx7) (by rfl) (by rfl) ?_
   refine X.fieldY true 63 fld58_1 (by rfl) (by rfl) ?_
   refine X.fieldY true 63 fld55_3 (by rfl) (by rfl) ?_
   refine X.storeY 63 shp3 (by rfl) (by rfl) (by rfl) (by rfl) (by rfl) (by rfl) (by rfl) ?_
   refine X.nil ?_
   refine Run.sr ?_
   refine X.mv ?_
   refine X.addW (by rfl) (by rfl) (by rfl) ?_
   refine X.an ?_
   refine Run.reg ?_
   refine X.mv ?_
   refine X.mv ?_
   refine X.indexY true 63 elt26 (by rfl) (by rfl) (idxL_spec hx7).1 (idxL_map eTLine hx7) (by rfl) (by rfl) ?_
   refine X.fieldY true 63 fld58_2 (by rfl) (by rfl) ?_
   refine X.loadY true 63 shp56 (by rfl) (by rfl) (by rfl) (by rfl) ?_
   refine X.mv ?_
   obtain ⟨v13, hv13, h⟩ := bindE h
   refine X.callM [(63, 63)] (w_markLiteralS_k_pc _ _ _ hv13) (by rfl) (by rfl) (.yskB 63 (by rfl) (by rfl) (.pureB (by rfl) (by repeat (first | trivial | refine ⟨by first | rfl | simp [setL], ?_⟩)) .nil)) (by rfl) ⟨rfl, rfl, ⟨_, by rfl, by constructor⟩, by constructor, trivial⟩ (by rfl) (by rfl) (by rfl) (by rfl) (by rfl) (by rfl) (by rfl) (by rfl) (by rfl) ?_
   refine X.an ?_
   refine Run.blk ?_
   refine Run.reg ?_
   refine X.mv ?_
   refine X.ad ?_
   refine X.an ?_
   exact R.ag hag7 (n7 - 1) (z8 + 1, v13) (R.n3 (by first | (rw [hds7]; exact h) | (dsimp only; rw [hds7]; exact h)))
  ·rw [drop_endI hza7 hc12] at h
   rw [w_markLineS_k_L1] at h
   refine Run.exit (by rfl) ?_
   exact R.mt hmeet3 a9 (Option.some.inj h)
 rintro p14 rfl
 refine Run.sr ?_
 refine X.mv ?_
 refine X.an ?_
 cases h
 exact R.finM1 Try.results11 (by rfl) (by rfl) (by repeat (first | exact trivial | refine ⟨by rfl, ?_⟩)) rfl
theorem w_markLiteralS_pc (b0 : List TLiteral) (b1 : Int) (r : Int × (List TLiteral)) (h : w_markLiteralS b0 b1 = some r) : PCM Try.prog 24 [.own 63 (b0.map eTLiteral).length, int b1] [(63, .obj true 62 3 (b0.map eTLiteral))] (int r.1) [(63, .obj true 62 3 (r.2.map eTLiteral))] := by
 unfold w_markLiteralS at h
 refine PCM.start Try.func24 Try.ntmps24 rfl ok24 rfl (by rfl) (by rfl) (by rfl) (by rfl) (by rfl) ?_
 refine Run.sr ?_
 refine X.an ?_
 refine Run.seq ?_
 refine Run.sr ?_
 refine X.an ?_
 obtain ⟨o1, ho1, h⟩ := bindE h
 refine R.join2 (β := Int × (List TLiteral)) [] [] (fun p16 S => (1, int p16.1) :: S) (fun p16 M => (63, .obj true 62 3 (p16.2.map eTLiteral)) :: M) (fun p16 => p16 = o1) ?_ ?_
 ·intro JJ4 hmeet3
  have hup2 := h; clear h; have h := ho1; clear ho1
  refine Run.block ?_
  refine R.lp (β := Int × Int × (List TLiteral)) [] [] (fun bb S => (0, .own 63 (bb.2.2.map eTLiteral).length) :: (1, int bb.1) :: (5, int bb.2.1) :: S) (fun bb M => (63, .obj true 62 3 (bb.2.2.map eTLiteral)) :: M) (fun n bb => w_markLiteralS_L1 n bb.1 bb.2.1 bb.2.2 = some o1) F0 (b1, 0, b0) h ?_
  clear h
  rintro JJ5 n5 ⟨a7, a8, a9⟩ hag5 h
  dsimp only at h
  obtain _ | n5 := n5
  ·exact absurd h (by simp [w_markLiteralS_L1])
  rw [w_markLiteralS_L1] at h
  refine Run.seq ?_
  refine Run.sr ?_
  refine X.mv ?_
  refine X.mv ?_
  refine X.len_o elt56 (by rfl) (by rfl) (by first | rfl | simp [setL] | omega) (by first | exact List.length_map .. | rfl) (by rfl) (by rfl) ?_
  refine X.bi ?_
  refine X.nil ?_
  refine R.cd (fun hc12 => ?_) (fun hc12 => ?_)
  ·replace h := condT hc12 h
   refine Run.skip ?_
   refine Run.seq ?_
   refine Run.block ?_
   refine Run.sr ?_
   refine X.mv ?_
   refine X.mv ?_
   refine X.mv ?_
   obtain ⟨v13, hv13, h⟩ := bindE h
   refine X.index_xs elt56 (by rfl) (by rfl) (by first | rfl | simp [setL] | omega) (by rfl) (by exact (Int.toNat_of_nonneg (idxL_spec hv13).1).symm) (by have := idxL_lt hv13; first | exact this | (rw [List.length_map]; exact this)) (by rfl) (by rfl) ?_
   refine X.fieldAddr_es fld62_0 (by rfl) (by rfl) (by first | rfl | simp [setL] | omega) (by rfl) (by rfl) ?_
   refine X.store_es shp3 (by rfl) (by rfl) (by first | rfl | simp [setL] | omega) (idxL_map _ hv13) (by rfl) (by rfl) (by repeat (first | trivial | refine ⟨by first | rfl | simp [setL], ?_⟩)) (by rfl) (by rfl) (by rfl) (by rfl) (by exact setL_map _ _ _ (TLiteral.mk a7 v13.Activity v13.Value)) ?_
   refine X.nil ?_
   refine Run.sr ?_
   refine X.mv ?_
   refine X.addW (by rfl) (by rfl) (by rfl) ?_
   refine X.an ?_
   refine Run.sr ?_
   refine X.mv ?_
   refine X.mv ?_
   refine X.mv ?_
   obtain ⟨v14, hv14, h⟩ := bindE h
   refine X.index_xs elt56 (by rfl) (by rfl) (by first | rfl | simp [setL] | omega) (by rfl) (by exact (Int.toNat_of_nonneg (idxL_spec hv14).1).symm) (by have := idxL_lt hv14; first | exact this | (rw [List.length_map]; exact this)) (by rfl) (by rfl) ?_
   refine X.fieldAddr_es fld62_1 (by rfl) (by rfl) (by first | rfl | simp [setL] | omega) (by rfl) (by rfl) ?_
   refine X.store_es shp3 (by rfl) (by rfl) (by first | rfl | simp [setL] | omega) (idxL_map _ hv14) (by rfl) (by rfl) (by repeat (first | trivial | refine ⟨by first | rfl | simp [setL], ?_⟩)) (by rfl) (by rfl) (by rfl) (by rfl) (by exact setL_map _ _ _ (TLiteral.mk v14.Kind (W (a7 + 1)) v14.Value)) ?_
   refine X.nil ?_
   refine Run.sr ?_
   refine X.mv ?_
   refine X.addW (by rfl) (by rfl) (by rfl) ?_
   refine X.an ?_
   refine Run.sr ?_
   refine X.mv ?_
   refine X.mv ?_
   refine X.mv ?_
   obtain ⟨v15, hv15, h⟩ := bindE h
   refine X.index_xs elt56 (by rfl) (by rfl) (by first | rfl | simp [setL] | omega) (by rfl) (by exact (Int.toNat_of_nonneg (idxL_spec hv15).1).symm) (by have := idxL_lt hv15; first | exact this | (rw [List.length_map]; exact this)) (by rfl) (by rfl) ?_
   refine X.fieldAddr_es fld62_2 (by rfl) (by rfl) (by first | rfl | simp [setL] | omega) (by rfl) (by rfl) ?_
   refine X.store_es shp3 (by rfl) (by rfl) (by first | rfl | simp [setL] | omega) (idxL_map _ hv15) (by rfl) (by rfl) (by repeat (first | trivial | refine ⟨by first | rfl | simp [setL], ?_⟩)) (by rfl) (by rfl) (by rfl) (by rfl) (by exact setL_map _ _ _ (TLiteral.mk v15.Kind v15.Activity (W ((W (a7 + 1)) + 1)))) ?_
   refine X.nil ?_
   refine Run.reg ?_
   refine X.mv ?_
   refine X.addW (by rfl) (by rfl) (by rfl) ?_
   refine X.an ?_
   refine Run.blk ?_
   refine Run.reg ?_
   refine X.mv ?_
   refine X.addW (by rfl) (by rfl) (by rfl) ?_
   refine X.an ?_
   refine R.castS (t := 0) (.own 63 ((setL (setL (setL a9 a8 (TLiteral.mk a7 v13.Activity v13.Value)) a8 (TLiteral.mk v14.Kind (W (a7 + 1)) v14.Value)) a8 (TLiteral.mk v15.Kind v15.Activity (W ((W (a7 + 1)) + 1)))).map eTLiteral).length) (by rfl) (.inl (by first | rfl | simp [setL])) ?_
   exact hag5 n5 ((W ((W ((W (a7 + 1)) + 1)) + 1)), (W (a8 + 1)), (setL (setL (setL a9 a8 (TLiteral.mk a7 v13.Activity v13.Value)) a8 (TLiteral.mk v14.Kind (W (a7 + 1)) v14.Value)) a8 (TLiteral.mk v15.Kind v15.Activity (W ((W (a7 + 1)) + 1))))) _ _ (by omega) h (by repeat (first | trivial | refine ⟨by first | rfl | simp [setL], ?_⟩)) (by repeat (first | trivial | refine ⟨by first | rfl | simp [setL], ?_⟩)) (by rfl) (by rfl)
  ·replace h := condF hc12 h
   refine Run.exit (by rfl) ?_
   exact R.mt hmeet3 (a7, a9) (Option.some.inj h)
 rintro p16 rfl
 refine Run.sr ?_
 refine X.mv ?_
 refine X.an ?_
 cases h
 exact R.finM1 Try.results24 (by rfl) (by rfl) (by repeat (first | exact trivial | refine ⟨by rfl, ?_⟩)) rfl
theorem w_markLiteralSS_pc (b0 : List (List TLiteral)) (b1 : Int) (r : Int × (List (List TLiteral))) (h : w_markLiteralSS b0 b1 = some r) : PCM Try.prog 12 [.tref 63 (b0.map t_eTLiteral).length .out, int b1] [(63, .tre 56 1 (b0.map t_eTLiteral))] (int r.1) [(63, .tre 56 1 (r.2.map t_eTLiteral))] := by
 unfold w_markLiteralSS at h
 refine PCM.start Try.func12 Try.ntmps12 rfl ok12 rfl (by rfl) (by rfl) (by rfl) (by rfl) (by rfl) ?_
 refine Run.sr ?_
 refine X.an ?_
 refine Run.seq ?_
 refine Run.sr ?_
 refine X.an ?_
 obtain ⟨o1, ho1, h⟩ := bindE h
 refine R.join2 (β := Int × (List (List TLiteral))) [] [] (fun p15 S => (1, int p15.1) :: S) (fun p15 M => (63, .tre 56 1 (p15.2.map t_eTLiteral)) :: M) (fun p15 => p15 = o1) ?_ ?_
 ·intro JJ4 hmeet3
  have hup2 := h; clear h; have h := ho1; clear ho1
  refine Run.block ?_
  refine R.lp (β := Int × Int × (List (List TLiteral))) [] [] (fun bb S => (0, .tref 63 (bb.2.2.map t_eTLiteral).length .out) :: (1, int bb.1) :: (5, int bb.2.1) :: S) (fun bb M => (63, .tre 56 1 (bb.2.2.map t_eTLiteral)) :: M) (fun n bb => w_markLiteralSS_L1 n bb.1 bb.2.1 bb.2.2 = some o1) F0 (b1, 0, b0) h ?_
  clear h
  rintro JJ5 n5 ⟨a7, a8, a9⟩ hag5 h
  dsimp only at h
  obtain _ | n5 := n5
  ·exact absurd h (by simp [w_markLiteralSS_L1])
  rw [w_markLiteralSS_L1] at h
  refine Run.seq ?_
  refine Run.sr ?_
  refine X.mv ?_
  refine X.mv ?_
  refine X.lenT (z := (a9.length : Int)) elt24 (by rfl) (by rfl) (by first | rfl | simp [setL] | omega) (by simp) (by rfl) (by rfl) ?_
  refine X.bi ?_
  refine X.nil ?_
  refine R.cd (fun hc12 => ?_) (fun hc12 => ?_)
  ·replace h := condT hc12 h
   refine Run.skip ?_
   refine Run.seq ?_
   refine Run.block ?_
   refine Run.region ?_
   refine Run.mvo ?_
   refine Run.mvo ?_
   obtain ⟨v13, hv13, h⟩ := bindE h
   refine Run.idxT (m := (a8).toNat) elt24 (by rfl) (by rfl) (by first | rfl | simp [setL] | omega) (by rfl) ⟨(idxL_spec hv13).1, by have h0 := (idxL_spec hv13).1; have h1 := idxL_lt hv13; rw [List.length_map]; dsimp only; omega⟩ rfl (by rfl) ?_
   refine Run.ldT shp56 (by rfl) (by rfl) (by first | rfl | simp [setL] | omega) rfl (flat_at2 (by exact cells_map (f := t_eTLiteral) (fun _ => rfl)) (idxL_map t_eTLiteral hv13) (by rfl)) (by rfl) ?_
   refine Run.mvo ?_
   obtain ⟨v14, hv14, h⟩ := bindE h
   refine Run.callRow (l2 := (setL a9 a8 v14.2).map t_eTLiteral) (w_markLiteralS_pc _ _ _ hv14) (by rfl) rfl (by rfl) (by rfl) (by rfl) (by rfl) (by first | rfl | simp [setL] | omega) (flat_at2 (by exact cells_map (f := t_eTLiteral) (fun _ => rfl)) (idxL_map t_eTLiteral hv13) (by rfl)) (flat_lit _ (fun _ => (by repeat (first | exact trivial | refine ⟨trivial, ?_⟩)))) (by rfl) (by simp [setL]) (by exact cells_map (f := t_eTLiteral) (fun _ => rfl)) (by rw [← setL_map]; exact flat_setC (by exact cells_map (f := t_eTLiteral) (fun _ => rfl)) (idxL_map t_eTLiteral hv13) (by rfl) (by decide)) (by rfl) ?_
   refine Run.aso ?_
   refine Run.nil ?_
   refine Run.blk ?_
   refine Run.reg ?_
   refine X.mv ?_
   refine X.addW (by rfl) (by rfl) (by rfl) ?_
   refine X.an ?_
   refine R.castS (t := 0) (.tref 63 ((setL a9 a8 v14.2).map t_eTLiteral).length .out) (by rfl) (.inl (by first | rfl | simp [setL])) ?_
   exact hag5 n5 (v14.1, (W (a8 + 1)), (setL a9 a8 v14.2)) _ _ (by omega) h (by repeat (first | trivial | refine ⟨by first | rfl | simp [setL], ?_⟩)) (by repeat (first | trivial | refine ⟨by first | rfl | simp [setL], ?_⟩)) (by rfl) (by rfl)
  ·replace h := condF hc12 h
   refine Run.exit (by rfl) ?_
   exact R.mt hmeet3 (a7, a9) (Option.some.inj h)
 rintro p15 rfl
 refine Run.sr ?_
 refine X.mv ?_
 refine X.an ?_
 cases h
 exact R.finM1 Try.results12 (by rfl) (by rfl) (by repeat (first | exact trivial | refine ⟨by rfl, ?_⟩)) rfl
theorem w_heldLiteralS_pc (b0 : List TLiteral) (b1 : Int) (r : Int) (h : w_heldLiteralS b0 b1 = some r) : PC Try.prog 25 [.slice (b0.map eTLiteral), int b1] (int r) := by
 unfold w_heldLiteralS at h
 refine PC.start Try.func25 Try.ntmps25 rfl ok25 rfl ?_
 refine Run.sr ?_
 refine X.an ?_
 refine Run.seq ?_
 refine Run.sr ?_
 refine X.an ?_
 obtain ⟨o1, ho1, h⟩ := bindE h
 refine R.join2 (β := Int) [] [] (fun p16 S => (1, int p16) :: S) (fun p16 M => M) (fun p16 => (Sum.inl p16) = o1) ?_ ?_
 ·intro JJ4 hmeet3
  have hup2 := h; clear h; have h := ho1; clear ho1
  refine Run.block ?_
  refine R.bndS (t := 0) (by rfl) (fun hbd7 => ?_)
  replace hbd7 : b0.length ≤ 9223372036854775807 := by first | (rw [List.length_map] at hbd7; exact hbd7) | simp
  refine R.lp (β := Int × Int) [(0, .slice (b0.map eTLiteral))] [] (fun bb S => (1, int bb.2) :: (5, int bb.1) :: S) (fun bb M => M) (fun n bb => 0 ≤ bb.1 ∧ bb.1 + n = (b0.length : Int) ∧ w_heldLiteralS_L1 (b0.drop bb.1.toNat) bb.1 bb.2 = some o1) b0.length (0, b1) ⟨Int.le_refl _, by simp, h⟩ ?_
  clear h
  rintro JJ7 n7 ⟨z8, a9⟩ hag7 ⟨hza7, hzb7, h⟩
  dsimp only at hza7 hzb7 h
  refine Run.seq ?_
  refine Run.sr ?_
  refine X.mv ?_
  refine X.mv ?_
  refine X.ls elt56 ?_
  refine X.bi ?_
  refine X.nil ?_
  refine R.cd (fun hc12 => ?_) (fun hc12 => ?_)
  ·obtain ⟨x10, xs11, hd7, hx7, hds7, hlt7⟩ := drop_atI hza7 hc12
   rw [hd7] at h
   rw [w_heldLiteralS_L1] at h
   refine Run.skip ?_
   refine Run.seq ?_
   refine Run.block ?_
   refine Run.seq ?_
   refine Run.sr ?_
   refine X.mv ?_
   refine X.mv ?_
   refine X.ix elt56 (idxL_spec hx7).1 (idxL_map eTLiteral hx7) ?_
   refine X.fieldAddr_c fld62_0 (by rfl) (by rfl) ?_
   refine X.lc shp3 ?_
   refine X.mv ?_
   refine X.bi ?_
   refine X.nil ?_
   refine R.cd (fun hc13 => ?_) (fun hc13 => ?_)
   ·replace h := condT hc13 h
    refine Run.sr ?_
    refine X.an ?_
    cases h
    have h := hup2
    replace h := elimR h
    cases h
    refine R.f1 Try.results25 ?_
    rfl
   ·replace h := condF hc13 h
    refine Run.skip ?_
    refine Run.sr ?_
    refine X.mv ?_
    refine X.addW (by rfl) (by rfl) (by rfl) ?_
    refine X.an ?_
    refine Run.seq ?_
    refine Run.sr ?_
    refine X.mv ?_
    refine X.mv ?_
    refine X.ix elt56 (idxL_spec hx7).1 (idxL_map eTLiteral hx7) ?_
    refine X.fieldAddr_c fld62_1 (by rfl) (by rfl) ?_
    refine X.lc shp3 ?_
    refine X.mv ?_
    refine X.bi ?_
    refine X.nil ?_
    refine R.cd (fun hc14 => ?_) (fun hc14 => ?_)
    ·replace h := condT hc14 h
     refine Run.sr ?_
     refine X.an ?_
     cases h
     have h := hup2
     replace h := elimR h
     cases h
     refine R.f1 Try.results25 ?_
     rfl
    ·replace h := condF hc14 h
     refine Run.skip ?_
     refine Run.sr ?_
     refine X.mv ?_
     refine X.addW (by rfl) (by rfl) (by rfl) ?_
     refine X.an ?_
     refine Run.seq ?_
     refine Run.sr ?_
     refine X.mv ?_
     refine X.mv ?_
     refine X.ix elt56 (idxL_spec hx7).1 (idxL_map eTLiteral hx7) ?_
     refine X.fieldAddr_c fld62_2 (by rfl) (by rfl) ?_
     refine X.lc shp3 ?_
     refine X.mv ?_
     refine X.bi ?_
     refine X.nil ?_
     refine R.cd (fun hc15 => ?_) (fun hc15 => ?_)
     ·replace h := condT hc15 h
      refine Run.sr ?_
      refine X.an ?_
      cases h
      have h := hup2
      replace h := elimR h
      cases h
      refine R.f1 Try.results25 ?_
      rfl
     ·replace h := condF hc15 h
      refine Run.skip ?_
      refine Run.reg ?_
      refine X.mv ?_
      refine X.addW (by rfl) (by rfl) (by rfl) ?_
      refine X.an ?_
      refine Run.blk ?_
      refine Run.reg ?_
      refine X.mv ?_
      refine X.ad ?_
      refine X.an ?_
      exact R.ag hag7 (n7 - 1) (z8 + 1, (W ((W ((W (a9 + 1)) + 1)) + 1))) (R.n3 (by first | (rw [hds7]; exact h) | (dsimp only; rw [hds7]; exact h)))
  ·rw [drop_endI hza7 hc12] at h
   rw [w_heldLiteralS_L1] at h
   refine Run.exit (by rfl) ?_
   exact R.mt hmeet3 a9 (Option.some.inj h)
 rintro p16 rfl
 replace h := elimL h
 refine Run.sr ?_
 refine X.mv ?_
 refine X.an ?_
 cases h
 refine R.f1 Try.results25 ?_
 rfl
theorem w_heldLiteralSS_pc (b0 : List (List TLiteral)) (b1 : Int) (r : Int) (h : w_heldLiteralSS b0 b1 = some r) : PC Try.prog 13 [.slice (b0.map l_eTLiteral), int b1] (int r) := by
 unfold w_heldLiteralSS at h
 refine PC.start Try.func13 Try.ntmps13 rfl ok13 rfl ?_
 refine Run.sr ?_
 refine X.an ?_
 refine Run.seq ?_
 refine Run.sr ?_
 refine X.an ?_
 obtain ⟨o1, ho1, h⟩ := bindE h
 refine R.join2 (β := Int) [] [] (fun p15 S => (1, int p15) :: S) (fun p15 M => M) (fun p15 => (Sum.inl p15) = o1) ?_ ?_
 ·intro JJ4 hmeet3
  have hup2 := h; clear h; have h := ho1; clear ho1
  refine Run.block ?_
  refine R.bndS (t := 0) (by rfl) (fun hbd7 => ?_)
  replace hbd7 : b0.length ≤ 9223372036854775807 := by first | (rw [List.length_map] at hbd7; exact hbd7) | simp
  refine R.lp (β := Int × Int) [(0, .slice (b0.map l_eTLiteral))] [] (fun bb S => (1, int bb.2) :: (5, int bb.1) :: S) (fun bb M => M) (fun n bb => 0 ≤ bb.1 ∧ bb.1 + n = (b0.length : Int) ∧ w_heldLiteralSS_L1 (b0.drop bb.1.toNat) bb.1 bb.2 = some o1) b0.length (0, b1) ⟨Int.le_refl _, by simp, h⟩ ?_
  clear h
  rintro JJ7 n7 ⟨z8, a9⟩ hag7 ⟨hza7, hzb7, h⟩
  dsimp only at hza7 hzb7 h
  refine Run.seq ?_
  refine Run.sr ?_
  refine X.mv ?_
  refine X.mv ?_
  refine X.ls elt24 ?_
  refine X.bi ?_
  refine X.nil ?_
  refine R.cd (fun hc12 => ?_) (fun hc12 => ?_)
  ·obtain ⟨x10, xs11, hd7, hx7, hds7, hlt7⟩ := drop_atI hza7 hc12
   rw [hd7] at h
   rw [w_heldLiteralSS_L1] at h
   refine Run.skip ?_
   refine Run.seq ?_
   refine Run.block ?_
   refine Run.sr ?_
   refine X.mv ?_
   refine X.mv ?_
   refine X.ix elt24 (idxL_spec hx7).1 (idxL_map l_eTLiteral hx7) ?_
   refine X.lc shp56 ?_
   refine X.mv ?_
   obtain ⟨v13, hv13, h⟩ := bindE h
   refine X.cp (w_heldLiteralS_pc _ _ _ hv13) ?_
   refine X.an ?_
   refine Run.sr ?_
   refine X.mv ?_
   refine X.bi ?_
   refine X.nil ?_
   refine R.cd (fun hc14 => ?_) (fun hc14 => ?_)
   ·replace h := condT hc14 h
    refine Run.sr ?_
    refine X.an ?_
    cases h
    have h := hup2
    replace h := elimR h
    cases h
    refine R.f1 Try.results13 ?_
    rfl
   ·replace h := condF hc14 h
    refine Run.skip ?_
    refine Run.blk ?_
    refine Run.reg ?_
    refine X.mv ?_
    refine X.ad ?_
    refine X.an ?_
    exact R.ag hag7 (n7 - 1) (z8 + 1, v13) (R.n3 (by first | (rw [hds7]; exact h) | (dsimp only; rw [hds7]; exact h)))
  ·rw [drop_endI hza7 hc12] at h
   rw [w_heldLiteralSS_L1] at h
   refine Run.exit (by rfl) ?_
   exact R.mt hmeet3 a9 (Option.some.inj h)
 rintro p15 rfl
 replace h := elimL h
 refine Run.sr ?_
 refine X.mv ?_
 refine X.an ?_
 cases h
 refine R.f1 Try.results13 ?_
 rfl
theorem w_FnExactClauses_pc (b0 : List TLine) (r : Bool) (h : w_FnExactClauses b0 = some r) : PC Try.prog 3 [.slice (b0.map eTLine)] (bool r) := by
 unfold w_FnExactClauses at h
 refine PC.start Try.func3 Try.ntmps3 rfl ok3 rfl ?_
 refine Run.sr ?_
 refine X.an ?_
 refine Run.sr ?_
 refine X.an ?_
 refine Run.sr ?_
 refine X.mv ?_
 refine X.mv ?_
 obtain ⟨v1, hv1, h⟩ := bindE h
 refine X.cp (w_szLineS_pc _ _ _ hv1) ?_
 refine X.an ?_
 refine Run.seq ?_
 refine Run.sr ?_
 refine X.mv ?_
 refine X.bi ?_
 refine X.nil ?_
 refine R.cd (fun hc2 => ?_) (fun hc2 => ?_)
 ·replace h := condT hc2 h
  refine Run.sr ?_
  refine X.an ?_
  cases h
  refine R.f1 Try.results3 ?_
  rfl
 ·replace h := condF hc2 h
  refine Run.skip ?_
  refine Run.sr ?_
  refine X.mv ?_
  obtain ⟨v3, hv3, h⟩ := bindE h
  refine X.callF (PC.ofY (ps := [.slice (b0.map eTLine)]) (w_toLineS_pc _ _ hv3) (by rfl) (by rfl)) (by rfl) (by rfl) (by rfl) (by trivial) (by rfl) (by rfl) (by rfl) (by rfl) ?_
  obtain ⟨v4, hv4, h⟩ := bindE h
  refine X.callF (s_Clauses_pc _ _ hv4) (by rfl) (by rfl) (by rfl) (by repeat (first | trivial | refine ⟨by first | rfl | simp [setL], ?_⟩)) (by rfl) (by rfl) (by rfl) (by rfl) ?_
  refine X.an ?_
  refine Run.sr ?_
  refine X.mv ?_
  obtain ⟨v5, hv5, h⟩ := bindE h
  refine X.callY (w_toLineS_pc _ _ hv5) (by rfl) (by rfl) (by rfl) (by trivial) (by rfl) (by rfl) (by rfl) (by rfl) (by rfl) (by rfl) (by rfl) ?_
  refine X.an ?_
  refine Run.sr ?_
  refine X.mv ?_
  obtain ⟨v6, hv6, h⟩ := bindE h
  refine X.callM [(63, 1280)] (PC.lend (M0 := [(63, .yreg false false)]) (i_Clauses_pc _ _ hv6) (.tre _ _ _) (by rfl) (.yng 63 _ _ _ _ (by rfl) .nil)) (by rfl) (by rfl) (.yngB 63 (by rfl) (by rfl) .nil) (by rfl) ⟨rfl, rfl, ⟨_, by rfl, by constructor⟩, by constructor, trivial⟩ (by rfl) (by rfl) (by rfl) (by rfl) (by rfl) (by rfl) (by rfl) (by rfl) (by rfl) ?_
  refine X.an ?_
  refine Run.seq ?_
  refine Run.sr ?_
  refine X.mv ?_
  refine X.mv ?_
  obtain ⟨v7, hv7, h⟩ := bindE h
  refine X.callM [(63, 1408)] (PC.lend (M0 := [(63, .tre 56 1 (v6.map t_eTLiteral))]) (w_eqLiteralSS_pc _ _ _ hv7) (.lit _) (by rfl) (.tref 63 _ _ _ _ _ _ _ (by rfl) (by first | rfl | simp [setL] | omega) (by rw [List.map_map]; rfl) (.same _ _ _ (by rfl) .nil))) (by rfl) (by rfl) (.trefB 63 (by rfl) (by rfl) (.pureB (by rfl) (by repeat (first | trivial | refine ⟨by first | rfl | simp [setL], ?_⟩)) .nil)) (by rfl) ⟨rfl, rfl, ⟨_, by rfl, by constructor⟩, .tre _ _ _ _ (shapeT_refl _), trivial⟩ (by rfl) (by rfl) (by rfl) (by rfl) (by rfl) (by rfl) (by rfl) (by rfl) (by rfl) ?_
  refine X.un (by rfl) (by rfl) (by rfl) ?_
  refine X.nil ?_
  refine R.cd (fun hc8 => ?_) (fun hc8 => ?_)
  ·replace h := condT hc8 h
   refine Run.sr ?_
   refine X.an ?_
   cases h
   refine R.f1 Try.results3 ?_
   rfl
  ·replace h := condF hc8 h
   refine Run.skip ?_
   refine Run.seq ?_
   refine Run.sr ?_
   refine X.mv ?_
   refine X.mv ?_
   obtain ⟨v9, hv9, h⟩ := bindE h
   refine X.callF (PC.ofY (ps := [.slice (b0.map eTLine)]) (w_toLineS_pc _ _ hv9) (by rfl) (by rfl)) (by rfl) (by rfl) (by rfl) (by trivial) (by rfl) (by rfl) (by rfl) (by rfl) ?_
   obtain ⟨v10, hv10, h⟩ := bindE h
   refine X.callM [(63, 1280)] (PC.lend (M0 := [(63, .yreg false false)]) (w_eqLineS_pc _ _ _ hv10) (.lit _) (by rfl) (.yng 63 _ _ _ _ (by rfl) (.same _ _ _ (by rfl) .nil))) (by rfl) (by rfl) (.yngB 63 (by rfl) (by rfl) (.pureB (by rfl) (by repeat (first | trivial | refine ⟨by first | rfl | simp [setL], ?_⟩)) .nil)) (by rfl) ⟨rfl, rfl, ⟨_, by rfl, by constructor⟩, by constructor, trivial⟩ (by rfl) (by rfl) (by rfl) (by rfl) (by rfl) (by rfl) (by rfl) (by rfl) (by rfl) ?_
   refine X.un (by rfl) (by rfl) (by rfl) ?_
   refine X.nil ?_
   refine R.cd (fun hc11 => ?_) (fun hc11 => ?_)
   ·replace h := condT hc11 h
    refine Run.sr ?_
    refine X.an ?_
    cases h
    refine R.f1 Try.results3 ?_
    rfl
   ·replace h := condF hc11 h
    refine Run.skip ?_
    refine Run.sr ?_
    refine X.an ?_
    refine Run.seq ?_
    refine R.demote 1280 (by rfl) (by rfl) (by rfl) (by rfl) (by rfl) (by rfl) ?_
    refine Run.reg ?_
    refine X.mv ?_
    refine X.mv ?_
    obtain ⟨v12, hv12, h⟩ := bindE h
    refine X.callM [(63, 1280)] (w_markLineS_k_pc _ _ _ hv12) (by rfl) (by rfl) (.yskB 63 (by rfl) (by rfl) (.pureB (by rfl) (by repeat (first | trivial | refine ⟨by first | rfl | simp [setL], ?_⟩)) .nil)) (by rfl) ⟨rfl, rfl, ⟨_, by rfl, by constructor⟩, by constructor, trivial⟩ (by rfl) (by rfl) (by rfl) (by rfl) (by rfl) (by rfl) (by rfl) (by rfl) (by rfl) ?_
    refine X.an ?_
    refine Run.seq ?_
    refine Run.seq ?_
    obtain ⟨e13, he13, h2⟩ := bindE h
    refine R.regG [(0, .slice (b0.map eTLine)), (4, .own 1152 (v4.map l_eTLiteral).length), (6, .tref 1408 (v6.map t_eTLiteral).length .out), (42, bool e13)] [(1152, .obj false 56 1 (v4.map l_eTLiteral)), (1408, .tre 56 1 (v6.map t_eTLiteral))] ?_ ?_
    ·clear h; have h := he13; clear he13 h2
     refine X.mv ?_
     refine X.bi ?_
     refine X.mv ?_
     refine X.iG (fun hb14 => ?_) (fun hb14 => ?_)
     ·replace h := condF hb14 h
      refine X.mv ?_
      refine X.gy ?_
      refine X.mv ?_
      refine X.gy ?_
      obtain ⟨v15, hv15, h⟩ := bindE h
      refine X.callM [(63, 1408)] (PC.lend (M0 := [(63, .tre 56 1 (v6.map t_eTLiteral))]) (w_eqLiteralSS_pc _ _ _ hv15) (.lit _) (by rfl) (.tref 63 _ _ _ _ _ _ _ (by rfl) (by first | rfl | simp [setL] | omega) (by rw [List.map_map]; rfl) (.same _ _ _ (by rfl) .nil))) (by rfl) (by rfl) (.trefB 63 (by rfl) (by rfl) (.pureB (by rfl) (by repeat (first | trivial | refine ⟨by first | rfl | simp [setL], ?_⟩)) .nil)) (by rfl) ⟨rfl, rfl, ⟨_, by rfl, by constructor⟩, .tre _ _ _ _ (shapeT_refl _), trivial⟩ (by rfl) (by rfl) (by rfl) (by rfl) (by rfl) (by rfl) (by rfl) (by rfl) (by rfl) ?_
      refine X.gy ?_
      refine X.un (by rfl) (by rfl) (by rfl) ?_
      refine X.pF ?_
      cases h
      exact X.eG
     ·replace h := condT hb14 h
      refine X.gn ?_
      refine X.gn ?_
      refine X.gn ?_
      refine X.pT ?_
      cases h
      exact X.eG
    replace h := h2; clear h2
    refine R.cd (fun hc16 => ?_) (fun hc16 => ?_)
    ·replace h := condT hc16 h
     refine Run.sr ?_
     refine X.an ?_
     cases h
     refine R.f1 Try.results3 ?_
     rfl
    ·replace h := condF hc16 h
     refine Run.skip ?_
     refine Run.sr ?_
     refine X.an ?_
     refine Run.seq ?_
     refine Run.region ?_
     refine Run.mvo ?_
     refine Run.mvo ?_
     obtain ⟨v17, hv17, h⟩ := bindE h
     refine Run.callTre (w_markLiteralSS_pc _ _ _ hv17) (by rfl) rfl (by rfl) (by rfl) (by rfl) (by rfl) (by first | rfl | simp [setL] | omega) (fun h => shape_t_eTLiteral _ _ (by simpa using h)) (by rfl) (by repeat (first | exact trivial | refine ⟨by first | rfl | simp [setL], ?_⟩)) (by rfl) ?_
     refine Run.aso ?_
     refine Run.nil ?_
     refine Run.sr ?_
     refine X.an ?_
     refine Run.sr ?_
     refine X.mv ?_
     refine X.mv ?_
     obtain ⟨v18, hv18, h⟩ := bindE h
     refine X.callM [(63, 1408)] (PC.lend (M0 := [(63, .tre 56 1 (v17.2.map t_eTLiteral))]) (w_heldLiteralSS_pc _ _ _ hv18) (.lit _) (by rfl) (.tref 63 _ _ _ _ _ _ _ (by rfl) (by first | rfl | simp [setL] | omega) (by rw [List.map_map]; rfl) (.same _ _ _ (by rfl) .nil))) (by rfl) (by rfl) (.trefB 63 (by rfl) (by rfl) (.pureB (by rfl) (by repeat (first | trivial | refine ⟨by first | rfl | simp [setL], ?_⟩)) .nil)) (by rfl) ⟨rfl, rfl, ⟨_, by rfl, by constructor⟩, .tre _ _ _ _ (shapeT_refl _), trivial⟩ (by rfl) (by rfl) (by rfl) (by rfl) (by rfl) (by rfl) (by rfl) (by rfl) (by rfl) ?_
     refine X.an ?_
     refine Run.seq ?_
     refine Run.sr ?_
     refine X.mv ?_
     refine X.bi ?_
     refine X.nil ?_
     refine R.cd (fun hc19 => ?_) (fun hc19 => ?_)
     ·replace h := condT hc19 h
      refine Run.sr ?_
      refine X.an ?_
      cases h
      refine R.f1 Try.results3 ?_
      rfl
     ·replace h := condF hc19 h
      refine Run.skip ?_
      refine Run.seq ?_
      refine Run.sr ?_
      refine X.mv ?_
      refine X.mv ?_
      refine X.bi ?_
      refine X.nil ?_
      refine R.cd (fun hc20 => ?_) (fun hc20 => ?_)
      ·replace h := condT hc20 h
       refine Run.sr ?_
       refine X.an ?_
       cases h
       refine R.f1 Try.results3 ?_
       rfl
      ·replace h := condF hc20 h
       refine Run.skip ?_
       refine Run.sr ?_
       refine X.mv ?_
       obtain ⟨v21, hv21, h⟩ := bindE h
       refine X.callF (PC.ofY (ps := [.slice (b0.map eTLine)]) (w_toLineS_pc _ _ hv21) (by rfl) (by rfl)) (by rfl) (by rfl) (by rfl) (by trivial) (by rfl) (by rfl) (by rfl) (by rfl) ?_
       obtain ⟨v22, hv22, h⟩ := bindE h
       refine X.callTr (i_Clauses_pc _ _ hv22) (by rfl) (by rfl) (by rfl) (by repeat (first | trivial | refine ⟨by first | rfl | simp [setL], ?_⟩)) (by rfl) (by rfl) (by rfl) (by rfl) ?_
       refine X.an ?_
       refine Run.seq ?_
       refine Run.sr ?_
       refine X.mv ?_
       refine X.mv ?_
       obtain ⟨v23, hv23, h⟩ := bindE h
       refine X.callM [(63, 3584)] (PC.lend (M0 := [(63, .tre 56 1 (v22.map t_eTLiteral))]) (w_eqLiteralSS_pc _ _ _ hv23) (.lit _) (by rfl) (.tref 63 _ _ _ _ _ _ _ (by rfl) (by first | rfl | simp [setL] | omega) (by rw [List.map_map]; rfl) (.same _ _ _ (by rfl) .nil))) (by rfl) (by rfl) (.trefB 63 (by rfl) (by rfl) (.pureB (by rfl) (by repeat (first | trivial | refine ⟨by first | rfl | simp [setL], ?_⟩)) .nil)) (by rfl) ⟨rfl, rfl, ⟨_, by rfl, by constructor⟩, .tre _ _ _ _ (shapeT_refl _), trivial⟩ (by rfl) (by rfl) (by rfl) (by rfl) (by rfl) (by rfl) (by rfl) (by rfl) (by rfl) ?_
       refine X.un (by rfl) (by rfl) (by rfl) ?_
       refine X.nil ?_
       refine R.cd (fun hc24 => ?_) (fun hc24 => ?_)
       ·replace h := condT hc24 h
        refine Run.sr ?_
        refine X.an ?_
        cases h
        refine R.f1 Try.results3 ?_
        rfl
       ·replace h := condF hc24 h
        refine Run.skip ?_
        refine Run.sr ?_
        refine X.an ?_
        refine Run.sr ?_
        refine X.mv ?_
        refine X.mv ?_
        obtain ⟨v25, hv25, h⟩ := bindE h
        refine X.callM [(63, 1408)] (PC.lend (M0 := [(63, .tre 56 1 (v17.2.map t_eTLiteral))]) (w_heldLiteralSS_pc _ _ _ hv25) (.lit _) (by rfl) (.tref 63 _ _ _ _ _ _ _ (by rfl) (by first | rfl | simp [setL] | omega) (by rw [List.map_map]; rfl) (.same _ _ _ (by rfl) .nil))) (by rfl) (by rfl) (.trefB 63 (by rfl) (by rfl) (.pureB (by rfl) (by repeat (first | trivial | refine ⟨by first | rfl | simp [setL], ?_⟩)) .nil)) (by rfl) ⟨rfl, rfl, ⟨_, by rfl, by constructor⟩, .tre _ _ _ _ (shapeT_refl _), trivial⟩ (by rfl) (by rfl) (by rfl) (by rfl) (by rfl) (by rfl) (by rfl) (by rfl) (by rfl) ?_
        refine X.an ?_
        refine Run.seq ?_
        refine Run.sr ?_
        refine X.mv ?_
        refine X.bi ?_
        refine X.nil ?_
        refine R.cd (fun hc26 => ?_) (fun hc26 => ?_)
        ·replace h := condT hc26 h
         refine Run.sr ?_
         refine X.an ?_
         cases h
         refine R.f1 Try.results3 ?_
         rfl
        ·replace h := condF hc26 h
         refine Run.skip ?_
         refine Run.seq ?_
         refine Run.sr ?_
         refine X.mv ?_
         refine X.mv ?_
         refine X.bi ?_
         refine X.nil ?_
         refine R.cd (fun hc27 => ?_) (fun hc27 => ?_)
         ·replace h := condT hc27 h
          refine Run.sr ?_
          refine X.an ?_
          cases h
          refine R.f1 Try.results3 ?_
          rfl
         ·replace h := condF hc27 h
          refine Run.skip ?_
          refine Run.sr ?_
          refine X.an ?_
          cases h
          refine R.f1 Try.results3 ?_
          rfl
end Go.Px.Ytchaabloaaaonaa
