/-
  PROVED: contracts of functions of the program over pure values. No condition beyond those that each theorem names.
-/
import Derived.Test.YtdlklmdnmoipcaaProg
import Derived.Test.YtdlklmdnmoipcaaD1
import Derived.Test.YtdlklmdnmoipcaaS
namespace Go.Px.Ytdlklmdnmoipcaa
set_option linter.unusedSimpArgs false
set_option linter.unusedVariables false
open Go.Px Go.Proofs
theorem elt22 : eltOf Try.prog 22 = some (31, 3, 24) := by kernel_rfl
theorem ok5 : okFn Try.prog 5 = true := by kernel_rfl
theorem elt24 : eltOf Try.prog 24 = some (33, 3, 24) := by kernel_rfl
theorem zer33 : zeroPV Try.prog 33 = some [.lit (.int .i64 0), .lit (.int .i64 0), .lit (.int .i64 0)] := by kernel_rfl
theorem shp31 : shp Try.prog 31 = some (true, 3) := by kernel_rfl
theorem fld31_0 : fldOff Try.prog 31 0 = some 0 := by kernel_rfl
theorem shp3 : shp Try.prog 3 = some (false, 1) := by kernel_rfl
theorem fld33_0 : fldOff Try.prog 33 0 = some 0 := by kernel_rfl
theorem fld31_1 : fldOff Try.prog 31 1 = some 1 := by kernel_rfl
theorem fld33_1 : fldOff Try.prog 33 1 = some 1 := by kernel_rfl
theorem fld31_2 : fldOff Try.prog 31 2 = some 2 := by kernel_rfl
theorem fld33_2 : fldOff Try.prog 33 2 = some 2 := by kernel_rfl
theorem shp33 : shp Try.prog 33 = some (true, 3) := by kernel_rfl
theorem ok13 : okFn Try.prog 13 = true := by kernel_rfl
theorem ok7 : okFn Try.prog 7 = true := by kernel_rfl
theorem ok24 : okFn Try.prog 24 = true := by kernel_rfl
theorem ok15 : okFn Try.prog 15 = true := by kernel_rfl
theorem flat33 : flatOf Try.prog 33 = some [0, 0, 0] := by kernel_rfl
theorem mixed : Try.prog.follows .mixedOrders = true := by kernel_rfl
theorem ok6 : okFn Try.prog 6 = true := by kernel_rfl
theorem ok16 : okFn Try.prog 16 = true := by kernel_rfl
theorem ok43 : okFn Try.prog 43 = true := by kernel_rfl
theorem ok28 : okFn Try.prog 28 = true := by kernel_rfl
theorem elt61 : eltOf Try.prog 61 = some (3, 1, 8) := by kernel_rfl
theorem zer3 : zeroPV Try.prog 3 = some [.lit (.int .i64 0)] := by kernel_rfl
theorem ok27 : okFn Try.prog 27 = true := by kernel_rfl
theorem ok18 : okFn Try.prog 18 = true := by kernel_rfl
theorem ok17 : okFn Try.prog 17 = true := by kernel_rfl
theorem ok19 : okFn Try.prog 19 = true := by kernel_rfl
theorem ok8 : okFn Try.prog 8 = true := by kernel_rfl
theorem ok20 : okFn Try.prog 20 = true := by kernel_rfl
theorem ok9 : okFn Try.prog 9 = true := by kernel_rfl
theorem ok10 : okFn Try.prog 10 = true := by kernel_rfl
theorem ok11 : okFn Try.prog 11 = true := by kernel_rfl
theorem w_szLiteralS_pc (b0 : List TLiteral) (b1 : Int) (r : Int) (h : w_szLiteralS b0 b1 = some r) : PC Try.prog 5 [.slice (b0.map eTLiteral), int b1] (int r) := by
 unfold w_szLiteralS at h
 refine PC.start Try.func5 Try.ntmps5 rfl ok5 rfl ?_
 refine Run.sr ?_
 refine X.an ?_
 refine Run.sr ?_
 refine X.mv ?_
 refine X.mv ?_
 refine X.ls elt22 ?_
 refine X.subW (by rfl) (by rfl) (by rfl) ?_
 refine X.an ?_
 refine Run.seq ?_
 refine Run.sr ?_
 refine X.mv ?_
 refine X.bi ?_
 refine X.nil ?_
 refine R.cd (fun hc1 => ?_) (fun hc1 => ?_)
 ·replace h := condT hc1 h
  refine Run.sr ?_
  refine X.an ?_
  cases h
  refine R.f1 Try.results5 ?_
  rfl
 ·replace h := condF hc1 h
  refine Run.skip ?_
  refine Run.sr ?_
  refine X.mv ?_
  refine X.an ?_
  cases h
  refine R.f1 Try.results5 ?_
  rfl
theorem w_toLiteral_pc (b0 : TLiteral) (r : TLiteral) (h : w_toLiteral b0 = some r) : PC Try.prog 13 [eTLiteral b0] (eTLiteral r) := by
 unfold w_toLiteral at h
 refine PC.start Try.func13 Try.ntmps13 rfl ok13 rfl ?_
 refine Run.sr ?_
 refine X.bx ?_
 refine X.alloc zer33 (by rfl) (by rfl) (by rfl) ?_
 refine X.nil ?_
 refine Run.sr ?_
 refine X.alloc zer33 (by rfl) (by rfl) (by rfl) ?_
 refine X.nil ?_
 refine Run.sr ?_
 refine X.fl fld31_0 ?_
 refine X.ld shp3 ?_
 refine X.fl fld33_0 ?_
 refine X.sl shp3 ?_
 refine X.nil ?_
 refine Run.sr ?_
 refine X.fl fld31_1 ?_
 refine X.ld shp3 ?_
 refine X.fl fld33_1 ?_
 refine X.sl shp3 ?_
 refine X.nil ?_
 refine Run.sr ?_
 refine X.fl fld31_2 ?_
 refine X.ld shp3 ?_
 refine X.fl fld33_2 ?_
 refine X.sl shp3 ?_
 refine X.nil ?_
 refine Run.sr ?_
 refine X.ld shp33 ?_
 refine X.sl shp33 ?_
 refine X.nil ?_
 cases h
 refine R.finC Try.results13 shp33 (by rfl) (by rfl) (by rfl) (by rfl) (by repeat (first | trivial | refine ⟨by first | rfl | simp [setL], ?_⟩)) ?_
 rfl
theorem w_toLiteralS_pc (b0 : List TLiteral) (r : List TLiteral) (h : w_toLiteralS b0 = some r) : PCM Try.prog 7 [.yng 63 (.slice (b0.map eTLiteral))] [(63, .yreg false false)] (.fresh false 33 3 (r.map eTLiteral)) [(63, .yreg false false)] := by
 unfold w_toLiteralS at h
 refine PCM.start Try.func7 Try.ntmps7 rfl ok7 rfl (by rfl) (by rfl) (by rfl) (by rfl) (by rfl) ?_
 refine Run.sr ?_
 refine X.an ?_
 refine Run.sr ?_
 refine X.mv ?_
 refine X.lenY false 63 elt22 (by rfl) (by exact List.length_map ..) (by rfl) ?_
 obtain ⟨v1, hv1, h⟩ := bindE h
 refine X.makeSlice2 eTLiteral hv1 elt24 zer33 (by rfl) (by rfl) (by rfl) (by simp [PV.plain]) (by rfl) (by rfl) (by rfl) (by rfl) (by rfl) (by rfl) ?_
 refine X.an ?_
 refine Run.seq ?_
 refine Run.sr ?_
 refine X.an ?_
 obtain ⟨o2, ho2, h⟩ := bindE h
 refine R.join2 (β := (List TLiteral)) [] [(63, .yreg false false)] (fun p16 S => (3, .own 448 (p16.map eTLiteral).length) :: S) (fun p16 M => (448, .obj true 33 3 (p16.map eTLiteral)) :: M) (fun p16 => p16 = o2) ?_ ?_
 ·intro JJ5 hmeet4
  have hup3 := h; clear h; have h := ho2; clear ho2
  refine Run.block ?_
  refine R.bndY false 63 (t := 0) (by rfl) (fun hbd8 => ?_)
  replace hbd8 : b0.length ≤ 9223372036854775807 := by first | (rw [List.length_map] at hbd8; exact hbd8) | simp
  refine R.lp (β := Int × (List TLiteral)) [(0, .yng 63 (.slice (b0.map eTLiteral)))] [(63, .yreg false false)] (fun bb S => (3, .own 448 (bb.2.map eTLiteral).length) :: (4, int bb.1) :: S) (fun bb M => (448, .obj true 33 3 (bb.2.map eTLiteral)) :: M) (fun n bb => 0 ≤ bb.1 ∧ bb.1 + n = (b0.length : Int) ∧ w_toLiteralS_L1 (b0.drop bb.1.toNat) bb.1 bb.2 = some o2) b0.length (0, v1) ⟨Int.le_refl _, by simp, h⟩ ?_
  clear h
  rintro JJ8 n8 ⟨z9, a10⟩ hag8 ⟨hza8, hzb8, h⟩
  dsimp only at hza8 hzb8 h
  refine Run.seq ?_
  refine Run.sr ?_
  refine X.mv ?_
  refine X.mv ?_
  refine X.lenY false 63 elt22 (by rfl) (by exact List.length_map ..) (by rfl) ?_
  refine X.bi ?_
  refine X.nil ?_
  refine R.cd (fun hc13 => ?_) (fun hc13 => ?_)
  ·obtain ⟨x11, xs12, hd8, hx8, hds8, hlt8⟩ := drop_atI hza8 hc13
   rw [hd8] at h
   rw [w_toLiteralS_L1] at h
   refine Run.skip ?_
   refine Run.seq ?_
   refine Run.block ?_
   refine Run.reg ?_
   refine X.mv ?_
   refine X.mv ?_
   refine X.mv ?_
   refine X.mv ?_
   refine X.indexY false 63 elt22 (by rfl) (by rfl) (idxL_spec hx8).1 (idxL_map eTLiteral hx8) (by rfl) (by rfl) ?_
   refine X.loadY false 63 shp31 (by rfl) (by rfl) (by rfl) (by rfl) ?_
   obtain ⟨v14, hv14, h⟩ := bindE h
   refine X.callA (w_toLiteral_pc _ _ hv14) (by rfl) (by rfl) (by rfl) (by trivial) (by rfl) (by rfl) (by rfl) (by rfl) (by rfl) (by rfl) ?_
   obtain ⟨v15, hv15, h⟩ := bindE h
   refine X.index_xs elt24 (by rfl) (by rfl) (by first | rfl | simp [setL] | omega) (by rfl) (by exact (Int.toNat_of_nonneg (idxL_spec hv15).1).symm) (by have := idxL_lt hv15; first | exact this | (rw [List.length_map]; exact this)) (by rfl) (by rfl) ?_
   refine X.store_es shp33 (by rfl) (by rfl) (by first | rfl | simp [setL] | omega) (idxL_map _ hv15) (by rfl) (by rfl) (by repeat (first | trivial | refine ⟨by first | rfl | simp [setL], ?_⟩)) (by rfl) (by rfl) (by rfl) (by rfl) (by exact setL_map _ _ _ v14) ?_
   refine X.nil ?_
   refine Run.blk ?_
   refine Run.reg ?_
   refine X.mv ?_
   refine X.ad ?_
   refine X.an ?_
   refine R.castS (t := 3) (.own 448 ((setL a10 z9 v14).map eTLiteral).length) (by rfl) (.inl (by first | rfl | simp [setL])) ?_
   exact R.ag hag8 (n8 - 1) (z9 + 1, (setL a10 z9 v14)) (R.n3 (by first | (rw [hds8]; exact h) | (dsimp only; rw [hds8]; exact h)))
  ·rw [drop_endI hza8 hc13] at h
   rw [w_toLiteralS_L1] at h
   refine Run.exit (by rfl) ?_
   exact R.mt hmeet4 a10 (Option.some.inj h)
 rintro p16 rfl
 refine Run.sr ?_
 refine X.mv ?_
 refine X.an ?_
 cases h
 refine R.pubObj (n := 448) (by rfl) ?_
 exact R.finM1o Try.results7 (by rfl) (by rfl) (by first | rfl | simp [setL] | omega) (by rfl) (by repeat (first | exact trivial | refine ⟨by rfl, ?_⟩)) rfl
theorem s_l11Sign_pc (b0 : Int) (b1 : Int) (r : Int) (h : s_l11Sign b0 b1 = some r) : PC Try.prog 24 [int b0, int b1] (int r) := by
 unfold s_l11Sign at h
 refine PC.start Try.func24 Try.ntmps24 rfl ok24 rfl ?_
 refine Run.sr ?_
 refine X.an ?_
 refine Run.seq ?_
 refine Run.sr ?_
 refine X.mv ?_
 refine X.mv ?_
 refine X.bi ?_
 refine X.nil ?_
 refine R.cd (fun hc1 => ?_) (fun hc1 => ?_)
 ·replace h := condT hc1 h
  refine Run.sr ?_
  refine X.an ?_
  cases h
  refine R.f1 Try.results24 ?_
  rfl
 ·replace h := condF hc1 h
  refine Run.skip ?_
  refine Run.seq ?_
  refine Run.sr ?_
  refine X.mv ?_
  refine X.mv ?_
  refine X.bi ?_
  refine X.nil ?_
  refine R.cd (fun hc2 => ?_) (fun hc2 => ?_)
  ·replace h := condT hc2 h
   refine Run.sr ?_
   refine X.an ?_
   cases h
   refine R.f1 Try.results24 ?_
   rfl
  ·replace h := condF hc2 h
   refine Run.skip ?_
   refine Run.sr ?_
   refine X.an ?_
   cases h
   refine R.f1 Try.results24 ?_
   rfl
theorem s_CompareLiterals_pc (b0 : TLiteral) (b1 : TLiteral) (r : Int) (h : s_CompareLiterals b0 b1 = some r) : PC Try.prog 15 [eTLiteral b0, eTLiteral b1] (int r) := by
 unfold s_CompareLiterals at h
 refine PC.start Try.func15 Try.ntmps15 rfl ok15 rfl ?_
 refine Run.sr ?_
 refine X.bx ?_
 refine X.bx ?_
 refine X.an ?_
 refine Run.seq ?_
 refine Run.sr ?_
 refine X.fl fld33_1 ?_
 refine X.ld shp3 ?_
 refine X.fl fld33_1 ?_
 refine X.ld shp3 ?_
 refine X.bi ?_
 refine X.nil ?_
 refine R.cd (fun hc1 => ?_) (fun hc1 => ?_)
 ·replace h := condT hc1 h
  refine Run.sr ?_
  refine X.fl fld33_1 ?_
  refine X.ld shp3 ?_
  refine X.fl fld33_1 ?_
  refine X.ld shp3 ?_
  obtain ⟨v2, hv2, h⟩ := bindE h
  refine X.cp (s_l11Sign_pc _ _ _ hv2) ?_
  refine X.an ?_
  cases h
  refine R.f1 Try.results15 ?_
  rfl
 ·replace h := condF hc1 h
  refine Run.skip ?_
  refine Run.seq ?_
  refine Run.sr ?_
  refine X.fl fld33_0 ?_
  refine X.ld shp3 ?_
  refine X.fl fld33_0 ?_
  refine X.ld shp3 ?_
  refine X.bi ?_
  refine X.nil ?_
  refine R.cd (fun hc3 => ?_) (fun hc3 => ?_)
  ·replace h := condT hc3 h
   refine Run.sr ?_
   refine X.fl fld33_0 ?_
   refine X.ld shp3 ?_
   refine X.fl fld33_0 ?_
   refine X.ld shp3 ?_
   obtain ⟨v4, hv4, h⟩ := bindE h
   refine X.cp (s_l11Sign_pc _ _ _ hv4) ?_
   refine X.an ?_
   cases h
   refine R.f1 Try.results15 ?_
   rfl
  ·replace h := condF hc3 h
   refine Run.skip ?_
   refine Run.sr ?_
   refine X.fl fld33_2 ?_
   refine X.ld shp3 ?_
   refine X.fl fld33_2 ?_
   refine X.ld shp3 ?_
   obtain ⟨v5, hv5, h⟩ := bindE h
   refine X.cp (s_l11Sign_pc _ _ _ hv5) ?_
   refine X.an ?_
   cases h
   refine R.f1 Try.results15 ?_
   rfl
theorem s_NewClause_pc (b0 : List TLiteral) (r : List TLiteral) (h : s_NewClause b0 = some r) : PC Try.prog 6 [.slice (b0.map eTLiteral)] (.slice (r.map eTLiteral)) := by
 unfold s_NewClause at h
 refine PC.start Try.func6 Try.ntmps6 rfl ok6 rfl ?_
 refine Run.sr ?_
 refine X.an ?_
 refine Run.sr ?_
 refine X.buildSlice false elt24 zer33 (by rfl) (by rfl) (by rfl) (by rfl) (by rfl) (by rfl) (by repeat (first | trivial | refine ⟨by first | rfl | simp [setL], ?_⟩)) (allSz_spec (by rfl)) (by rfl) (by rfl) (by rfl) ?_
 refine X.an ?_
 refine Run.seq ?_
 refine Run.sr ?_
 refine X.mv ?_
 refine X.ls elt24 ?_
 refine X.mn ?_
 obtain ⟨o1, ho1, h⟩ := bindE h
 refine R.join2 (β := (List TLiteral)) [] [] (fun p36 S => (3, .slice (p36.map eTLiteral)) :: S) (fun p36 M => M) (fun p36 => p36 = o1) ?_ ?_
 ·intro JJ4 hmeet3
  have hup2 := h; clear h; have h := ho1; clear ho1
  refine Run.block ?_
  refine R.castS (t := 3) _ (by rfl) (.inr (.inr ⟨_, _, _, _, _, rfl, (by rfl), (by first | rfl | simp [setL] | omega), rfl⟩)) ?_
  refine R.bndS (t := 0) (by rfl) (fun hbd7 => ?_)
  replace hbd7 : b0.length ≤ 9223372036854775807 := by first | (rw [List.length_map] at hbd7; exact hbd7) | simp
  refine R.lp (β := Int × (List TLiteral)) [(9, .slice (b0.map eTLiteral)), (10, int (b0.length : Int))] [] (fun bb S => (3, .slice (bb.2.map eTLiteral)) :: (11, int bb.1) :: S) (fun bb M => M) (fun n bb => 0 ≤ bb.1 ∧ bb.1 + n = (b0.length : Int) ∧ s_NewClause_L1 (b0.drop bb.1.toNat) bb.1 bb.2 = some o1) b0.length (0, ([] : List TLiteral)) ⟨Int.le_refl _, by simp, h⟩ ?_
  clear h
  rintro JJ7 n7 ⟨z8, a9⟩ hag7 ⟨hza7, hzb7, h⟩
  dsimp only at hza7 hzb7 h
  refine Run.sr ?_
  refine X.bi ?_
  refine X.nil ?_
  refine Run.seq ?_
  refine R.cd (fun hc12 => ?_) (fun hc12 => ?_)
  ·obtain ⟨x10, xs11, hd7, hx7, hds7, hlt7⟩ := drop_atI hza7 hc12
   rw [hd7] at h
   rw [s_NewClause_L1] at h
   refine Run.skip ?_
   refine Run.seq ?_
   refine Run.block ?_
   refine Run.sr ?_
   refine X.ix elt24 (idxL_spec hx7).1 (idxL_map eTLiteral hx7) ?_
   refine X.lc shp33 ?_
   refine X.alloc zer33 (by rfl) (by rfl) (by rfl) ?_
   refine X.sl shp33 ?_
   refine X.nil ?_
   refine Run.sr ?_
   refine X.an ?_
   refine Run.seq ?_
   obtain ⟨o13, ho13, h⟩ := bindE h
   refine R.join2 (β := Int) [(3, .slice (a9.map eTLiteral)), (5, .lptr 320 0), (9, .slice (b0.map eTLiteral)), (10, int (b0.length : Int)), (11, int z8)] [(320, .blk true [int x10.Kind, int x10.Activity, int x10.Value])] (fun p26 S => (6, int p26) :: S) (fun p26 M => M) (fun p26 => p26 = o13) ?_ ?_
   ·intro JJ16 hmeet15
    have hup14 := h; clear h; have h := ho13; clear ho13
    refine Run.block ?_
    refine R.lp (β := Int) [(3, .slice (a9.map eTLiteral)), (5, .lptr 320 0), (9, .slice (b0.map eTLiteral)), (10, int (b0.length : Int)), (11, int z8)] [(320, .blk true [int x10.Kind, int x10.Activity, int x10.Value])] (fun bb S => (6, int bb) :: S) (fun bb M => M) (fun n bb => s_NewClause_L2 a9 x10 n bb = some o13) F0 0 h ?_
    clear h
    rintro JJ16 n16 a18 hag16 h
    obtain _ | n16 := n16
    ·exact absurd h (by simp [s_NewClause_L2])
    rw [s_NewClause_L2] at h
    refine Run.seq ?_
    refine Run.seq ?_
    obtain ⟨e21, he21, h2⟩ := bindE h
    refine R.drawG [(3, .slice (a9.map eTLiteral)), (5, .lptr 320 0), (6, int a18), (9, .slice (b0.map eTLiteral)), (10, int (b0.length : Int)), (11, int z8), (27, bool e21)] [(320, .blk true [int x10.Kind, int x10.Activity, int x10.Value])] (footOf [(9, ([320], [], [], []))]) mixed (by kernel_rfl) (by kernel_rfl) ?_ ?_
    ·clear h; have h := he21; clear he21 h2
     refine X.mv ?_
     refine X.mv ?_
     refine X.ls elt24 ?_
     refine X.bi ?_
     refine X.mv ?_
     refine X.iG (fun hb22 => ?_) (fun hb22 => ?_)
     ·replace h := condT hb22 h
      refine X.mv ?_
      refine X.gy ?_
      refine X.mv ?_
      refine X.gy ?_
      obtain ⟨v23, hv23, h⟩ := bindE h
      refine X.ix elt24 (idxL_spec hv23).1 (idxL_map eTLiteral hv23) ?_
      refine X.gy ?_
      refine X.lc shp33 ?_
      refine X.gy ?_
      refine X.ld shp33 ?_
      refine X.gy ?_
      obtain ⟨v24, hv24, h⟩ := bindE h
      refine X.cp (s_CompareLiterals_pc _ _ _ hv24) ?_
      refine X.gy ?_
      refine X.bi ?_
      refine X.pT ?_
      cases h
      exact X.eG
     ·replace h := condF hb22 h
      refine X.gn ?_
      refine X.gn ?_
      refine X.gn ?_
      refine X.gn ?_
      refine X.gn ?_
      refine X.gn ?_
      refine X.pF ?_
      cases h
      exact X.eG
    replace h := h2; clear h2
    refine R.cd (fun hc25 => ?_) (fun hc25 => ?_)
    ·replace h := condT hc25 h
     refine Run.skip ?_
     refine Run.block ?_
     refine Run.reg ?_
     refine X.mv ?_
     refine X.addW (by rfl) (by rfl) (by rfl) ?_
     refine X.an ?_
     refine Run.blk ?_
     exact hag16 n16 (W (a18 + 1)) _ _ (by omega) h (by trivial) (by trivial) (by rfl) (by rfl)
    ·replace h := condF hc25 h
     refine Run.exit (by rfl) ?_
     exact R.mt hmeet15 a18 (Option.some.inj h)
   rintro p26 rfl
   refine Run.seq ?_
   refine Run.seq ?_
   obtain ⟨e27, he27, h2⟩ := bindE h
   refine R.drawG [(3, .slice (a9.map eTLiteral)), (5, .lptr 320 0), (6, int p26), (9, .slice (b0.map eTLiteral)), (10, int (b0.length : Int)), (11, int z8), (41, bool e27)] [(320, .blk true [int x10.Kind, int x10.Activity, int x10.Value])] (footOf [(9, ([320], [], [], []))]) mixed (by kernel_rfl) (by kernel_rfl) ?_ ?_
   ·clear h; have h := he27; clear he27 h2
    refine X.mv ?_
    refine X.mv ?_
    refine X.ls elt24 ?_
    refine X.bi ?_
    refine X.mv ?_
    refine X.iG (fun hb28 => ?_) (fun hb28 => ?_)
    ·replace h := condT hb28 h
     refine X.mv ?_
     refine X.gy ?_
     refine X.mv ?_
     refine X.gy ?_
     obtain ⟨v29, hv29, h⟩ := bindE h
     refine X.ix elt24 (idxL_spec hv29).1 (idxL_map eTLiteral hv29) ?_
     refine X.gy ?_
     refine X.lc shp33 ?_
     refine X.gy ?_
     refine X.ld shp33 ?_
     refine X.gy ?_
     refine X.eqlAgg flat33 (by rfl) (by rfl) (by rfl) (by rfl) ?_
     refine X.pT ?_
     cases h
     exact X.eG
    ·replace h := condF hb28 h
     refine X.gn ?_
     refine X.gn ?_
     refine X.gn ?_
     refine X.gn ?_
     refine X.gn ?_
     refine X.pF ?_
     cases h
     exact X.eG
   replace h := h2; clear h2
   refine R.cd (fun hc30 => ?_) (fun hc30 => ?_)
   ·replace h := condT hc30 h
    refine Run.exit (by rfl) ?_
    refine Run.reg ?_
    refine X.ad ?_
    refine X.mn ?_
    exact R.ag hag7 (n7 - 1) (z8 + 1, a9) (R.n3 (by first | (rw [hds7]; exact h) | (dsimp only; rw [hds7]; exact h)))
   ·replace h := condF hc30 h
    refine Run.skip ?_
    refine Run.sr ?_
    refine X.buildSlice false elt24 zer33 (by rfl) (by rfl) (by rfl) (by rfl) (by rfl) (by rfl) (by repeat (first | trivial | refine ⟨by first | rfl | simp [setL], ?_⟩)) (allSz_spec (by rfl)) (by rfl) (by rfl) (by rfl) ?_
    refine X.mv ?_
    refine X.mv ?_
    obtain ⟨v31, hv31, h⟩ := bindE h
    refine X.sliceS2 elt24 (by rfl) (by exact cells_map (f := eTLiteral) (fun _ => rfl)) (by rfl) ⟨_, by rfl⟩ (subL_le _ hv31) (subL_map _ hv31) (by rfl) ?_
    obtain ⟨v32, hv32, h⟩ := bindE h
    refine X.append elt24 zer33 (by rfl) (by rfl) (by first | rfl | simp [setL] | omega) (by rfl) (.pure _) (by exact cells_map (f := eTLiteral) (fun _ => rfl)) (appL_len eTLiteral hv32) (appL_map eTLiteral hv32) (by rfl) (by rfl) (by rfl) (by rfl) ?_
    refine X.an ?_
    refine Run.sr ?_
    refine X.mv ?_
    refine X.ld shp33 ?_
    refine X.buildSlice false elt24 zer33 (by rfl) (by rfl) (by rfl) (by rfl) (by rfl) (by rfl) (by repeat (first | trivial | refine ⟨by first | rfl | simp [setL], ?_⟩)) (allSz_spec (by rfl)) (by rfl) (by rfl) (by rfl) ?_
    obtain ⟨v33, hv33, h⟩ := bindE h
    refine X.append elt24 zer33 (by rfl) (by rfl) (by first | rfl | simp [setL] | omega) (by rfl) (.own _ _ _ _ _ _ (look_mem (by rfl)) (by first | rfl | simp [setL] | omega)) (allSz_spec (by rfl)) (appL_len eTLiteral hv33) (appL_map eTLiteral hv33) (by rfl) (by rfl) (by rfl) (by rfl) ?_
    refine X.an ?_
    refine Run.reg ?_
    refine X.mv ?_
    refine X.mv ?_
    refine X.mv ?_
    obtain ⟨v34, hv34, h⟩ := bindE h
    refine X.sliceS2 elt24 (by rfl) (by exact cells_map (f := eTLiteral) (fun _ => rfl)) ⟨_, by rfl⟩ (by first | rfl | simp [Bound]) (subL_le _ hv34) (subL_map _ hv34) (by rfl) ?_
    obtain ⟨v35, hv35, h⟩ := bindE h
    refine X.append elt24 zer33 (by rfl) (by rfl) (by first | rfl | simp [setL] | omega) (by rfl) (.pure _) (by exact cells_map (f := eTLiteral) (fun _ => rfl)) (appL_len eTLiteral hv35) (appL_map eTLiteral hv35) (by rfl) (by rfl) (by rfl) (by rfl) ?_
    refine X.an ?_
    refine Run.blk ?_
    refine Run.reg ?_
    refine X.ad ?_
    refine X.mn ?_
    refine R.castS (t := 3) _ (by rfl) (.inr (.inr ⟨_, _, _, _, _, rfl, (by rfl), (by first | rfl | simp [setL] | omega), rfl⟩)) ?_
    exact R.ag hag7 (n7 - 1) (z8 + 1, v35) (R.n3 (by first | (rw [hds7]; exact h) | (dsimp only; rw [hds7]; exact h)))
  ·rw [drop_endI hza7 hc12] at h
   rw [s_NewClause_L1] at h
   refine Run.exit (by rfl) ?_
   exact R.mt hmeet3 a9 (Option.some.inj h)
 rintro p36 rfl
 refine Run.sr ?_
 refine X.mv ?_
 refine X.an ?_
 cases h
 refine R.f1 Try.results6 ?_
 rfl
theorem slices_Clone_Literal_pc (b0 : List TLiteral) (r : List TLiteral) (h : slices_Clone_Literal b0 = some r) : PC Try.prog 16 [.slice (b0.map eTLiteral)] (.fresh true 33 3 (r.map eTLiteral)) := by
 unfold slices_Clone_Literal at h
 refine PC.split (fun hl ad cap => ?_) (fun hl => ?_)
 ·refine PC.start Try.func16 Try.ntmps16 rfl ok16 rfl ?_
  refine Run.sr ?_
  refine X.an ?_
  refine Run.seq ?_
  refine Run.sr ?_
  refine X.mv ?_
  refine X.eqlNilL elt24 (by rfl) (by rfl) (by rfl) ?_
  refine X.nil ?_
  refine R.cd (fun hc => ?_) (fun hc => ?_)
  ·refine Run.sr ?_
   refine X.an ?_
   refine R.fin1n (x := true) (e := 33) (sz := 3) Try.results16 (by rfl) (by decide) ?_
   obtain ⟨q, hq, h⟩ := bindE h
   have hqr := Option.some.inj h
   have hz : r = [] := by rw [← hqr, (appL_spec hq).2, List.map_eq_nil_iff.1 hl]; rfl
   rw [hz]; rfl
  ·refine Run.skip ?_
   refine R.slice0 (t := 0) (l := b0.map eTLiteral) hl (by rfl) ?_
   refine Run.sr ?_
   refine X.buildSlice true elt24 zer33 (by rfl) (by rfl) (by rfl) (by rfl) (by rfl) (by rfl) (by repeat (first | trivial | refine ⟨by first | rfl | simp [setL], ?_⟩)) (allSz_spec (by rfl)) (by rfl) (by rfl) (by rfl) ?_
   refine X.mv ?_
   obtain ⟨v1, hv1, h⟩ := bindE h
   refine X.append elt24 zer33 (by rfl) (by rfl) (by first | rfl | simp [setL] | omega) (by rfl) (.pure _) (by exact cells_map (f := eTLiteral) (fun _ => rfl)) (appL_len eTLiteral hv1) (appL_map eTLiteral hv1) (by rfl) (by rfl) (by rfl) (by rfl) ?_
   refine X.an ?_
   cases h
   refine R.fin1o Try.results16 (by rfl) (by rfl) (by first | rfl | simp [setL] | omega) ?_
   rfl
 ·refine PC.start Try.func16 Try.ntmps16 rfl ok16 rfl ?_
  refine Run.sr ?_
  refine X.an ?_
  refine Run.seq ?_
  refine Run.sr ?_
  refine X.mv ?_
  refine X.eqlNilS elt24 (by rfl) (.pure _) (.inl hl) (by rfl) (by rfl) ?_
  refine X.nil ?_
  refine R.condF (b := (b0.map eTLiteral).isEmpty) (by simpa using hl) (by rfl) ?_
  refine Run.skip ?_
  refine Run.sr ?_
  refine X.buildSlice true elt24 zer33 (by rfl) (by rfl) (by rfl) (by rfl) (by rfl) (by rfl) (by repeat (first | trivial | refine ⟨by first | rfl | simp [setL], ?_⟩)) (allSz_spec (by rfl)) (by rfl) (by rfl) (by rfl) ?_
  refine X.mv ?_
  obtain ⟨v1, hv1, h⟩ := bindE h
  refine X.append elt24 zer33 (by rfl) (by rfl) (by first | rfl | simp [setL] | omega) (by rfl) (.pure _) (by exact cells_map (f := eTLiteral) (fun _ => rfl)) (appL_len eTLiteral hv1) (appL_map eTLiteral hv1) (by rfl) (by rfl) (by rfl) (by rfl) ?_
  refine X.an ?_
  cases h
  refine R.fin1o Try.results16 (by rfl) (by rfl) (by first | rfl | simp [setL] | omega) ?_
  rfl
theorem cmp_isNaN_int_pc (b0 : Int) (r : Bool) (h : cmp_isNaN_int b0 = some r) : PC Try.prog 43 [int b0] (bool r) := by
 unfold cmp_isNaN_int at h
 refine PC.start Try.func43 Try.ntmps43 rfl ok43 rfl ?_
 refine Run.sr ?_
 refine X.an ?_
 refine Run.sr ?_
 refine X.mv ?_
 refine X.mv ?_
 refine X.bi ?_
 refine X.an ?_
 cases h
 refine R.f1 Try.results43 ?_
 rfl
theorem cmp_Compare_int_pc (b0 : Int) (b1 : Int) (r : Int) (h : cmp_Compare_int b0 b1 = some r) : PC Try.prog 28 [int b0, int b1] (int r) := by
 unfold cmp_Compare_int at h
 refine PC.start Try.func28 Try.ntmps28 rfl ok28 rfl ?_
 refine Run.sr ?_
 refine X.an ?_
 refine Run.sr ?_
 refine X.mv ?_
 obtain ⟨v1, hv1, h⟩ := bindE h
 refine X.cp (cmp_isNaN_int_pc _ _ hv1) ?_
 refine X.an ?_
 refine Run.sr ?_
 refine X.mv ?_
 obtain ⟨v2, hv2, h⟩ := bindE h
 refine X.cp (cmp_isNaN_int_pc _ _ hv2) ?_
 refine X.an ?_
 refine Run.seq ?_
 refine Run.sr ?_
 refine X.mn ?_
 refine R.cd (fun hc3 => ?_) (fun hc3 => ?_)
 ·replace h := condT hc3 h
  refine Run.seq ?_
  refine Run.sr ?_
  refine X.mn ?_
  refine R.cd (fun hc4 => ?_) (fun hc4 => ?_)
  ·replace h := condT hc4 h
   refine Run.sr ?_
   refine X.an ?_
   cases h
   refine R.f1 Try.results28 ?_
   rfl
  ·replace h := condF hc4 h
   refine Run.skip ?_
   refine Run.sr ?_
   refine X.an ?_
   cases h
   refine R.f1 Try.results28 ?_
   rfl
 ·replace h := condF hc3 h
  refine Run.skip ?_
  refine Run.seq ?_
  refine Run.sr ?_
  refine X.mn ?_
  refine R.cd (fun hc5 => ?_) (fun hc5 => ?_)
  ·replace h := condT hc5 h
   refine Run.sr ?_
   refine X.an ?_
   cases h
   refine R.f1 Try.results28 ?_
   rfl
  ·replace h := condF hc5 h
   refine Run.skip ?_
   refine Run.seq ?_
   refine Run.sr ?_
   refine X.mv ?_
   refine X.mv ?_
   refine X.bi ?_
   refine X.nil ?_
   refine R.cd (fun hc6 => ?_) (fun hc6 => ?_)
   ·replace h := condT hc6 h
    refine Run.sr ?_
    refine X.an ?_
    cases h
    refine R.f1 Try.results28 ?_
    rfl
   ·replace h := condF hc6 h
    refine Run.skip ?_
    refine Run.seq ?_
    refine Run.sr ?_
    refine X.mv ?_
    refine X.mv ?_
    refine X.bi ?_
    refine X.nil ?_
    refine R.cd (fun hc7 => ?_) (fun hc7 => ?_)
    ·replace h := condT hc7 h
     refine Run.sr ?_
     refine X.an ?_
     cases h
     refine R.f1 Try.results28 ?_
     rfl
    ·replace h := condF hc7 h
     refine Run.skip ?_
     refine Run.sr ?_
     refine X.an ?_
     cases h
     refine R.f1 Try.results28 ?_
     rfl
theorem cmp_Or_int_pc (b0 : List Int) (r : Int) (h : cmp_Or_int b0 = some r) : PC Try.prog 27 [.slice (b0.map int)] (int r) := by
 unfold cmp_Or_int at h
 refine PC.start Try.func27 Try.ntmps27 rfl ok27 rfl ?_
 refine Run.sr ?_
 refine X.an ?_
 refine Run.sr ?_
 refine X.an ?_
 refine Run.seq ?_
 refine Run.sr ?_
 refine X.mv ?_
 refine X.ls elt61 ?_
 refine X.mn ?_
 obtain ⟨o1, ho1, h⟩ := bindE h
 refine R.join2 (β := Unit) [(3, int 0)] [] (fun p13 S => S) (fun p13 M => M) (fun p13 => (Sum.inl p13) = o1) ?_ ?_
 ·intro JJ4 hmeet3
  have hup2 := h; clear h; have h := ho1; clear ho1
  refine Run.block ?_
  refine R.bndS (t := 0) (by rfl) (fun hbd7 => ?_)
  replace hbd7 : b0.length ≤ 9223372036854775807 := by first | (rw [List.length_map] at hbd7; exact hbd7) | simp
  refine R.lp (β := Int) [(3, int 0), (6, .slice (b0.map int)), (7, int (b0.length : Int))] [] (fun bb S => (8, int bb) :: S) (fun bb M => M) (fun n bb => 0 ≤ bb ∧ bb + n = (b0.length : Int) ∧ cmp_Or_int_L1 (b0.drop bb.toNat) bb = some o1) b0.length (0 : Int) ⟨Int.le_refl _, by simp, h⟩ ?_
  clear h
  rintro JJ7 n7 z8 hag7 ⟨hza7, hzb7, h⟩
  refine Run.sr ?_
  refine X.bi ?_
  refine X.nil ?_
  refine Run.seq ?_
  refine R.cd (fun hc11 => ?_) (fun hc11 => ?_)
  ·obtain ⟨x9, xs10, hd7, hx7, hds7, hlt7⟩ := drop_atI hza7 hc11
   rw [hd7] at h
   rw [cmp_Or_int_L1] at h
   refine Run.skip ?_
   refine Run.seq ?_
   refine Run.block ?_
   refine Run.sr ?_
   refine X.ix elt61 (idxL_spec hx7).1 (idxL_map int hx7) ?_
   refine X.lc shp3 ?_
   refine X.an ?_
   refine Run.sr ?_
   refine X.mv ?_
   refine X.mv ?_
   refine X.bi ?_
   refine X.nil ?_
   refine R.cd (fun hc12 => ?_) (fun hc12 => ?_)
   ·replace h := condT hc12 h
    refine Run.sr ?_
    refine X.mv ?_
    refine X.an ?_
    cases h
    have h := hup2
    replace h := elimR h
    cases h
    refine R.f1 Try.results27 ?_
    rfl
   ·replace h := condF hc12 h
    refine Run.skip ?_
    refine Run.blk ?_
    refine Run.reg ?_
    refine X.ad ?_
    refine X.mn ?_
    exact R.ag hag7 (n7 - 1) (z8 + 1) (R.n3 (by first | (rw [hds7]; exact h) | (dsimp only; rw [hds7]; exact h)))
  ·rw [drop_endI hza7 hc11] at h
   rw [cmp_Or_int_L1] at h
   refine Run.exit (by rfl) ?_
   exact R.mt hmeet3 () (Option.some.inj h)
 rintro p13 rfl
 replace h := elimL h
 refine Run.sr ?_
 refine X.mv ?_
 refine X.an ?_
 cases h
 refine R.f1 Try.results27 ?_
 rfl
theorem i_CompareLiterals_pc (b0 : TLiteral) (b1 : TLiteral) (r : Int) (h : i_CompareLiterals b0 b1 = some r) : PC Try.prog 18 [eTLiteral b0, eTLiteral b1] (int r) := by
 unfold i_CompareLiterals at h
 refine PC.start Try.func18 Try.ntmps18 rfl ok18 rfl ?_
 refine Run.sr ?_
 refine X.bx ?_
 refine X.bx ?_
 refine X.an ?_
 refine Run.seq ?_
 refine Run.draw (footOf [(1, ([128], [], [], [])), (3, ([192], [], [], [])), (6, ([128], [], [], [])), (8, ([192], [], [], [])), (11, ([128], [], [], [])), (13, ([192], [], [], [])), (15, ([1280], [1280], [], [])), (16, ([1280], [], [], []))]) mixed (by kernel_rfl) (by kernel_rfl) ?_
 refine X.fl fld33_1 ?_
 refine X.ld shp3 ?_
 refine X.fl fld33_1 ?_
 refine X.ld shp3 ?_
 obtain ⟨v1, hv1, h⟩ := bindE h
 refine X.cp (cmp_Compare_int_pc _ _ _ hv1) ?_
 refine X.fl fld33_0 ?_
 refine X.ld shp3 ?_
 refine X.fl fld33_0 ?_
 refine X.ld shp3 ?_
 obtain ⟨v2, hv2, h⟩ := bindE h
 refine X.cp (cmp_Compare_int_pc _ _ _ hv2) ?_
 refine X.fl fld33_2 ?_
 refine X.ld shp3 ?_
 refine X.fl fld33_2 ?_
 refine X.ld shp3 ?_
 obtain ⟨v3, hv3, h⟩ := bindE h
 refine X.cp (cmp_Compare_int_pc _ _ _ hv3) ?_
 refine X.buildSlice false elt61 zer3 (by rfl) (by rfl) (by rfl) (by rfl) (by rfl) (by rfl) (by repeat (first | trivial | refine ⟨by first | rfl | simp [setL], ?_⟩)) (allSz_spec (by rfl)) (by rfl) (by rfl) (by rfl) ?_
 obtain ⟨v4, hv4, h⟩ := bindE h
 refine X.cp (cmp_Or_int_pc _ _ hv4) ?_
 refine X.an ?_
 cases h
 refine R.f1 Try.results18 ?_
 rfl
theorem slices_SortFunc_Literal_pc (b0 : List TLiteral) (r : List TLiteral) (h : slices_SortFunc_Literal b0 (fun x0 x1 => i_CompareLiterals x0 x1) = some r) : PCM Try.prog 17 [.own 63 (b0.map eTLiteral).length, .fn 18 []] [(63, .obj true 33 3 (b0.map eTLiteral))] (.tuple []) [(63, .obj true 33 3 (r.map eTLiteral))] := by
 haveI : Inhabited TLiteral := ⟨(TLiteral.mk 0 0 0)⟩
 have hc : ∀ x y : TLiteral, PC Try.prog 18 [eTLiteral x, eTLiteral y] (int ((i_CompareLiterals x y).getD 0)) := fun x y => by
  obtain ⟨v, hv⟩ := i_CompareLiterals_tot x y
  rw [hv]; exact i_CompareLiterals_pc x y v hv
 have h1c : ∀ (x : TLiteral), ∀ v ∈ (fun x : TLiteral => [Value.int .i64 x.Kind, Value.int .i64 x.Activity, Value.int .i64 x.Value]) x, v.oneCell' = true := by intro x v hv; simp at hv; rcases hv with rfl | rfl | rfl <;> rfl
 exact PCM.sortFunc (enc := (fun x : TLiteral => [Value.int .i64 x.Kind, Value.int .i64 x.Activity, Value.int .i64 x.Value])) (cf := fun x y => (i_CompareLiterals x y).getD 0) (by decide) (by decide) ok17 (fun _ => rfl) (fun _ => rfl) h1c (fun blk off cap d w h1 h2 h3 => Try.slices_SortFunc_total _ (fun _ => rfl) h1c _ i_CompareLiterals_swo 18 (fun args w => okFn_run ok18 w args) blk off cap d w (PC.cmpLays (encP := eTLiteral) (fun pub w x => Rep.aggLit _ (h1c x)) (fun w => GP.noVars rfl rfl rfl rfl) hc _ _ _ _ _) h1 h2 h3 i_CompareLiterals_tot2) (fun a cap w => Try.slices_SortFunc_none a cap _ w) b0 r h
theorem slices_Compact_Literal_pc (b0 : List TLiteral) (r : List TLiteral) (h : slices_Compact_Literal b0 = some r) : CCutA Try.prog 19 33 3 (b0.map eTLiteral) [] (r.map eTLiteral) := by
 unfold slices_Compact_Literal at h
 refine CCutA.start Try.func19 Try.ntmps19 rfl ok19 rfl ?_
 refine Run.sr ?_
 refine X.an ?_
 refine Run.seq ?_
 refine Run.sr ?_
 refine X.mv ?_
 refine X.len_o elt24 (by rfl) (by rfl) (by first | rfl | simp [setL] | omega) (by first | exact List.length_map .. | rfl) (by rfl) (by rfl) ?_
 refine X.bi ?_
 refine X.nil ?_
 refine R.cd (fun hc1 => ?_) (fun hc1 => ?_)
 ·replace h := condT hc1 h
  refine Run.sr ?_
  refine X.mv ?_
  refine X.an ?_
  cases h
  exact R.finCo Try.results19 (by rfl) (by rfl) (by first | rfl | simp [setL] | omega) (by rfl) (flat_lit _ (fun _ => (by repeat (first | exact trivial | refine ⟨trivial, ?_⟩))))
 ·replace h := condF hc1 h
  refine Run.skip ?_
  refine Run.seq ?_
  refine Run.sr ?_
  refine X.an ?_
  obtain ⟨o2, ho2, h⟩ := bindE h
  refine R.join2 (β := Unit) [] [(63, .obj true 33 3 (b0.map eTLiteral))] (fun p34 S => (0, .own 63 (b0.map eTLiteral).length) :: S) (fun p34 M => M) (fun p34 => (Sum.inl p34) = o2) ?_ ?_
  ·intro JJ5 hmeet4
   have hup3 := h; clear h; have h := ho2; clear ho2
   refine Run.block ?_
   refine R.lp (β := Int) [] [(63, .obj true 33 3 (b0.map eTLiteral))] (fun bb S => (0, .own 63 (b0.map eTLiteral).length) :: (3, int bb) :: S) (fun bb M => M) (fun n bb => slices_Compact_Literal_L1 b0 n bb = some o2) F0 1 h ?_
   clear h
   rintro JJ5 n5 a7 hag5 h
   obtain _ | n5 := n5
   ·exact absurd h (by simp [slices_Compact_Literal_L1])
   rw [slices_Compact_Literal_L1] at h
   refine Run.seq ?_
   refine Run.sr ?_
   refine X.mv ?_
   refine X.mv ?_
   refine X.len_o elt24 (by rfl) (by rfl) (by first | rfl | simp [setL] | omega) (by first | exact List.length_map .. | rfl) (by rfl) (by rfl) ?_
   refine X.bi ?_
   refine X.nil ?_
   refine R.cd (fun hc10 => ?_) (fun hc10 => ?_)
   ·replace h := condT hc10 h
    refine Run.skip ?_
    refine Run.seq ?_
    refine Run.block ?_
    refine Run.seq ?_
    refine Run.draw (footOf [(2, ([], [], [63], [])), (3, ([63], [], [], [])), (7, ([], [], [63], [])), (8, ([63], [], [], []))]) mixed (by kernel_rfl) (by kernel_rfl) ?_
    refine X.mv ?_
    refine X.mv ?_
    obtain ⟨v11, hv11, h⟩ := bindE h
    refine X.index_xs elt24 (by rfl) (by rfl) (by first | rfl | simp [setL] | omega) (by rfl) (by exact (Int.toNat_of_nonneg (idxL_spec hv11).1).symm) (by have := idxL_lt hv11; first | exact this | (rw [List.length_map]; exact this)) (by rfl) (by rfl) ?_
    refine X.load_e shp33 (by rfl) (by rfl) (by rfl) (by first | rfl | simp [setL] | omega) (idxL_map _ hv11) (by rfl) (by rfl) (by rfl) ?_
    refine X.mv ?_
    refine X.mv ?_
    refine X.subW (by rfl) (by rfl) (by rfl) ?_
    obtain ⟨v12, hv12, h⟩ := bindE h
    refine X.index_xs elt24 (by rfl) (by rfl) (by first | rfl | simp [setL] | omega) (by rfl) (by exact (Int.toNat_of_nonneg (idxL_spec hv12).1).symm) (by have := idxL_lt hv12; first | exact this | (rw [List.length_map]; exact this)) (by rfl) (by rfl) ?_
    refine X.load_e shp33 (by rfl) (by rfl) (by rfl) (by first | rfl | simp [setL] | omega) (idxL_map _ hv12) (by rfl) (by rfl) (by rfl) ?_
    refine X.eqlAgg flat33 (by rfl) (by rfl) (by rfl) (by rfl) ?_
    refine X.nil ?_
    refine R.cd (fun hc13 => ?_) (fun hc13 => ?_)
    ·replace h := condT hc13 h
     refine Run.sr ?_
     refine X.mv ?_
     refine X.mv ?_
     obtain ⟨v14, hv14, h⟩ := bindE h
     refine X.sliceXB elt24 (by rfl) (by rfl) (by first | rfl | simp [setL] | omega) (by rfl) (by simpa using begL_spec hv14) (by rfl) (by rfl) ?_
     refine X.an ?_
     refine Run.seq ?_
     refine Run.sr ?_
     refine X.an ?_
     obtain ⟨o15, ho15, h⟩ := bindE h
     refine R.join2 (β := Int × (List TLiteral)) [] [] (fun p31 S => (0, .own 63 (p31.2.map eTLiteral).length) :: (3, int p31.1) :: S) (fun p31 M => (63, .obj true 33 3 (p31.2.map eTLiteral)) :: M) (fun p31 => p31 = o15) ?_ ?_
     ·intro JJ18 hmeet17
      have hup16 := h; clear h; have h := ho15; clear ho15
      refine Run.block ?_
      refine R.lp (β := Int × Int × (List TLiteral)) [] [] (fun bb S => (0, .own 63 (bb.2.2.map eTLiteral).length) :: (3, int bb.1) :: (4, .osl 63 (bb.2.2.map eTLiteral).length v14 (bb.2.2.map eTLiteral).length) :: (5, int bb.2.1) :: S) (fun bb M => (63, .obj true 33 3 (bb.2.2.map eTLiteral)) :: M) (fun n bb => slices_Compact_Literal_L2 v14 n bb.1 bb.2.1 bb.2.2 = some o15) F0 (a7, 1, b0) h ?_
      clear h
      rintro JJ18 n18 ⟨a20, a21, a22⟩ hag18 h
      dsimp only at h
      obtain _ | n18 := n18
      ·exact absurd h (by simp [slices_Compact_Literal_L2])
      rw [slices_Compact_Literal_L2] at h
      refine Run.seq ?_
      refine Run.sr ?_
      refine X.mv ?_
      refine X.mv ?_
      refine X.lenL2 elt24 (by rfl) (by rfl) (by first | rfl | simp [setL] | omega) (show _ = ((a22.length - v14 : Nat) : Int) by first | rfl | simp [setL]) (by rfl) (by rfl) ?_
      refine X.bi ?_
      refine X.nil ?_
      refine R.cd (fun hc25 => ?_) (fun hc25 => ?_)
      ·replace h := condT hc25 h
       refine Run.skip ?_
       refine Run.seq ?_
       refine Run.block ?_
       refine Run.seq ?_
       refine Run.draw (footOf [(2, ([], [], [63], [])), (3, ([63], [], [], [])), (7, ([], [], [63], [])), (8, ([63], [], [], []))]) mixed (by kernel_rfl) (by kernel_rfl) ?_
       refine X.mv ?_
       refine X.mv ?_
       obtain ⟨v26, hv26, h⟩ := bindE h
       refine X.indexL (m := ((v14 : Int) + a21).toNat) elt24 (by rfl) (by rfl) (by first | rfl | simp [setL] | omega) (by rfl) (by have hh := idxO_spec hv26; simp only [List.length_map]; exact ⟨hh.1, hh.2.1⟩) (by have hh := (idxO_spec hv26).1; exact (show ((v14 : Int) + a21).toNat = v14 + (a21).toNat by omega)) (by rfl) (by rfl) ?_
       refine X.load_e shp33 (by rfl) (by rfl) (by rfl) (by first | rfl | simp [setL] | omega) (idxL_map _ (idxO_idxL hv26)) (by rfl) (by rfl) (by rfl) ?_
       refine X.mv ?_
       refine X.mv ?_
       refine X.subW (by rfl) (by rfl) (by rfl) ?_
       obtain ⟨v27, hv27, h⟩ := bindE h
       refine X.indexL (m := ((v14 : Int) + (W (a21 - 1))).toNat) elt24 (by rfl) (by rfl) (by first | rfl | simp [setL] | omega) (by rfl) (by have hh := idxO_spec hv27; simp only [List.length_map]; exact ⟨hh.1, hh.2.1⟩) (by have hh := (idxO_spec hv27).1; exact (show ((v14 : Int) + (W (a21 - 1))).toNat = v14 + ((W (a21 - 1))).toNat by omega)) (by rfl) (by rfl) ?_
       refine X.load_e shp33 (by rfl) (by rfl) (by rfl) (by first | rfl | simp [setL] | omega) (idxL_map _ (idxO_idxL hv27)) (by rfl) (by rfl) (by rfl) ?_
       refine X.neqAgg flat33 (by rfl) (by rfl) (by rfl) (by rfl) ?_
       refine X.nil ?_
       refine R.cd (fun hc28 => ?_) (fun hc28 => ?_)
       ·replace h := condT hc28 h
        refine Run.sr ?_
        refine X.mv ?_
        refine X.mv ?_
        refine X.mv ?_
        refine X.mv ?_
        obtain ⟨v29, hv29, h⟩ := bindE h
        refine X.indexL (m := ((v14 : Int) + a21).toNat) elt24 (by rfl) (by rfl) (by first | rfl | simp [setL] | omega) (by rfl) (by have hh := idxO_spec hv29; simp only [List.length_map]; exact ⟨hh.1, hh.2.1⟩) (by have hh := (idxO_spec hv29).1; exact (show ((v14 : Int) + a21).toNat = v14 + (a21).toNat by omega)) (by rfl) (by rfl) ?_
        refine X.load_e shp33 (by rfl) (by rfl) (by rfl) (by first | rfl | simp [setL] | omega) (idxL_map _ (idxO_idxL hv29)) (by rfl) (by rfl) (by rfl) ?_
        obtain ⟨v30, hv30, h⟩ := bindE h
        refine X.index_xs elt24 (by rfl) (by rfl) (by first | rfl | simp [setL] | omega) (by rfl) (by exact (Int.toNat_of_nonneg (idxL_spec hv30).1).symm) (by have := idxL_lt hv30; first | exact this | (rw [List.length_map]; exact this)) (by rfl) (by rfl) ?_
        refine X.store_es shp33 (by rfl) (by rfl) (by first | rfl | simp [setL] | omega) (idxL_map _ hv30) (by rfl) (by rfl) (by repeat (first | trivial | refine ⟨by first | rfl | simp [setL], ?_⟩)) (by rfl) (by rfl) (by rfl) (by rfl) (by exact setL_map _ _ _ v29) ?_
        refine X.nil ?_
        refine Run.reg ?_
        refine X.mv ?_
        refine X.addW (by rfl) (by rfl) (by rfl) ?_
        refine X.an ?_
        refine Run.blk ?_
        refine Run.reg ?_
        refine X.mv ?_
        refine X.addW (by rfl) (by rfl) (by rfl) ?_
        refine X.an ?_
        refine R.castS (t := 0) (.own 63 ((setL a22 a20 v29).map eTLiteral).length) (by rfl) (.inl (by first | rfl | simp [setL])) ?_
        refine R.castS (t := 4) (.osl 63 ((setL a22 a20 v29).map eTLiteral).length v14 ((setL a22 a20 v29).map eTLiteral).length) (by rfl) (.inl (by first | rfl | simp [setL])) ?_
        exact hag18 n18 ((W (a20 + 1)), (W (a21 + 1)), (setL a22 a20 v29)) _ _ (by omega) h (by repeat (first | trivial | refine ⟨by first | rfl | simp [setL], ?_⟩)) (by repeat (first | trivial | refine ⟨by first | rfl | simp [setL], ?_⟩)) (by rfl) (by rfl)
       ·replace h := condF hc28 h
        refine Run.skip ?_
        refine Run.blk ?_
        refine Run.reg ?_
        refine X.mv ?_
        refine X.addW (by rfl) (by rfl) (by rfl) ?_
        refine X.an ?_
        exact hag18 n18 (a20, (W (a21 + 1)), a22) _ _ (by omega) h (by repeat (first | trivial | refine ⟨by first | rfl | simp [setL], ?_⟩)) (by repeat (first | trivial | refine ⟨by first | rfl | simp [setL], ?_⟩)) (by rfl) (by rfl)
      ·replace h := condF hc25 h
       refine Run.exit (by rfl) ?_
       exact R.mt hmeet17 (a20, a22) (Option.some.inj h)
     rintro p31 rfl
     refine Run.sr ?_
     refine X.mv ?_
     refine X.mv ?_
     obtain ⟨v32, hv32, h⟩ := bindE h
     refine X.sliceXB elt24 (by rfl) (by rfl) (by first | rfl | simp [setL] | omega) (by rfl) (by simpa using begL_spec hv32) (by rfl) (by rfl) ?_
     refine X.clearL (eTLiteral (TLiteral.mk 0 0 0)) elt24 zer33 (by first | exact .inl rfl | exact .inr rfl) (by rfl) (by simp [PV.plain]) (by rfl) (by rfl) (by first | rfl | simp [setL] | omega) (show _ = (clrL p31.2 v32 p31.2.length (TLiteral.mk 0 0 0)).map eTLiteral by simpa using clrL_map (eTLiteral) p31.2 v32 p31.2.length (TLiteral.mk 0 0 0)) (by rfl) ?_
     have hcl := clrL_len p31.2 v32 p31.2.length (TLiteral.mk 0 0 0) (by first | omega | (have hh := begL_spec hv32; omega)) (by first | exact Nat.le_refl _ | (have hh := begL_spec hNone; omega))
     refine X.nil ?_
     refine Run.sr ?_
     refine X.mv ?_
     refine X.mv ?_
     obtain ⟨v33, hv33, h⟩ := bindE h
     refine X.sliceXE elt24 (by rfl) (by rfl) (by first | rfl | (simp only [List.length_map]; rw [hcl]) | (simp [hcl])) (by rfl) (by simpa using begL_spec hv33) (by rfl) (by rfl) ?_
     refine X.an ?_
     cases h
     have h := hup3
     replace h := elimR h
     cases h
     exact R.finCh Try.results19 (by rfl) (by rfl) (by first | rfl | (simp only [List.length_map]; rw [hcl]) | (simp [hcl])) (by simp [List.map_take]) (flat_lit _ (fun _ => (by repeat (first | exact trivial | refine ⟨trivial, ?_⟩))))
    ·replace h := condF hc13 h
     refine Run.skip ?_
     refine Run.blk ?_
     refine Run.reg ?_
     refine X.mv ?_
     refine X.addW (by rfl) (by rfl) (by rfl) ?_
     refine X.an ?_
     exact hag5 n5 (W (a7 + 1)) _ _ (by omega) h (by repeat (first | trivial | refine ⟨by first | rfl | simp [setL], ?_⟩)) (by repeat (first | trivial | refine ⟨by first | rfl | simp [setL], ?_⟩)) (by rfl) (by rfl)
   ·replace h := condF hc10 h
    refine Run.exit (by rfl) ?_
    exact R.mt hmeet4 () (Option.some.inj h)
  rintro p34 rfl
  replace h := elimL h
  refine Run.sr ?_
  refine X.mv ?_
  refine X.an ?_
  cases h
  exact R.finCo Try.results19 (by rfl) (by rfl) (by first | rfl | simp [setL] | omega) (by rfl) (flat_lit _ (fun _ => (by repeat (first | exact trivial | refine ⟨trivial, ?_⟩))))
theorem i_NewClause_pc (b0 : List TLiteral) (r : List TLiteral) (h : i_NewClause b0 = some r) : PC Try.prog 8 [.slice (b0.map eTLiteral)] (.fresh true 33 3 (r.map eTLiteral)) := by
 unfold i_NewClause at h
 refine PC.start Try.func8 Try.ntmps8 rfl ok8 rfl ?_
 refine Run.sr ?_
 refine X.an ?_
 refine Run.sr ?_
 refine X.mv ?_
 obtain ⟨v1, hv1, h⟩ := bindE h
 refine X.callF (slices_Clone_Literal_pc _ _ hv1) (by rfl) (by rfl) (by rfl) (by trivial) (by rfl) (by rfl) (by rfl) (by rfl) ?_
 refine X.an ?_
 refine Run.sr ?_
 refine X.mv ?_
 obtain ⟨v2, hv2, h⟩ := bindE h
 refine X.callR [(63, 320)] [(320, (v1.map eTLiteral).length)] [(320, (v2.map eTLiteral).length)] (slices_SortFunc_Literal_pc _ _ hv2) (by rfl) (by rfl) (.ownB 63 (by rfl) (by first | rfl | simp [setL] | omega) (by rfl) (.pureB (by rfl) (by repeat (first | trivial | refine ⟨by first | rfl | simp [setL], ?_⟩)) .nil)) (by rfl) ⟨rfl, rfl, ⟨_, by rfl, by constructor⟩, by constructor, trivial⟩ (by rfl) (by rfl) (by rfl) (by rfl) ⟨rfl, ⟨_, _, _, _, by rfl, by rfl⟩, ⟨_, _, _, _, by rfl, by rfl⟩, trivial⟩ (by rfl) (by repeat (first | trivial | refine ⟨by first | rfl | simp [setL], ?_⟩)) (by rfl) (by rfl) (by rfl) (by rfl) (by rfl) ?_
 refine X.nil ?_
 refine Run.seq ?_
 refine Run.region ?_
 refine Run.mvo ?_
 obtain ⟨v3, hv3, h⟩ := bindE h
 refine Run.callCutA (S' := []) (M' := []) (slices_Compact_Literal_pc _ _ hv3) (by rfl) rfl (by rfl) (by rfl) (by rfl) (by rfl) (by first | rfl | simp [setL] | omega) trivial trivial (by rfl) (by rfl) (by rfl) (by rfl) (by rfl) ?_
 refine Run.aso ?_
 refine Run.nil ?_
 cases h
 refine R.fin1o Try.results8 (by rfl) (by rfl) (by first | rfl | simp [setL] | omega) ?_
 rfl
theorem w_eqLiteral_pc (b0 : TLiteral) (b1 : TLiteral) (r : Bool) (h : w_eqLiteral b0 b1 = some r) : PC Try.prog 20 [eTLiteral b0, eTLiteral b1] (bool r) := by
 unfold w_eqLiteral at h
 refine PC.start Try.func20 Try.ntmps20 rfl ok20 rfl ?_
 refine Run.sr ?_
 refine X.bx ?_
 refine X.bx ?_
 refine X.an ?_
 refine Run.seq ?_
 refine Run.sr ?_
 refine X.fl fld33_0 ?_
 refine X.ld shp3 ?_
 refine X.fl fld33_0 ?_
 refine X.ld shp3 ?_
 refine X.bi ?_
 refine X.nil ?_
 refine R.cd (fun hc1 => ?_) (fun hc1 => ?_)
 ·replace h := condT hc1 h
  refine Run.sr ?_
  refine X.an ?_
  cases h
  refine R.f1 Try.results20 ?_
  rfl
 ·replace h := condF hc1 h
  refine Run.skip ?_
  refine Run.seq ?_
  refine Run.sr ?_
  refine X.fl fld33_1 ?_
  refine X.ld shp3 ?_
  refine X.fl fld33_1 ?_
  refine X.ld shp3 ?_
  refine X.bi ?_
  refine X.nil ?_
  refine R.cd (fun hc2 => ?_) (fun hc2 => ?_)
  ·replace h := condT hc2 h
   refine Run.sr ?_
   refine X.an ?_
   cases h
   refine R.f1 Try.results20 ?_
   rfl
  ·replace h := condF hc2 h
   refine Run.skip ?_
   refine Run.seq ?_
   refine Run.sr ?_
   refine X.fl fld33_2 ?_
   refine X.ld shp3 ?_
   refine X.fl fld33_2 ?_
   refine X.ld shp3 ?_
   refine X.bi ?_
   refine X.nil ?_
   refine R.cd (fun hc3 => ?_) (fun hc3 => ?_)
   ·replace h := condT hc3 h
    refine Run.sr ?_
    refine X.an ?_
    cases h
    refine R.f1 Try.results20 ?_
    rfl
   ·replace h := condF hc3 h
    refine Run.skip ?_
    refine Run.sr ?_
    refine X.an ?_
    cases h
    refine R.f1 Try.results20 ?_
    rfl
theorem w_eqLiteralS_pc (b0 : List TLiteral) (b1 : List TLiteral) (r : Bool) (h : w_eqLiteralS b0 b1 = some r) : PC Try.prog 9 [.slice (b0.map eTLiteral), .slice (b1.map eTLiteral)] (bool r) := by
 unfold w_eqLiteralS at h
 refine PC.start Try.func9 Try.ntmps9 rfl ok9 rfl ?_
 refine Run.sr ?_
 refine X.an ?_
 refine Run.seq ?_
 refine Run.sr ?_
 refine X.mv ?_
 refine X.ls elt24 ?_
 refine X.mv ?_
 refine X.ls elt24 ?_
 refine X.bi ?_
 refine X.nil ?_
 refine R.cd (fun hc1 => ?_) (fun hc1 => ?_)
 ·replace h := condT hc1 h
  refine Run.sr ?_
  refine X.an ?_
  cases h
  refine R.f1 Try.results9 ?_
  rfl
 ·replace h := condF hc1 h
  refine Run.skip ?_
  refine Run.seq ?_
  refine Run.sr ?_
  refine X.an ?_
  obtain ⟨o2, ho2, h⟩ := bindE h
  refine R.join2 (β := Unit) [] [] (fun p16 S => S) (fun p16 M => M) (fun p16 => (Sum.inl p16) = o2) ?_ ?_
  ·intro JJ5 hmeet4
   have hup3 := h; clear h; have h := ho2; clear ho2
   refine Run.block ?_
   refine R.bndS (t := 0) (by rfl) (fun hbd8 => ?_)
   replace hbd8 : b0.length ≤ 9223372036854775807 := by first | (rw [List.length_map] at hbd8; exact hbd8) | simp
   refine R.lp (β := Int) [(0, .slice (b0.map eTLiteral)), (1, .slice (b1.map eTLiteral))] [] (fun bb S => (5, int bb) :: S) (fun bb M => M) (fun n bb => 0 ≤ bb ∧ bb + n = (b0.length : Int) ∧ w_eqLiteralS_L1 b1 (b0.drop bb.toNat) bb = some o2) b0.length (0 : Int) ⟨Int.le_refl _, by simp, h⟩ ?_
   clear h
   rintro JJ8 n8 z9 hag8 ⟨hza8, hzb8, h⟩
   refine Run.seq ?_
   refine Run.sr ?_
   refine X.mv ?_
   refine X.mv ?_
   refine X.ls elt24 ?_
   refine X.bi ?_
   refine X.nil ?_
   refine R.cd (fun hc12 => ?_) (fun hc12 => ?_)
   ·obtain ⟨x10, xs11, hd8, hx8, hds8, hlt8⟩ := drop_atI hza8 hc12
    rw [hd8] at h
    rw [w_eqLiteralS_L1] at h
    refine Run.skip ?_
    refine Run.seq ?_
    refine Run.block ?_
    refine Run.seq ?_
    refine Run.draw (footOf []) mixed (by kernel_rfl) (by kernel_rfl) ?_
    refine X.mv ?_
    refine X.mv ?_
    refine X.ix elt24 (idxL_spec hx8).1 (idxL_map eTLiteral hx8) ?_
    refine X.lc shp33 ?_
    refine X.mv ?_
    refine X.mv ?_
    obtain ⟨v13, hv13, h⟩ := bindE h
    refine X.ix elt24 (idxL_spec hv13).1 (idxL_map eTLiteral hv13) ?_
    refine X.lc shp33 ?_
    obtain ⟨v14, hv14, h⟩ := bindE h
    refine X.cp (w_eqLiteral_pc _ _ _ hv14) ?_
    refine X.un (by rfl) (by rfl) (by rfl) ?_
    refine X.nil ?_
    refine R.cd (fun hc15 => ?_) (fun hc15 => ?_)
    ·replace h := condT hc15 h
     refine Run.sr ?_
     refine X.an ?_
     cases h
     have h := hup3
     replace h := elimR h
     cases h
     refine R.f1 Try.results9 ?_
     rfl
    ·replace h := condF hc15 h
     refine Run.skip ?_
     refine Run.blk ?_
     refine Run.reg ?_
     refine X.mv ?_
     refine X.ad ?_
     refine X.an ?_
     exact R.ag hag8 (n8 - 1) (z9 + 1) (R.n3 (by first | (rw [hds8]; exact h) | (dsimp only; rw [hds8]; exact h)))
   ·rw [drop_endI hza8 hc12] at h
    rw [w_eqLiteralS_L1] at h
    refine Run.exit (by rfl) ?_
    exact R.mt hmeet4 () (Option.some.inj h)
  rintro p16 rfl
  replace h := elimL h
  refine Run.sr ?_
  refine X.an ?_
  cases h
  refine R.f1 Try.results9 ?_
  rfl
theorem w_markLiteralS_k_pc (b0 : List TLiteral) (b1 : Int) (r : Int) (h : w_markLiteralS_k b0 b1 = some r) : PCM Try.prog 10 [.ysk 63 (.slice (b0.map eTLiteral)), int b1] [(63, .yreg true true)] (int r) [(63, .yreg true true)] := by
 unfold w_markLiteralS_k at h
 refine PCM.start Try.func10 Try.ntmps10 rfl ok10 rfl (by rfl) (by rfl) (by rfl) (by rfl) (by rfl) ?_
 refine Run.sr ?_
 refine X.an ?_
 refine Run.seq ?_
 refine Run.sr ?_
 refine X.an ?_
 obtain ⟨o1, ho1, h⟩ := bindE h
 refine R.join2 (β := Int) [] [(63, .yreg true true)] (fun p13 S => (1, int p13) :: S) (fun p13 M => M) (fun p13 => p13 = o1) ?_ ?_
 ·intro JJ4 hmeet3
  have hup2 := h; clear h; have h := ho1; clear ho1
  refine Run.block ?_
  refine R.bndY true 63 (t := 0) (by rfl) (fun hbd7 => ?_)
  replace hbd7 : b0.length ≤ 9223372036854775807 := by first | (rw [List.length_map] at hbd7; exact hbd7) | simp
  refine R.lp (β := Int × Int) [(0, .ysk 63 (.slice (b0.map eTLiteral)))] [(63, .yreg true true)] (fun bb S => (1, int bb.2) :: (5, int bb.1) :: S) (fun bb M => M) (fun n bb => 0 ≤ bb.1 ∧ bb.1 + n = (b0.length : Int) ∧ w_markLiteralS_k_L1 (b0.drop bb.1.toNat) bb.1 bb.2 = some o1) b0.length (0, b1) ⟨Int.le_refl _, by simp, h⟩ ?_
  clear h
  rintro JJ7 n7 ⟨z8, a9⟩ hag7 ⟨hza7, hzb7, h⟩
  dsimp only at hza7 hzb7 h
  refine Run.seq ?_
  refine Run.sr ?_
  refine X.mv ?_
  refine X.mv ?_
  refine X.lenY true 63 elt24 (by rfl) (by exact List.length_map ..) (by rfl) ?_
  refine X.bi ?_
  refine X.nil ?_
  refine R.cd (fun hc12 => ?_) (fun hc12 => ?_)
  ·obtain ⟨x10, xs11, hd7, hx7, hds7, hlt7⟩ := drop_atI hza7 hc12
   rw [hd7] at h
   rw [w_markLiteralS_k_L1] at h
   refine Run.skip ?_
   refine Run.seq ?_
   refine Run.block ?_
   refine Run.sr ?_
   refine X.mv ?_
   refine X.mv ?_
   refine X.mv ?_
   refine X.indexY true 63 elt24 (by rfl) (by rfl) (idxL_spec hx7).1 (idxL_map eTLiteral hx7) (by rfl) (by rfl) ?_
   refine X.fieldY true 63 fld33_0 (by rfl) (by rfl) ?_
   refine X.storeY 63 shp3 (by rfl) (by rfl) (by rfl) (by rfl) (by rfl) (by rfl) (by rfl) ?_
   refine X.nil ?_
   refine Run.sr ?_
   refine X.mv ?_
   refine X.addW (by rfl) (by rfl) (by rfl) ?_
   refine X.an ?_
   refine Run.sr ?_
   refine X.mv ?_
   refine X.mv ?_
   refine X.mv ?_
   refine X.indexY true 63 elt24 (by rfl) (by rfl) (idxL_spec hx7).1 (idxL_map eTLiteral hx7) (by rfl) (by rfl) ?_
   refine X.fieldY true 63 fld33_1 (by rfl) (by rfl) ?_
   refine X.storeY 63 shp3 (by rfl) (by rfl) (by rfl) (by rfl) (by rfl) (by rfl) (by rfl) ?_
   refine X.nil ?_
   refine Run.sr ?_
   refine X.mv ?_
   refine X.addW (by rfl) (by rfl) (by rfl) ?_
   refine X.an ?_
   refine Run.sr ?_
   refine X.mv ?_
   refine X.mv ?_
   refine X.mv ?_
   refine X.indexY true 63 elt24 (by rfl) (by rfl) (idxL_spec hx7).1 (idxL_map eTLiteral hx7) (by rfl) (by rfl) ?_
   refine X.fieldY true 63 fld33_2 (by rfl) (by rfl) ?_
   refine X.storeY 63 shp3 (by rfl) (by rfl) (by rfl) (by rfl) (by rfl) (by rfl) (by rfl) ?_
   refine X.nil ?_
   refine Run.reg ?_
   refine X.mv ?_
   refine X.addW (by rfl) (by rfl) (by rfl) ?_
   refine X.an ?_
   refine Run.blk ?_
   refine Run.reg ?_
   refine X.mv ?_
   refine X.ad ?_
   refine X.an ?_
   exact R.ag hag7 (n7 - 1) (z8 + 1, (W ((W ((W (a9 + 1)) + 1)) + 1))) (R.n3 (by first | (rw [hds7]; exact h) | (dsimp only; rw [hds7]; exact h)))
  ·rw [drop_endI hza7 hc12] at h
   rw [w_markLiteralS_k_L1] at h
   refine Run.exit (by rfl) ?_
   exact R.mt hmeet3 a9 (Option.some.inj h)
 rintro p13 rfl
 refine Run.sr ?_
 refine X.mv ?_
 refine X.an ?_
 cases h
 exact R.finM1 Try.results10 (by rfl) (by rfl) (by repeat (first | exact trivial | refine ⟨by rfl, ?_⟩)) rfl
theorem w_markLiteralS_pc (b0 : List TLiteral) (b1 : Int) (r : Int × (List TLiteral)) (h : w_markLiteralS b0 b1 = some r) : PCM Try.prog 10 [.own 63 (b0.map eTLiteral).length, int b1] [(63, .obj true 33 3 (b0.map eTLiteral))] (int r.1) [(63, .obj true 33 3 (r.2.map eTLiteral))] := by
 unfold w_markLiteralS at h
 refine PCM.start Try.func10 Try.ntmps10 rfl ok10 rfl (by rfl) (by rfl) (by rfl) (by rfl) (by rfl) ?_
 refine Run.sr ?_
 refine X.an ?_
 refine Run.seq ?_
 refine Run.sr ?_
 refine X.an ?_
 obtain ⟨o1, ho1, h⟩ := bindE h
 refine R.join2 (β := Int × (List TLiteral)) [] [] (fun p16 S => (1, int p16.1) :: S) (fun p16 M => (63, .obj true 33 3 (p16.2.map eTLiteral)) :: M) (fun p16 => p16 = o1) ?_ ?_
 ·intro JJ4 hmeet3
  have hup2 := h; clear h; have h := ho1; clear ho1
  refine Run.block ?_
  refine R.lp (β := Int × Int × (List TLiteral)) [] [] (fun bb S => (0, .own 63 (bb.2.2.map eTLiteral).length) :: (1, int bb.1) :: (5, int bb.2.1) :: S) (fun bb M => (63, .obj true 33 3 (bb.2.2.map eTLiteral)) :: M) (fun n bb => w_markLiteralS_L1 n bb.1 bb.2.1 bb.2.2 = some o1) F0 (b1, 0, b0) h ?_
  clear h
  rintro JJ5 n5 ⟨a7, a8, a9⟩ hag5 h
  dsimp only at h
  obtain _ | n5 := n5
  ·exact absurd h (by simp [w_markLiteralS_L1])
  rw [w_markLiteralS_L1] at h
  refine Run.seq ?_
  refine Run.sr ?_
  refine X.mv ?_
  refine X.mv ?_
  refine X.len_o elt24 (by rfl) (by rfl) (by first | rfl | simp [setL] | omega) (by first | exact List.length_map .. | rfl) (by rfl) (by rfl) ?_
  refine X.bi ?_
  refine X.nil ?_
  refine R.cd (fun hc12 => ?_) (fun hc12 => ?_)
  ·replace h := condT hc12 h
   refine Run.skip ?_
   refine Run.seq ?_
   refine Run.block ?_
   refine Run.sr ?_
   refine X.mv ?_
   refine X.mv ?_
   refine X.mv ?_
   obtain ⟨v13, hv13, h⟩ := bindE h
   refine X.index_xs elt24 (by rfl) (by rfl) (by first | rfl | simp [setL] | omega) (by rfl) (by exact (Int.toNat_of_nonneg (idxL_spec hv13).1).symm) (by have := idxL_lt hv13; first | exact this | (rw [List.length_map]; exact this)) (by rfl) (by rfl) ?_
   refine X.fieldAddr_es fld33_0 (by rfl) (by rfl) (by first | rfl | simp [setL] | omega) (by rfl) (by rfl) ?_
   refine X.store_es shp3 (by rfl) (by rfl) (by first | rfl | simp [setL] | omega) (idxL_map _ hv13) (by rfl) (by rfl) (by repeat (first | trivial | refine ⟨by first | rfl | simp [setL], ?_⟩)) (by rfl) (by rfl) (by rfl) (by rfl) (by exact setL_map _ _ _ (TLiteral.mk a7 v13.Activity v13.Value)) ?_
   refine X.nil ?_
   refine Run.sr ?_
   refine X.mv ?_
   refine X.addW (by rfl) (by rfl) (by rfl) ?_
   refine X.an ?_
   refine Run.sr ?_
   refine X.mv ?_
   refine X.mv ?_
   refine X.mv ?_
   obtain ⟨v14, hv14, h⟩ := bindE h
   refine X.index_xs elt24 (by rfl) (by rfl) (by first | rfl | simp [setL] | omega) (by rfl) (by exact (Int.toNat_of_nonneg (idxL_spec hv14).1).symm) (by have := idxL_lt hv14; first | exact this | (rw [List.length_map]; exact this)) (by rfl) (by rfl) ?_
   refine X.fieldAddr_es fld33_1 (by rfl) (by rfl) (by first | rfl | simp [setL] | omega) (by rfl) (by rfl) ?_
   refine X.store_es shp3 (by rfl) (by rfl) (by first | rfl | simp [setL] | omega) (idxL_map _ hv14) (by rfl) (by rfl) (by repeat (first | trivial | refine ⟨by first | rfl | simp [setL], ?_⟩)) (by rfl) (by rfl) (by rfl) (by rfl) (by exact setL_map _ _ _ (TLiteral.mk v14.Kind (W (a7 + 1)) v14.Value)) ?_
   refine X.nil ?_
   refine Run.sr ?_
   refine X.mv ?_
   refine X.addW (by rfl) (by rfl) (by rfl) ?_
   refine X.an ?_
   refine Run.sr ?_
   refine X.mv ?_
   refine X.mv ?_
   refine X.mv ?_
   obtain ⟨v15, hv15, h⟩ := bindE h
   refine X.index_xs elt24 (by rfl) (by rfl) (by first | rfl | simp [setL] | omega) (by rfl) (by exact (Int.toNat_of_nonneg (idxL_spec hv15).1).symm) (by have := idxL_lt hv15; first | exact this | (rw [List.length_map]; exact this)) (by rfl) (by rfl) ?_
   refine X.fieldAddr_es fld33_2 (by rfl) (by rfl) (by first | rfl | simp [setL] | omega) (by rfl) (by rfl) ?_
   refine X.store_es shp3 (by rfl) (by rfl) (by first | rfl | simp [setL] | omega) (idxL_map _ hv15) (by rfl) (by rfl) (by repeat (first | trivial | refine ⟨by first | rfl | simp [setL], ?_⟩)) (by rfl) (by rfl) (by rfl) (by rfl) (by exact setL_map _ _ _ (TLiteral.mk v15.Kind v15.Activity (W ((W (a7 + 1)) + 1)))) ?_
   refine X.nil ?_
   refine Run.reg ?_
   refine X.mv ?_
   refine X.addW (by rfl) (by rfl) (by rfl) ?_
   refine X.an ?_
   refine Run.blk ?_
   refine Run.reg ?_
   refine X.mv ?_
   refine X.addW (by rfl) (by rfl) (by rfl) ?_
   refine X.an ?_
   refine R.castS (t := 0) (.own 63 ((setL (setL (setL a9 a8 (TLiteral.mk a7 v13.Activity v13.Value)) a8 (TLiteral.mk v14.Kind (W (a7 + 1)) v14.Value)) a8 (TLiteral.mk v15.Kind v15.Activity (W ((W (a7 + 1)) + 1)))).map eTLiteral).length) (by rfl) (.inl (by first | rfl | simp [setL])) ?_
   exact hag5 n5 ((W ((W ((W (a7 + 1)) + 1)) + 1)), (W (a8 + 1)), (setL (setL (setL a9 a8 (TLiteral.mk a7 v13.Activity v13.Value)) a8 (TLiteral.mk v14.Kind (W (a7 + 1)) v14.Value)) a8 (TLiteral.mk v15.Kind v15.Activity (W ((W (a7 + 1)) + 1))))) _ _ (by omega) h (by repeat (first | trivial | refine ⟨by first | rfl | simp [setL], ?_⟩)) (by repeat (first | trivial | refine ⟨by first | rfl | simp [setL], ?_⟩)) (by rfl) (by rfl)
  ·replace h := condF hc12 h
   refine Run.exit (by rfl) ?_
   exact R.mt hmeet3 (a7, a9) (Option.some.inj h)
 rintro p16 rfl
 refine Run.sr ?_
 refine X.mv ?_
 refine X.an ?_
 cases h
 exact R.finM1 Try.results10 (by rfl) (by rfl) (by repeat (first | exact trivial | refine ⟨by rfl, ?_⟩)) rfl
theorem w_heldLiteralS_pc (b0 : List TLiteral) (b1 : Int) (r : Int) (h : w_heldLiteralS b0 b1 = some r) : PC Try.prog 11 [.slice (b0.map eTLiteral), int b1] (int r) := by
 unfold w_heldLiteralS at h
 refine PC.start Try.func11 Try.ntmps11 rfl ok11 rfl ?_
 refine Run.sr ?_
 refine X.an ?_
 refine Run.seq ?_
 refine Run.sr ?_
 refine X.an ?_
 obtain ⟨o1, ho1, h⟩ := bindE h
 refine R.join2 (β := Int) [] [] (fun p16 S => (1, int p16) :: S) (fun p16 M => M) (fun p16 => (Sum.inl p16) = o1) ?_ ?_
 ·intro JJ4 hmeet3
  have hup2 := h; clear h; have h := ho1; clear ho1
  refine Run.block ?_
  refine R.bndS (t := 0) (by rfl) (fun hbd7 => ?_)
  replace hbd7 : b0.length ≤ 9223372036854775807 := by first | (rw [List.length_map] at hbd7; exact hbd7) | simp
  refine R.lp (β := Int × Int) [(0, .slice (b0.map eTLiteral))] [] (fun bb S => (1, int bb.2) :: (5, int bb.1) :: S) (fun bb M => M) (fun n bb => 0 ≤ bb.1 ∧ bb.1 + n = (b0.length : Int) ∧ w_heldLiteralS_L1 (b0.drop bb.1.toNat) bb.1 bb.2 = some o1) b0.length (0, b1) ⟨Int.le_refl _, by simp, h⟩ ?_
  clear h
  rintro JJ7 n7 ⟨z8, a9⟩ hag7 ⟨hza7, hzb7, h⟩
  dsimp only at hza7 hzb7 h
  refine Run.seq ?_
  refine Run.sr ?_
  refine X.mv ?_
  refine X.mv ?_
  refine X.ls elt24 ?_
  refine X.bi ?_
  refine X.nil ?_
  refine R.cd (fun hc12 => ?_) (fun hc12 => ?_)
  ·obtain ⟨x10, xs11, hd7, hx7, hds7, hlt7⟩ := drop_atI hza7 hc12
   rw [hd7] at h
   rw [w_heldLiteralS_L1] at h
   refine Run.skip ?_
   refine Run.seq ?_
   refine Run.block ?_
   refine Run.seq ?_
   refine Run.sr ?_
   refine X.mv ?_
   refine X.mv ?_
   refine X.ix elt24 (idxL_spec hx7).1 (idxL_map eTLiteral hx7) ?_
   refine X.fieldAddr_c fld33_0 (by rfl) (by rfl) ?_
   refine X.lc shp3 ?_
   refine X.mv ?_
   refine X.bi ?_
   refine X.nil ?_
   refine R.cd (fun hc13 => ?_) (fun hc13 => ?_)
   ·replace h := condT hc13 h
    refine Run.sr ?_
    refine X.an ?_
    cases h
    have h := hup2
    replace h := elimR h
    cases h
    refine R.f1 Try.results11 ?_
    rfl
   ·replace h := condF hc13 h
    refine Run.skip ?_
    refine Run.sr ?_
    refine X.mv ?_
    refine X.addW (by rfl) (by rfl) (by rfl) ?_
    refine X.an ?_
    refine Run.seq ?_
    refine Run.sr ?_
    refine X.mv ?_
    refine X.mv ?_
    refine X.ix elt24 (idxL_spec hx7).1 (idxL_map eTLiteral hx7) ?_
    refine X.fieldAddr_c fld33_1 (by rfl) (by rfl) ?_
    refine X.lc shp3 ?_
    refine X.mv ?_
    refine X.bi ?_
    refine X.nil ?_
    refine R.cd (fun hc14 => ?_) (fun hc14 => ?_)
    ·replace h := condT hc14 h
     refine Run.sr ?_
     refine X.an ?_
     cases h
     have h := hup2
     replace h := elimR h
     cases h
     refine R.f1 Try.results11 ?_
     rfl
    ·replace h := condF hc14 h
     refine Run.skip ?_
     refine Run.sr ?_
     refine X.mv ?_
     refine X.addW (by rfl) (by rfl) (by rfl) ?_
     refine X.an ?_
     refine Run.seq ?_
     refine Run.sr ?_
     refine X.mv ?_
     refine X.mv ?_
     refine X.ix elt24 (idxL_spec hx7).1 (idxL_map eTLiteral hx7) ?_
     refine X.fieldAddr_c fld33_2 (by rfl) (by rfl) ?_
     refine X.lc shp3 ?_
     refine X.mv ?_
     refine X.bi ?_
     refine X.nil ?_
     refine R.cd (fun hc15 => ?_) (fun hc15 => ?_)
     ·replace h := condT hc15 h
      refine Run.sr ?_
      refine X.an ?_
      cases h
      have h := hup2
      replace h := elimR h
      cases h
      refine R.f1 Try.results11 ?_
      rfl
     ·replace h := condF hc15 h
      refine Run.skip ?_
      refine Run.reg ?_
      refine X.mv ?_
      refine X.addW (by rfl) (by rfl) (by rfl) ?_
      refine X.an ?_
      refine Run.blk ?_
      refine Run.reg ?_
      refine X.mv ?_
      refine X.ad ?_
      refine X.an ?_
      exact R.ag hag7 (n7 - 1) (z8 + 1, (W ((W ((W (a9 + 1)) + 1)) + 1))) (R.n3 (by first | (rw [hds7]; exact h) | (dsimp only; rw [hds7]; exact h)))
  ·rw [drop_endI hza7 hc12] at h
   rw [w_heldLiteralS_L1] at h
   refine Run.exit (by rfl) ?_
   exact R.mt hmeet3 a9 (Option.some.inj h)
 rintro p16 rfl
 replace h := elimL h
 refine Run.sr ?_
 refine X.mv ?_
 refine X.an ?_
 cases h
 refine R.f1 Try.results11 ?_
 rfl
end Go.Px.Ytdlklmdnmoipcaa
