/-
  PROVED: contracts of functions of the program over pure values. No condition beyond those that each theorem names.
-/
import Derived.Test.YtiopmcdngjlgbaaProg
import Derived.Test.YtiopmcdngjlgbaaD1
namespace Go.Px.Ytiopmcdngjlgbaa
set_option linter.unusedSimpArgs false
set_option linter.unusedVariables false
open Go.Px Go.Proofs
theorem shp24 : shp Try.prog 24 = some (true, 2) := by kernel_rfl
theorem fld24_0 : fldOff Try.prog 24 0 = some 0 := by kernel_rfl
theorem shp22 : shp Try.prog 22 = some (false, 1) := by kernel_rfl
theorem elt22 : eltOf Try.prog 22 = some (3, 1, 8) := by kernel_rfl
theorem ok13 : okFn Try.prog 13 = true := by kernel_rfl
theorem fld24_1 : fldOff Try.prog 24 1 = some 1 := by kernel_rfl
theorem ok4 : okFn Try.prog 4 = true := by kernel_rfl
theorem zer27 : zeroPV Try.prog 27 = some [.nils, .nils] := by kernel_rfl
theorem zer3 : zeroPV Try.prog 3 = some [.lit (.int .i64 0)] := by kernel_rfl
theorem shp3 : shp Try.prog 3 = some (false, 1) := by kernel_rfl
theorem ok14 : okFn Try.prog 14 = true := by kernel_rfl
theorem fld27_0 : fldOff Try.prog 27 0 = some 0 := by kernel_rfl
theorem fld27_1 : fldOff Try.prog 27 1 = some 1 := by kernel_rfl
theorem shp27 : shp Try.prog 27 = some (true, 2) := by kernel_rfl
theorem ok6 : okFn Try.prog 6 = true := by kernel_rfl
theorem mixed : Try.prog.follows .mixedOrders = true := by kernel_rfl
theorem ok5 : okFn Try.prog 5 = true := by kernel_rfl
theorem ok19 : okFn Try.prog 19 = true := by kernel_rfl
theorem ok17 : okFn Try.prog 17 = true := by kernel_rfl
theorem ok16 : okFn Try.prog 16 = true := by kernel_rfl
theorem ok20 : okFn Try.prog 20 = true := by kernel_rfl
theorem ok23 : okFn Try.prog 23 = true := by kernel_rfl
theorem ok22 : okFn Try.prog 22 = true := by kernel_rfl
theorem ok21 : okFn Try.prog 21 = true := by kernel_rfl
theorem ok18 : okFn Try.prog 18 = true := by kernel_rfl
theorem ok15 : okFn Try.prog 15 = true := by kernel_rfl
theorem ok7 : okFn Try.prog 7 = true := by kernel_rfl
theorem ok8 : okFn Try.prog 8 = true := by kernel_rfl
theorem ok9 : okFn Try.prog 9 = true := by kernel_rfl
theorem ok11 : okFn Try.prog 11 = true := by kernel_rfl
theorem ok10 : okFn Try.prog 10 = true := by kernel_rfl
theorem ok12 : okFn Try.prog 12 = true := by kernel_rfl
theorem ok3 : okFn Try.prog 3 = true := by kernel_rfl
theorem w_szIntS_pc (b0 : List Int) (b1 : Int) (r : Int) (h : w_szIntS b0 b1 = some r) : PC Try.prog 13 [.slice (b0.map int), int b1] (int r) := by
 unfold w_szIntS at h
 refine PC.start Try.func13 Try.ntmps13 rfl ok13 rfl ?_
 refine Run.sr ?_
 refine X.an ?_
 refine Run.sr ?_
 refine X.mv ?_
 refine X.mv ?_
 refine X.ls elt22 ?_
 refine X.subW (by rfl) (by rfl) (by rfl) ?_
 refine X.an ?_
 refine Run.seq ?_
 refine Run.sr ?_
 refine X.mv ?_
 refine X.bi ?_
 refine X.nil ?_
 refine R.cd (fun hc1 => ?_) (fun hc1 => ?_)
 ·replace h := condT hc1 h
  refine Run.sr ?_
  refine X.an ?_
  cases h
  refine R.f1 Try.results13 ?_
  rfl
 ·replace h := condF hc1 h
  refine Run.skip ?_
  refine Run.sr ?_
  refine X.mv ?_
  refine X.an ?_
  cases h
  refine R.f1 Try.results13 ?_
  rfl
theorem w_szSchedule_pc (b0 : TSchedule) (b1 : Int) (r : Int) (h : w_szSchedule b0 b1 = some r) : PC Try.prog 4 [eTSchedule b0, int b1] (int r) := by
 unfold w_szSchedule at h
 refine PC.start Try.func4 Try.ntmps4 rfl ok4 rfl ?_
 refine Run.sr ?_
 refine X.bx ?_
 refine X.an ?_
 refine Run.sr ?_
 refine X.fl fld24_0 ?_
 refine X.ld shp22 ?_
 refine X.mv ?_
 obtain ⟨v1, hv1, h⟩ := bindE h
 refine X.cp (w_szIntS_pc _ _ _ hv1) ?_
 refine X.an ?_
 refine Run.seq ?_
 refine Run.sr ?_
 refine X.mv ?_
 refine X.bi ?_
 refine X.nil ?_
 refine R.cd (fun hc2 => ?_) (fun hc2 => ?_)
 ·replace h := condT hc2 h
  refine Run.sr ?_
  refine X.an ?_
  cases h
  refine R.f1 Try.results4 ?_
  rfl
 ·replace h := condF hc2 h
  refine Run.skip ?_
  refine Run.sr ?_
  refine X.fl fld24_1 ?_
  refine X.ld shp22 ?_
  refine X.mv ?_
  obtain ⟨v3, hv3, h⟩ := bindE h
  refine X.cp (w_szIntS_pc _ _ _ hv3) ?_
  refine X.an ?_
  refine Run.seq ?_
  refine Run.sr ?_
  refine X.mv ?_
  refine X.bi ?_
  refine X.nil ?_
  refine R.cd (fun hc4 => ?_) (fun hc4 => ?_)
  ·replace h := condT hc4 h
   refine Run.sr ?_
   refine X.an ?_
   cases h
   refine R.f1 Try.results4 ?_
   rfl
  ·replace h := condF hc4 h
   refine Run.skip ?_
   refine Run.sr ?_
   refine X.mv ?_
   refine X.an ?_
   cases h
   refine R.f1 Try.results4 ?_
   rfl
theorem w_toIntS_pc (b0 : List Int) (r : List Int) (h : w_toIntS b0 = some r) : PCM Try.prog 14 [.yng 63 (.slice (b0.map int))] [(63, .yreg false false)] (.fresh false 3 1 (r.map int)) [(63, .yreg false false)] := by
 unfold w_toIntS at h
 refine PCM.start Try.func14 Try.ntmps14 rfl ok14 rfl (by rfl) (by rfl) (by rfl) (by rfl) (by rfl) ?_
 refine Run.sr ?_
 refine X.an ?_
 refine Run.sr ?_
 refine X.mv ?_
 refine X.lenY false 63 elt22 (by rfl) (by exact List.length_map ..) (by rfl) ?_
 obtain ⟨v1, hv1, h⟩ := bindE h
 refine X.makeSlice2 int hv1 elt22 zer3 (by rfl) (by rfl) (by rfl) (by simp [PV.plain]) (by rfl) (by rfl) (by rfl) (by rfl) (by rfl) (by rfl) ?_
 refine X.an ?_
 refine Run.seq ?_
 refine Run.sr ?_
 refine X.an ?_
 obtain ⟨o2, ho2, h⟩ := bindE h
 refine R.join2 (β := (List Int)) [] [(63, .yreg false false)] (fun p15 S => (3, .own 448 (p15.map int).length) :: S) (fun p15 M => (448, .obj true 3 1 (p15.map int)) :: M) (fun p15 => p15 = o2) ?_ ?_
 ·intro JJ5 hmeet4
  have hup3 := h; clear h; have h := ho2; clear ho2
  refine Run.block ?_
  refine R.bndY false 63 (t := 0) (by rfl) (fun hbd8 => ?_)
  replace hbd8 : b0.length ≤ 9223372036854775807 := by first | (rw [List.length_map] at hbd8; exact hbd8) | simp
  refine R.lp (β := Int × (List Int)) [(0, .yng 63 (.slice (b0.map int)))] [(63, .yreg false false)] (fun bb S => (3, .own 448 (bb.2.map int).length) :: (4, int bb.1) :: S) (fun bb M => (448, .obj true 3 1 (bb.2.map int)) :: M) (fun n bb => 0 ≤ bb.1 ∧ bb.1 + n = (b0.length : Int) ∧ w_toIntS_L1 (b0.drop bb.1.toNat) bb.1 bb.2 = some o2) b0.length (0, v1) ⟨Int.le_refl _, by simp, h⟩ ?_
  clear h
  rintro JJ8 n8 ⟨z9, a10⟩ hag8 ⟨hza8, hzb8, h⟩
  dsimp only at hza8 hzb8 h
  refine Run.seq ?_
  refine Run.sr ?_
  refine X.mv ?_
  refine X.mv ?_
  refine X.lenY false 63 elt22 (by rfl) (by exact List.length_map ..) (by rfl) ?_
  refine X.bi ?_
  refine X.nil ?_
  refine R.cd (fun hc13 => ?_) (fun hc13 => ?_)
  ·obtain ⟨x11, xs12, hd8, hx8, hds8, hlt8⟩ := drop_atI hza8 hc13
   rw [hd8] at h
   rw [w_toIntS_L1] at h
   refine Run.skip ?_
   refine Run.seq ?_
   refine Run.block ?_
   refine Run.reg ?_
   refine X.mv ?_
   refine X.mv ?_
   refine X.mv ?_
   refine X.mv ?_
   refine X.indexY false 63 elt22 (by rfl) (by rfl) (idxL_spec hx8).1 (idxL_map int hx8) (by rfl) (by rfl) ?_
   refine X.loadY false 63 shp3 (by rfl) (by rfl) (by rfl) (by rfl) ?_
   obtain ⟨v14, hv14, h⟩ := bindE h
   refine X.index_xs elt22 (by rfl) (by rfl) (by first | rfl | simp [setL] | omega) (by rfl) (by exact (Int.toNat_of_nonneg (idxL_spec hv14).1).symm) (by have := idxL_lt hv14; first | exact this | (rw [List.length_map]; exact this)) (by rfl) (by rfl) ?_
   refine X.store_es shp3 (by rfl) (by rfl) (by first | rfl | simp [setL] | omega) (idxL_map _ hv14) (by rfl) (by rfl) (by repeat (first | trivial | refine ⟨by first | rfl | simp [setL], ?_⟩)) (by rfl) (by rfl) (by rfl) (by rfl) (by exact setL_map _ _ _ x11) ?_
   refine X.nil ?_
   refine Run.blk ?_
   refine Run.reg ?_
   refine X.mv ?_
   refine X.ad ?_
   refine X.an ?_
   refine R.castS (t := 3) (.own 448 ((setL a10 z9 x11).map int).length) (by rfl) (.inl (by first | rfl | simp [setL])) ?_
   exact R.ag hag8 (n8 - 1) (z9 + 1, (setL a10 z9 x11)) (R.n3 (by first | (rw [hds8]; exact h) | (dsimp only; rw [hds8]; exact h)))
  ·rw [drop_endI hza8 hc13] at h
   rw [w_toIntS_L1] at h
   refine Run.exit (by rfl) ?_
   exact R.mt hmeet4 a10 (Option.some.inj h)
 rintro p15 rfl
 refine Run.sr ?_
 refine X.mv ?_
 refine X.an ?_
 cases h
 refine R.pubObj (n := 448) (by rfl) ?_
 exact R.finM1o Try.results14 (by rfl) (by rfl) (by first | rfl | simp [setL] | omega) (by rfl) (by repeat (first | exact trivial | refine ⟨by rfl, ?_⟩)) rfl
theorem w_toSchedule_pc (b0 : TSchedule) (r : TSchedule) (h : w_toSchedule b0 = some r) : PCM Try.prog 6 [.agg [.yng 63 (.slice (b0.Starts.map int)), .yng 63 (.slice (b0.Modes.map int))]] [(63, .yreg false false)] (.agg [.fresh false 3 1 (r.Starts.map int), .fresh false 3 1 (r.Modes.map int)]) [(63, .yreg false false)] := by
 unfold w_toSchedule at h
 refine PCM.start Try.func6 Try.ntmps6 rfl ok6 rfl (by rfl) (by rfl) (by rfl) (by rfl) (by rfl) ?_
 refine Run.sr ?_
 refine X.bx ?_
 refine X.alloc zer27 (by rfl) (by rfl) (by rfl) ?_
 refine X.nil ?_
 refine Run.sr ?_
 refine X.alloc zer27 (by rfl) (by rfl) (by rfl) ?_
 refine X.nil ?_
 refine Run.sr ?_
 refine X.fl fld24_0 ?_
 refine X.ld shp22 ?_
 obtain ⟨v1, hv1, h⟩ := bindE h
 refine X.callM [(63, 63)] (w_toIntS_pc _ _ hv1) (by rfl) (by rfl) (.yngB 63 (by rfl) (by rfl) .nil) (by rfl) ⟨rfl, rfl, ⟨_, by rfl, by constructor⟩, by constructor, trivial⟩ (by rfl) (by rfl) (by rfl) (by rfl) (by rfl) (by rfl) (by rfl) (by rfl) (by rfl) ?_
 refine X.fl fld27_0 ?_
 refine X.sl shp22 ?_
 refine X.nil ?_
 refine Run.sr ?_
 refine X.fl fld24_1 ?_
 refine X.ld shp22 ?_
 obtain ⟨v2, hv2, h⟩ := bindE h
 refine X.callM [(63, 63)] (w_toIntS_pc _ _ hv2) (by rfl) (by rfl) (.yngB 63 (by rfl) (by rfl) .nil) (by rfl) ⟨rfl, rfl, ⟨_, by rfl, by constructor⟩, by constructor, trivial⟩ (by rfl) (by rfl) (by rfl) (by rfl) (by rfl) (by rfl) (by rfl) (by rfl) (by rfl) ?_
 refine X.fl fld27_1 ?_
 refine X.sl shp22 ?_
 refine X.nil ?_
 refine Run.sr ?_
 refine X.ld shp27 ?_
 refine X.sl shp27 ?_
 refine X.nil ?_
 cases h
 exact R.finMC Try.results6 shp27 (by rfl) (by rfl) (by rfl) (by rfl) (by repeat (first | trivial | refine ⟨by first | rfl | simp [setL], ?_⟩)) (by rfl) (by repeat (first | exact trivial | refine ⟨by rfl, ?_⟩)) rfl
theorem s_StartOrder_pc (b0 : TSchedule) (r : List Int) (h : s_StartOrder b0 = some r) : PC Try.prog 5 [eTSchedule b0] (.slice (r.map int)) := by
 unfold s_StartOrder at h
 refine PC.start Try.func5 Try.ntmps5 rfl ok5 rfl ?_
 refine Run.sr ?_
 refine X.bx ?_
 refine X.an ?_
 refine Run.sr ?_
 refine X.buildSlice false elt22 zer3 (by rfl) (by rfl) (by rfl) (by rfl) (by rfl) (by rfl) (by repeat (first | trivial | refine ⟨by first | rfl | simp [setL], ?_⟩)) (allSz_spec (by rfl)) (by rfl) (by rfl) (by rfl) ?_
 refine X.an ?_
 refine Run.seq ?_
 refine Run.sr ?_
 refine X.fl fld27_0 ?_
 refine X.ld shp22 ?_
 refine X.ls elt22 ?_
 refine X.mn ?_
 obtain ⟨o1, ho1, h⟩ := bindE h
 refine R.join2 (β := (List Int)) [] [] (fun p32 S => (3, .slice (p32.map int)) :: S) (fun p32 M => M) (fun p32 => p32 = o1) ?_ ?_
 ·intro JJ4 hmeet3
  have hup2 := h; clear h; have h := ho1; clear ho1
  refine Run.block ?_
  refine R.castS (t := 3) _ (by rfl) (.inr (.inr ⟨_, _, _, _, _, rfl, (by rfl), (by first | rfl | simp [setL] | omega), rfl⟩)) ?_
  refine R.bndS (t := 9) (by rfl) (fun hbd7 => ?_)
  replace hbd7 : b0.Starts.length ≤ 9223372036854775807 := by first | (rw [List.length_map] at hbd7; exact hbd7) | simp
  refine R.lp (β := Int × (List Int)) [(1, .lptr 64 0), (10, int (b0.Starts.length : Int))] [(64, .blk true [.slice (b0.Starts.map int), .slice (b0.Modes.map int)])] (fun bb S => (3, .slice (bb.2.map int)) :: (11, int bb.1) :: S) (fun bb M => M) (fun n bb => 0 ≤ bb.1 ∧ bb.1 + n = (b0.Starts.length : Int) ∧ s_StartOrder_L1 b0 (b0.Starts.drop bb.1.toNat) bb.1 bb.2 = some o1) b0.Starts.length (0, ([] : List Int)) ⟨Int.le_refl _, by simp, h⟩ ?_
  clear h
  rintro JJ7 n7 ⟨z8, a9⟩ hag7 ⟨hza7, hzb7, h⟩
  dsimp only at hza7 hzb7 h
  refine Run.sr ?_
  refine X.bi ?_
  refine X.nil ?_
  refine Run.seq ?_
  refine R.cd (fun hc12 => ?_) (fun hc12 => ?_)
  ·obtain ⟨x10, xs11, hd7, hx7, hds7, hlt7⟩ := drop_atI hza7 hc12
   rw [hd7] at h
   rw [s_StartOrder_L1] at h
   refine Run.skip ?_
   refine Run.seq ?_
   refine Run.block ?_
   refine Run.sr ?_
   refine X.mv ?_
   refine X.an ?_
   refine Run.sr ?_
   refine X.mv ?_
   refine X.ls elt22 ?_
   refine X.an ?_
   refine Run.seq ?_
   obtain ⟨o13, ho13, h⟩ := bindE h
   refine R.join2 (β := Int) [(1, .lptr 64 0), (3, .slice (a9.map int)), (4, int z8), (10, int (b0.Starts.length : Int)), (11, int z8)] [(64, .blk true [.slice (b0.Starts.map int), .slice (b0.Modes.map int)])] (fun p26 S => (5, int p26) :: S) (fun p26 M => M) (fun p26 => p26 = o13) ?_ ?_
   ·intro JJ16 hmeet15
    have hup14 := h; clear h; have h := ho13; clear ho13
    refine Run.block ?_
    refine R.lp (β := Int) [(1, .lptr 64 0), (3, .slice (a9.map int)), (4, int z8), (10, int (b0.Starts.length : Int)), (11, int z8)] [(64, .blk true [.slice (b0.Starts.map int), .slice (b0.Modes.map int)])] (fun bb S => (5, int bb) :: S) (fun bb M => M) (fun n bb => s_StartOrder_L2 b0 a9 x10 n bb = some o13) F0 (a9.length : Int) h ?_
    clear h
    rintro JJ16 n16 a18 hag16 h
    obtain _ | n16 := n16
    ·exact absurd h (by simp [s_StartOrder_L2])
    rw [s_StartOrder_L2] at h
    refine Run.seq ?_
    refine Run.seq ?_
    obtain ⟨e21, he21, h2⟩ := bindE h
    refine R.drawG [(1, .lptr 64 0), (3, .slice (a9.map int)), (4, int z8), (5, int a18), (10, int (b0.Starts.length : Int)), (11, int z8), (34, bool e21)] [(64, .blk true [.slice (b0.Starts.map int), .slice (b0.Modes.map int)])] (footOf [(4, ([64], [], [], [])), (13, ([64], [], [], []))]) mixed (by kernel_rfl) (by kernel_rfl) ?_ ?_
    ·clear h; have h := he21; clear he21 h2
     refine X.mv ?_
     refine X.bi ?_
     refine X.mv ?_
     refine X.iG (fun hb22 => ?_) (fun hb22 => ?_)
     ·replace h := condT hb22 h
      refine X.fl fld27_0 ?_
      refine X.gy ?_
      refine X.ld shp22 ?_
      refine X.gy ?_
      refine X.mv ?_
      refine X.gy ?_
      refine X.mv ?_
      refine X.gy ?_
      refine X.subW (by rfl) (by rfl) (by rfl) ?_
      refine X.gy ?_
      obtain ⟨v23, hv23, h⟩ := bindE h
      refine X.ix elt22 (idxL_spec hv23).1 (idxL_map int hv23) ?_
      refine X.gy ?_
      refine X.lc shp3 ?_
      refine X.gy ?_
      obtain ⟨v24, hv24, h⟩ := bindE h
      refine X.ix elt22 (idxL_spec hv24).1 (idxL_map int hv24) ?_
      refine X.gy ?_
      refine X.lc shp3 ?_
      refine X.gy ?_
      refine X.fl fld27_0 ?_
      refine X.gy ?_
      refine X.ld shp22 ?_
      refine X.gy ?_
      refine X.mv ?_
      refine X.gy ?_
      refine X.ix elt22 (idxL_spec hx7).1 (idxL_map int hx7) ?_
      refine X.gy ?_
      refine X.lc shp3 ?_
      refine X.gy ?_
      refine X.bi ?_
      refine X.pT ?_
      cases h
      exact X.eG
     ·replace h := condF hb22 h
      refine X.gn ?_
      refine X.gn ?_
      refine X.gn ?_
      refine X.gn ?_
      refine X.gn ?_
      refine X.gn ?_
      refine X.gn ?_
      refine X.gn ?_
      refine X.gn ?_
      refine X.gn ?_
      refine X.gn ?_
      refine X.gn ?_
      refine X.gn ?_
      refine X.gn ?_
      refine X.pF ?_
      cases h
      exact X.eG
    replace h := h2; clear h2
    refine R.cd (fun hc25 => ?_) (fun hc25 => ?_)
    ·replace h := condT hc25 h
     refine Run.skip ?_
     refine Run.block ?_
     refine Run.reg ?_
     refine X.mv ?_
     refine X.subW (by rfl) (by rfl) (by rfl) ?_
     refine X.an ?_
     refine Run.blk ?_
     exact hag16 n16 (W (a18 - 1)) _ _ (by omega) h (by trivial) (by trivial) (by rfl) (by rfl)
    ·replace h := condF hc25 h
     refine Run.exit (by rfl) ?_
     exact R.mt hmeet15 a18 (Option.some.inj h)
   rintro p26 rfl
   refine Run.sr ?_
   refine X.buildSlice false elt22 zer3 (by rfl) (by rfl) (by rfl) (by rfl) (by rfl) (by rfl) (by repeat (first | trivial | refine ⟨by first | rfl | simp [setL], ?_⟩)) (allSz_spec (by rfl)) (by rfl) (by rfl) (by rfl) ?_
   refine X.mv ?_
   refine X.mv ?_
   obtain ⟨v27, hv27, h⟩ := bindE h
   refine X.sliceS2 elt22 (by rfl) (by exact cells_map (f := int) (fun _ => rfl)) (by rfl) ⟨_, by rfl⟩ (subL_le _ hv27) (subL_map _ hv27) (by rfl) ?_
   obtain ⟨v28, hv28, h⟩ := bindE h
   refine X.append elt22 zer3 (by rfl) (by rfl) (by first | rfl | simp [setL] | omega) (by rfl) (.pure _) (by exact cells_map (f := int) (fun _ => rfl)) (appL_len int hv28) (appL_map int hv28) (by rfl) (by rfl) (by rfl) (by rfl) ?_
   refine X.an ?_
   refine Run.sr ?_
   refine X.mv ?_
   refine X.mv ?_
   refine X.buildSlice false elt22 zer3 (by rfl) (by rfl) (by rfl) (by rfl) (by rfl) (by rfl) (by repeat (first | trivial | refine ⟨by first | rfl | simp [setL], ?_⟩)) (allSz_spec (by rfl)) (by rfl) (by rfl) (by rfl) ?_
   obtain ⟨v29, hv29, h⟩ := bindE h
   refine X.append elt22 zer3 (by rfl) (by rfl) (by first | rfl | simp [setL] | omega) (by rfl) (.own _ _ _ _ _ _ (look_mem (by rfl)) (by first | rfl | simp [setL] | omega)) (allSz_spec (by rfl)) (appL_len int hv29) (appL_map int hv29) (by rfl) (by rfl) (by rfl) (by rfl) ?_
   refine X.an ?_
   refine Run.reg ?_
   refine X.mv ?_
   refine X.mv ?_
   refine X.mv ?_
   obtain ⟨v30, hv30, h⟩ := bindE h
   refine X.sliceS2 elt22 (by rfl) (by exact cells_map (f := int) (fun _ => rfl)) ⟨_, by rfl⟩ (by first | rfl | simp [Bound]) (subL_le _ hv30) (subL_map _ hv30) (by rfl) ?_
   obtain ⟨v31, hv31, h⟩ := bindE h
   refine X.append elt22 zer3 (by rfl) (by rfl) (by first | rfl | simp [setL] | omega) (by rfl) (.pure _) (by exact cells_map (f := int) (fun _ => rfl)) (appL_len int hv31) (appL_map int hv31) (by rfl) (by rfl) (by rfl) (by rfl) ?_
   refine X.an ?_
   refine Run.blk ?_
   refine Run.reg ?_
   refine X.ad ?_
   refine X.mn ?_
   refine R.castS (t := 3) _ (by rfl) (.inr (.inr ⟨_, _, _, _, _, rfl, (by rfl), (by first | rfl | simp [setL] | omega), rfl⟩)) ?_
   exact R.ag hag7 (n7 - 1) (z8 + 1, v31) (R.n3 (by first | (rw [hds7]; exact h) | (dsimp only; rw [hds7]; exact h)))
  ·rw [drop_endI hza7 hc12] at h
   rw [s_StartOrder_L1] at h
   refine Run.exit (by rfl) ?_
   exact R.mt hmeet3 a9 (Option.some.inj h)
 rintro p32 rfl
 refine Run.sr ?_
 refine X.mv ?_
 refine X.an ?_
 cases h
 refine R.f1 Try.results5 ?_
 rfl
theorem cmp_isNaN_int_pc (b0 : Int) (r : Bool) (h : cmp_isNaN_int b0 = some r) : PC Try.prog 19 [int b0] (bool r) := by
 unfold cmp_isNaN_int at h
 refine PC.start Try.func19 Try.ntmps19 rfl ok19 rfl ?_
 refine Run.sr ?_
 refine X.an ?_
 refine Run.sr ?_
 refine X.mv ?_
 refine X.mv ?_
 refine X.bi ?_
 refine X.an ?_
 cases h
 refine R.f1 Try.results19 ?_
 rfl
theorem cmp_Compare_int_pc (b0 : Int) (b1 : Int) (r : Int) (h : cmp_Compare_int b0 b1 = some r) : PC Try.prog 17 [int b0, int b1] (int r) := by
 unfold cmp_Compare_int at h
 refine PC.start Try.func17 Try.ntmps17 rfl ok17 rfl ?_
 refine Run.sr ?_
 refine X.an ?_
 refine Run.sr ?_
 refine X.mv ?_
 obtain ⟨v1, hv1, h⟩ := bindE h
 refine X.cp (cmp_isNaN_int_pc _ _ hv1) ?_
 refine X.an ?_
 refine Run.sr ?_
 refine X.mv ?_
 obtain ⟨v2, hv2, h⟩ := bindE h
 refine X.cp (cmp_isNaN_int_pc _ _ hv2) ?_
 refine X.an ?_
 refine Run.seq ?_
 refine Run.sr ?_
 refine X.mn ?_
 refine R.cd (fun hc3 => ?_) (fun hc3 => ?_)
 ·replace h := condT hc3 h
  refine Run.seq ?_
  refine Run.sr ?_
  refine X.mn ?_
  refine R.cd (fun hc4 => ?_) (fun hc4 => ?_)
  ·replace h := condT hc4 h
   refine Run.sr ?_
   refine X.an ?_
   cases h
   refine R.f1 Try.results17 ?_
   rfl
  ·replace h := condF hc4 h
   refine Run.skip ?_
   refine Run.sr ?_
   refine X.an ?_
   cases h
   refine R.f1 Try.results17 ?_
   rfl
 ·replace h := condF hc3 h
  refine Run.skip ?_
  refine Run.seq ?_
  refine Run.sr ?_
  refine X.mn ?_
  refine R.cd (fun hc5 => ?_) (fun hc5 => ?_)
  ·replace h := condT hc5 h
   refine Run.sr ?_
   refine X.an ?_
   cases h
   refine R.f1 Try.results17 ?_
   rfl
  ·replace h := condF hc5 h
   refine Run.skip ?_
   refine Run.seq ?_
   refine Run.sr ?_
   refine X.mv ?_
   refine X.mv ?_
   refine X.bi ?_
   refine X.nil ?_
   refine R.cd (fun hc6 => ?_) (fun hc6 => ?_)
   ·replace h := condT hc6 h
    refine Run.sr ?_
    refine X.an ?_
    cases h
    refine R.f1 Try.results17 ?_
    rfl
   ·replace h := condF hc6 h
    refine Run.skip ?_
    refine Run.seq ?_
    refine Run.sr ?_
    refine X.mv ?_
    refine X.mv ?_
    refine X.bi ?_
    refine X.nil ?_
    refine R.cd (fun hc7 => ?_) (fun hc7 => ?_)
    ·replace h := condT hc7 h
     refine Run.sr ?_
     refine X.an ?_
     cases h
     refine R.f1 Try.results17 ?_
     rfl
    ·replace h := condF hc7 h
     refine Run.skip ?_
     refine Run.sr ?_
     refine X.an ?_
     cases h
     refine R.f1 Try.results17 ?_
     rfl
theorem i_StartOrder_c1_pc (b0 : Int) (b1 : Int) (c2 : TSchedule) (r : Int) (h : i_StartOrder_c1 b0 b1 c2 = some r) : PC Try.prog 16 [int b0, int b1, .cptr (eTSchedule c2 : PV).cells 0] (int r) := by
 unfold i_StartOrder_c1 at h
 refine PC.start Try.func16 Try.ntmps16 rfl ok16 rfl ?_
 refine Run.sr ?_
 refine X.an ?_
 refine Run.seq ?_
 refine Run.draw (footOf []) mixed (by kernel_rfl) (by kernel_rfl) ?_
 refine X.fieldAddr_c fld27_0 (by rfl) (by rfl) ?_
 refine X.lc shp22 ?_
 refine X.mv ?_
 obtain ⟨v1, hv1, h⟩ := bindE h
 refine X.ix elt22 (idxL_spec hv1).1 (idxL_map int hv1) ?_
 refine X.lc shp3 ?_
 refine X.fieldAddr_c fld27_0 (by rfl) (by rfl) ?_
 refine X.lc shp22 ?_
 refine X.mv ?_
 obtain ⟨v2, hv2, h⟩ := bindE h
 refine X.ix elt22 (idxL_spec hv2).1 (idxL_map int hv2) ?_
 refine X.lc shp3 ?_
 obtain ⟨v3, hv3, h⟩ := bindE h
 refine X.cp (cmp_Compare_int_pc _ _ _ hv3) ?_
 refine X.an ?_
 cases h
 refine R.f1 Try.results16 ?_
 rfl
theorem slices_insertionSortCmpFunc_int_pc (b0 : List Int) (b1 : Int) (b2 : Int) (g3 : Int → Int → Option Int) (g3id : Nat) (g3c : List PV) (hg3 : ∀ (x0 : Int) (x1 : Int) v, g3 x0 x1 = some v → PC Try.prog g3id ([int x0, int x1] ++ g3c) (int v)) (r : (List Int)) (h : slices_insertionSortCmpFunc_int b0 b1 b2 g3 = some r) : PCM Try.prog 20 [.own 63 (b0.map int).length, int b1, int b2, .fn g3id g3c] [(63, .obj true 3 1 (b0.map int))] (.tuple []) [(63, .obj true 3 1 (r.map int))] := by
 unfold slices_insertionSortCmpFunc_int at h
 refine PCM.start Try.func20 Try.ntmps20 rfl ok20 rfl (by rfl) (by rfl) (by rfl) (by rfl) (by rfl) ?_
 refine Run.sr ?_
 refine X.mv ?_
 refine X.addW (by rfl) (by rfl) (by rfl) ?_
 refine X.an ?_
 obtain ⟨o1, ho1, h⟩ := bindE h
 refine R.join2 (β := (List Int)) [] [] (fun p30 S => S) (fun p30 M => (63, .obj true 3 1 (p30.map int)) :: M) (fun p30 => p30 = o1) ?_ ?_
 ·intro JJ4 hmeet3
  have hup2 := h; clear h; have h := ho1; clear ho1
  refine Run.block ?_
  refine R.lp (β := Int × (List Int)) [(1, int b1), (2, int b2), (3, .fn g3id g3c)] [] (fun bb S => (0, .own 63 (bb.2.map int).length) :: (8, int bb.1) :: S) (fun bb M => (63, .obj true 3 1 (bb.2.map int)) :: M) (fun n bb => slices_insertionSortCmpFunc_int_L1 b1 b2 g3 n bb.1 bb.2 = some o1) F0 ((W (b1 + 1)), b0) h ?_
  clear h
  rintro JJ4 n4 ⟨a6, a7⟩ hag4 h
  dsimp only at h
  obtain _ | n4 := n4
  ·exact absurd h (by simp [slices_insertionSortCmpFunc_int_L1])
  rw [slices_insertionSortCmpFunc_int_L1] at h
  refine Run.seq ?_
  refine Run.sr ?_
  refine X.mv ?_
  refine X.mv ?_
  refine X.bi ?_
  refine X.nil ?_
  refine R.cd (fun hc10 => ?_) (fun hc10 => ?_)
  ·replace h := condT hc10 h
   refine Run.skip ?_
   refine Run.seq ?_
   refine Run.block ?_
   refine Run.sr ?_
   refine X.mv ?_
   refine X.an ?_
   obtain ⟨o11, ho11, h⟩ := bindE h
   refine R.join2 (β := (List Int)) [(1, int b1), (2, int b2), (3, .fn g3id g3c), (8, int a6)] [] (fun p29 S => (0, .own 63 (p29.map int).length) :: S) (fun p29 M => (63, .obj true 3 1 (p29.map int)) :: M) (fun p29 => p29 = o11) ?_ ?_
   ·intro JJ14 hmeet13
    have hup12 := h; clear h; have h := ho11; clear ho11
    refine Run.block ?_
    refine R.lp (β := Int × (List Int)) [(1, int b1), (2, int b2), (3, .fn g3id g3c), (8, int a6)] [] (fun bb S => (0, .own 63 (bb.2.map int).length) :: (9, int bb.1) :: S) (fun bb M => (63, .obj true 3 1 (bb.2.map int)) :: M) (fun n bb => slices_insertionSortCmpFunc_int_L2 b1 g3 n bb.1 bb.2 = some o11) F0 (a6, a7) h ?_
    clear h
    rintro JJ14 n14 ⟨a16, a17⟩ hag14 h
    dsimp only at h
    obtain _ | n14 := n14
    ·exact absurd h (by simp [slices_insertionSortCmpFunc_int_L2])
    rw [slices_insertionSortCmpFunc_int_L2] at h
    refine Run.seq ?_
    refine Run.seq ?_
    obtain ⟨e20, he20, h2⟩ := bindE h
    refine R.drawG [(0, .own 63 (a17.map int).length), (1, int b1), (2, int b2), (3, .fn g3id g3c), (8, int a6), (9, int a16), (34, bool e20)] [(63, .obj true 3 1 (a17.map int))] (footOf [(7, ([], [], [63], [])), (8, ([63], [], [], [])), (12, ([], [], [63], [])), (13, ([63], [], [], []))]) mixed (by kernel_rfl) (by kernel_rfl) ?_ ?_
    ·clear h; have h := he20; clear he20 h2
     refine X.mv ?_
     refine X.mv ?_
     refine X.bi ?_
     refine X.mv ?_
     refine X.iG (fun hb21 => ?_) (fun hb21 => ?_)
     ·replace h := condT hb21 h
      refine X.mv ?_
      refine X.gy ?_
      refine X.mv ?_
      refine X.gy ?_
      refine X.mv ?_
      refine X.gy ?_
      obtain ⟨v22, hv22, h⟩ := bindE h
      refine X.index_xs elt22 (by rfl) (by rfl) (by first | rfl | simp [setL] | omega) (by rfl) (by exact (Int.toNat_of_nonneg (idxL_spec hv22).1).symm) (by have := idxL_lt hv22; first | exact this | (rw [List.length_map]; exact this)) (by rfl) (by rfl) ?_
      refine X.gy ?_
      refine X.load_e shp3 (by rfl) (by rfl) (by rfl) (by first | rfl | simp [setL] | omega) (idxL_map _ hv22) (by rfl) (by rfl) (by rfl) ?_
      refine X.gy ?_
      refine X.mv ?_
      refine X.gy ?_
      refine X.mv ?_
      refine X.gy ?_
      refine X.subW (by rfl) (by rfl) (by rfl) ?_
      refine X.gy ?_
      obtain ⟨v23, hv23, h⟩ := bindE h
      refine X.index_xs elt22 (by rfl) (by rfl) (by first | rfl | simp [setL] | omega) (by rfl) (by exact (Int.toNat_of_nonneg (idxL_spec hv23).1).symm) (by have := idxL_lt hv23; first | exact this | (rw [List.length_map]; exact this)) (by rfl) (by rfl) ?_
      refine X.gy ?_
      refine X.load_e shp3 (by rfl) (by rfl) (by rfl) (by first | rfl | simp [setL] | omega) (idxL_map _ hv23) (by rfl) (by rfl) (by rfl) ?_
      refine X.gy ?_
      obtain ⟨v24, hv24, h⟩ := bindE h
      refine X.cp (hg3 _ _ _ hv24) ?_
      refine X.gy ?_
      refine X.bi ?_
      refine X.pT ?_
      cases h
      exact X.eG
     ·replace h := condF hb21 h
      refine X.gn ?_
      refine X.gn ?_
      refine X.gn ?_
      refine X.gn ?_
      refine X.gn ?_
      refine X.gn ?_
      refine X.gn ?_
      refine X.gn ?_
      refine X.gn ?_
      refine X.gn ?_
      refine X.gn ?_
      refine X.pF ?_
      cases h
      exact X.eG
    replace h := h2; clear h2
    refine R.cd (fun hc25 => ?_) (fun hc25 => ?_)
    ·replace h := condT hc25 h
     refine Run.skip ?_
     refine Run.seq ?_
     refine Run.block ?_
     refine Run.draw (footOf [(8, ([], [], [63], [])), (9, ([63], [], [], [])), (12, ([], [], [63], [])), (13, ([63], [], [], [])), (14, ([], [], [63], [])), (15, ([63], [], [], [63])), (16, ([], [], [63], [])), (17, ([63], [], [], [63]))]) mixed (by kernel_rfl) (by kernel_rfl) ?_
     refine X.mv ?_
     refine X.mv ?_
     refine X.mv ?_
     refine X.mv ?_
     refine X.subW (by rfl) (by rfl) (by rfl) ?_
     refine X.mv ?_
     refine X.mv ?_
     refine X.subW (by rfl) (by rfl) (by rfl) ?_
     obtain ⟨v26, hv26, h⟩ := bindE h
     refine X.index_xs elt22 (by rfl) (by rfl) (by first | rfl | simp [setL] | omega) (by rfl) (by exact (Int.toNat_of_nonneg (idxL_spec hv26).1).symm) (by have := idxL_lt hv26; first | exact this | (rw [List.length_map]; exact this)) (by rfl) (by rfl) ?_
     refine X.load_e shp3 (by rfl) (by rfl) (by rfl) (by first | rfl | simp [setL] | omega) (idxL_map _ hv26) (by rfl) (by rfl) (by rfl) ?_
     refine X.mv ?_
     refine X.mv ?_
     obtain ⟨v27, hv27, h⟩ := bindE h
     refine X.index_xs elt22 (by rfl) (by rfl) (by first | rfl | simp [setL] | omega) (by rfl) (by exact (Int.toNat_of_nonneg (idxL_spec hv27).1).symm) (by have := idxL_lt hv27; first | exact this | (rw [List.length_map]; exact this)) (by rfl) (by rfl) ?_
     refine X.load_e shp3 (by rfl) (by rfl) (by rfl) (by first | rfl | simp [setL] | omega) (idxL_map _ hv27) (by rfl) (by rfl) (by rfl) ?_
     refine X.index_xs elt22 (by rfl) (by rfl) (by first | rfl | simp [setL] | omega) (by rfl) (by exact (Int.toNat_of_nonneg (idxL_spec hv27).1).symm) (by have := idxL_lt hv27; first | exact this | (rw [List.length_map]; exact this)) (by rfl) (by rfl) ?_
     refine X.store_es shp3 (by rfl) (by rfl) (by first | rfl | simp [setL] | omega) (idxL_map _ hv27) (by rfl) (by rfl) (by repeat (first | trivial | refine ⟨by first | rfl | simp [setL], ?_⟩)) (by rfl) (by rfl) (by rfl) (by rfl) (by exact setL_map _ _ _ v26) ?_
     obtain ⟨v28, hv28, h⟩ := bindE h
     refine X.index_xs elt22 (by rfl) (by rfl) (by first | rfl | simp [setL] | omega) (by rfl) (by exact (Int.toNat_of_nonneg (idxL_spec hv28).1).symm) (by have := idxL_lt hv28; first | exact this | (rw [List.length_map]; exact this)) (by rfl) (by rfl) ?_
     refine X.store_es shp3 (by rfl) (by rfl) (by first | rfl | simp [setL] | omega) (idxL_map _ hv28) (by rfl) (by rfl) (by repeat (first | trivial | refine ⟨by first | rfl | simp [setL], ?_⟩)) (by rfl) (by rfl) (by rfl) (by rfl) (by exact setL_map _ _ _ v27) ?_
     refine X.nil ?_
     refine Run.blk ?_
     refine Run.reg ?_
     refine X.mv ?_
     refine X.subW (by rfl) (by rfl) (by rfl) ?_
     refine X.an ?_
     refine R.castS (t := 0) (.own 63 ((setL (setL a17 a16 v26) (W (a16 - 1)) v27).map int).length) (by rfl) (.inl (by first | rfl | simp [setL])) ?_
     exact hag14 n14 ((W (a16 - 1)), (setL (setL a17 a16 v26) (W (a16 - 1)) v27)) _ _ (by omega) h (by repeat (first | trivial | refine ⟨by first | rfl | simp [setL], ?_⟩)) (by repeat (first | trivial | refine ⟨by first | rfl | simp [setL], ?_⟩)) (by rfl) (by rfl)
    ·replace h := condF hc25 h
     refine Run.exit (by rfl) ?_
     exact R.mt hmeet13 a17 (Option.some.inj h)
   rintro p29 rfl
   refine Run.blk ?_
   refine Run.reg ?_
   refine X.mv ?_
   refine X.addW (by rfl) (by rfl) (by rfl) ?_
   refine X.an ?_
   exact hag4 n4 ((W (a6 + 1)), p29) _ _ (by omega) h (by repeat (first | trivial | refine ⟨by first | rfl | simp [setL], ?_⟩)) (by repeat (first | trivial | refine ⟨by first | rfl | simp [setL], ?_⟩)) (by rfl) (by rfl)
  ·replace h := condF hc10 h
   refine Run.exit (by rfl) ?_
   exact R.mt hmeet3 a7 (Option.some.inj h)
 rintro p30 rfl
 cases h
 exact R.endM0 Try.results20 (by repeat (first | exact trivial | refine ⟨by rfl, ?_⟩)) rfl
theorem slices_swapRangeCmpFunc_int_pc (b0 : List Int) (b1 : Int) (b2 : Int) (b3 : Int) (g4 : Int → Int → Option Int) (g4id : Nat) (g4c : List PV) (hg4 : ∀ (x0 : Int) (x1 : Int) v, g4 x0 x1 = some v → PC Try.prog g4id ([int x0, int x1] ++ g4c) (int v)) (r : (List Int)) (h : slices_swapRangeCmpFunc_int b0 b1 b2 b3 g4 = some r) : PCM Try.prog 23 [.own 63 (b0.map int).length, int b1, int b2, int b3, .fn g4id g4c] [(63, .obj true 3 1 (b0.map int))] (.tuple []) [(63, .obj true 3 1 (r.map int))] := by
 unfold slices_swapRangeCmpFunc_int at h
 refine PCM.start Try.func23 Try.ntmps23 rfl ok23 rfl (by rfl) (by rfl) (by rfl) (by rfl) (by rfl) ?_
 refine Run.sr ?_
 refine X.an ?_
 obtain ⟨o1, ho1, h⟩ := bindE h
 refine R.join2 (β := (List Int)) [] [] (fun p15 S => S) (fun p15 M => (63, .obj true 3 1 (p15.map int)) :: M) (fun p15 => p15 = o1) ?_ ?_
 ·intro JJ4 hmeet3
  have hup2 := h; clear h; have h := ho1; clear ho1
  refine Run.block ?_
  refine R.lp (β := Int × (List Int)) [(1, int b1), (2, int b2), (3, int b3)] [] (fun bb S => (0, .own 63 (bb.2.map int).length) :: (10, int bb.1) :: S) (fun bb M => (63, .obj true 3 1 (bb.2.map int)) :: M) (fun n bb => slices_swapRangeCmpFunc_int_L1 b1 b2 b3 n bb.1 bb.2 = some o1) F0 (0, b0) h ?_
  clear h
  rintro JJ5 n5 ⟨a7, a8⟩ hag5 h
  dsimp only at h
  obtain _ | n5 := n5
  ·exact absurd h (by simp [slices_swapRangeCmpFunc_int_L1])
  rw [slices_swapRangeCmpFunc_int_L1] at h
  refine Run.seq ?_
  refine Run.sr ?_
  refine X.mv ?_
  refine X.mv ?_
  refine X.bi ?_
  refine X.nil ?_
  refine R.cd (fun hc11 => ?_) (fun hc11 => ?_)
  ·replace h := condT hc11 h
   refine Run.skip ?_
   refine Run.seq ?_
   refine Run.block ?_
   refine Run.draw (footOf [(12, ([], [], [63], [])), (13, ([63], [], [], [])), (18, ([], [], [63], [])), (19, ([63], [], [], [])), (20, ([], [], [63], [])), (21, ([63], [], [], [63])), (22, ([], [], [63], [])), (23, ([63], [], [], [63]))]) mixed (by kernel_rfl) (by kernel_rfl) ?_
   refine X.mv ?_
   refine X.mv ?_
   refine X.mv ?_
   refine X.addW (by rfl) (by rfl) (by rfl) ?_
   refine X.mv ?_
   refine X.mv ?_
   refine X.mv ?_
   refine X.addW (by rfl) (by rfl) (by rfl) ?_
   refine X.mv ?_
   refine X.mv ?_
   refine X.mv ?_
   refine X.addW (by rfl) (by rfl) (by rfl) ?_
   obtain ⟨v12, hv12, h⟩ := bindE h
   refine X.index_xs elt22 (by rfl) (by rfl) (by first | rfl | simp [setL] | omega) (by rfl) (by exact (Int.toNat_of_nonneg (idxL_spec hv12).1).symm) (by have := idxL_lt hv12; first | exact this | (rw [List.length_map]; exact this)) (by rfl) (by rfl) ?_
   refine X.load_e shp3 (by rfl) (by rfl) (by rfl) (by first | rfl | simp [setL] | omega) (idxL_map _ hv12) (by rfl) (by rfl) (by rfl) ?_
   refine X.mv ?_
   refine X.mv ?_
   refine X.mv ?_
   refine X.addW (by rfl) (by rfl) (by rfl) ?_
   obtain ⟨v13, hv13, h⟩ := bindE h
   refine X.index_xs elt22 (by rfl) (by rfl) (by first | rfl | simp [setL] | omega) (by rfl) (by exact (Int.toNat_of_nonneg (idxL_spec hv13).1).symm) (by have := idxL_lt hv13; first | exact this | (rw [List.length_map]; exact this)) (by rfl) (by rfl) ?_
   refine X.load_e shp3 (by rfl) (by rfl) (by rfl) (by first | rfl | simp [setL] | omega) (idxL_map _ hv13) (by rfl) (by rfl) (by rfl) ?_
   refine X.index_xs elt22 (by rfl) (by rfl) (by first | rfl | simp [setL] | omega) (by rfl) (by exact (Int.toNat_of_nonneg (idxL_spec hv13).1).symm) (by have := idxL_lt hv13; first | exact this | (rw [List.length_map]; exact this)) (by rfl) (by rfl) ?_
   refine X.store_es shp3 (by rfl) (by rfl) (by first | rfl | simp [setL] | omega) (idxL_map _ hv13) (by rfl) (by rfl) (by repeat (first | trivial | refine ⟨by first | rfl | simp [setL], ?_⟩)) (by rfl) (by rfl) (by rfl) (by rfl) (by exact setL_map _ _ _ v12) ?_
   obtain ⟨v14, hv14, h⟩ := bindE h
   refine X.index_xs elt22 (by rfl) (by rfl) (by first | rfl | simp [setL] | omega) (by rfl) (by exact (Int.toNat_of_nonneg (idxL_spec hv14).1).symm) (by have := idxL_lt hv14; first | exact this | (rw [List.length_map]; exact this)) (by rfl) (by rfl) ?_
   refine X.store_es shp3 (by rfl) (by rfl) (by first | rfl | simp [setL] | omega) (idxL_map _ hv14) (by rfl) (by rfl) (by repeat (first | trivial | refine ⟨by first | rfl | simp [setL], ?_⟩)) (by rfl) (by rfl) (by rfl) (by rfl) (by exact setL_map _ _ _ v13) ?_
   refine X.nil ?_
   refine Run.blk ?_
   refine Run.reg ?_
   refine X.mv ?_
   refine X.addW (by rfl) (by rfl) (by rfl) ?_
   refine X.an ?_
   refine R.castS (t := 0) (.own 63 ((setL (setL a8 (W (b1 + a7)) v12) (W (b2 + a7)) v13).map int).length) (by rfl) (.inl (by first | rfl | simp [setL])) ?_
   exact hag5 n5 ((W (a7 + 1)), (setL (setL a8 (W (b1 + a7)) v12) (W (b2 + a7)) v13)) _ _ (by omega) h (by repeat (first | trivial | refine ⟨by first | rfl | simp [setL], ?_⟩)) (by repeat (first | trivial | refine ⟨by first | rfl | simp [setL], ?_⟩)) (by rfl) (by rfl)
  ·replace h := condF hc11 h
   refine Run.exit (by rfl) ?_
   exact R.mt hmeet3 a8 (Option.some.inj h)
 rintro p15 rfl
 cases h
 exact R.endM0 Try.results23 (by repeat (first | exact trivial | refine ⟨by rfl, ?_⟩)) rfl
theorem slices_rotateCmpFunc_int_pc (b0 : List Int) (b1 : Int) (b2 : Int) (b3 : Int) (g4 : Int → Int → Option Int) (g4id : Nat) (g4c : List PV) (hg4 : ∀ (x0 : Int) (x1 : Int) v, g4 x0 x1 = some v → PC Try.prog g4id ([int x0, int x1] ++ g4c) (int v)) (r : (List Int)) (h : slices_rotateCmpFunc_int b0 b1 b2 b3 g4 = some r) : PCM Try.prog 22 [.own 63 (b0.map int).length, int b1, int b2, int b3, .fn g4id g4c] [(63, .obj true 3 1 (b0.map int))] (.tuple []) [(63, .obj true 3 1 (r.map int))] := by
 unfold slices_rotateCmpFunc_int at h
 refine PCM.start Try.func22 Try.ntmps22 rfl ok22 rfl (by rfl) (by rfl) (by rfl) (by rfl) (by rfl) ?_
 refine Run.sr ?_
 refine X.mv ?_
 refine X.mv ?_
 refine X.subW (by rfl) (by rfl) (by rfl) ?_
 refine X.an ?_
 refine Run.sr ?_
 refine X.mv ?_
 refine X.mv ?_
 refine X.subW (by rfl) (by rfl) (by rfl) ?_
 refine X.an ?_
 refine Run.seq ?_
 obtain ⟨o1, ho1, h⟩ := bindE h
 refine R.join2 (β := Int × (List Int)) [(2, int b2), (4, .fn g4id g4c)] [] (fun p15 S => (0, .own 63 (p15.2.map int).length) :: (10, int p15.1) :: S) (fun p15 M => (63, .obj true 3 1 (p15.2.map int)) :: M) (fun p15 => p15 = o1) ?_ ?_
 ·intro JJ4 hmeet3
  have hup2 := h; clear h; have h := ho1; clear ho1
  refine Run.block ?_
  refine R.lp (β := Int × Int × (List Int)) [(2, int b2), (4, .fn g4id g4c)] [] (fun bb S => (0, .own 63 (bb.2.2.map int).length) :: (10, int bb.1) :: (11, int bb.2.1) :: S) (fun bb M => (63, .obj true 3 1 (bb.2.2.map int)) :: M) (fun n bb => slices_rotateCmpFunc_int_L1 b2 g4 n bb.1 bb.2.1 bb.2.2 = some o1) F0 ((W (b2 - b1)), (W (b3 - b2)), b0) h ?_
  clear h
  rintro JJ4 n4 ⟨a6, a7, a8⟩ hag4 h
  dsimp only at h
  obtain _ | n4 := n4
  ·exact absurd h (by simp [slices_rotateCmpFunc_int_L1])
  rw [slices_rotateCmpFunc_int_L1] at h
  refine Run.seq ?_
  refine Run.sr ?_
  refine X.mv ?_
  refine X.mv ?_
  refine X.bi ?_
  refine X.nil ?_
  refine R.cd (fun hc11 => ?_) (fun hc11 => ?_)
  ·replace h := condT hc11 h
   refine Run.skip ?_
   refine Run.block ?_
   refine Run.sr ?_
   refine X.mv ?_
   refine X.mv ?_
   refine X.bi ?_
   refine X.nil ?_
   refine R.cd (fun hc12 => ?_) (fun hc12 => ?_)
   ·replace h := condT hc12 h
    refine Run.sr ?_
    refine X.mv ?_
    refine X.mv ?_
    refine X.mv ?_
    refine X.subW (by rfl) (by rfl) (by rfl) ?_
    refine X.mv ?_
    refine X.mv ?_
    refine X.mv ?_
    obtain ⟨v13, hv13, h⟩ := bindE h
    refine X.callR [(63, 63)] [(63, (a8.map int).length)] [(63, (v13.map int).length)] (slices_swapRangeCmpFunc_int_pc _ _ _ _ g4 _ _ hg4 _ hv13) (by rfl) (by rfl) (.ownB 63 (by rfl) (by first | rfl | simp [setL] | omega) (by rfl) (.pureB (by rfl) (by repeat (first | trivial | refine ⟨by first | rfl | simp [setL], ?_⟩)) (.pureB (by rfl) (by repeat (first | trivial | refine ⟨by first | rfl | simp [setL], ?_⟩)) (.pureB (by rfl) (by repeat (first | trivial | refine ⟨by first | rfl | simp [setL], ?_⟩)) (.pureB (by rfl) (by repeat (first | trivial | refine ⟨by first | rfl | simp [setL], ?_⟩)) .nil))))) (by rfl) ⟨rfl, rfl, ⟨_, by rfl, by constructor⟩, by constructor, trivial⟩ (by rfl) (by rfl) (by rfl) (by rfl) ⟨rfl, ⟨_, _, _, _, by rfl, by rfl⟩, ⟨_, _, _, _, by rfl, by rfl⟩, trivial⟩ (by rfl) (by repeat (first | trivial | refine ⟨by first | rfl | simp [setL], ?_⟩)) (by rfl) (by rfl) (by rfl) (by rfl) (by rfl) ?_
    refine X.nil ?_
    refine Run.reg ?_
    refine X.mv ?_
    refine X.mv ?_
    refine X.subW (by rfl) (by rfl) (by rfl) ?_
    refine X.an ?_
    refine Run.blk ?_
    exact hag4 n4 ((W (a6 - a7)), a7, v13) _ _ (by omega) h (by repeat (first | trivial | refine ⟨by first | rfl | simp [setL], ?_⟩)) (by repeat (first | trivial | refine ⟨by first | rfl | simp [setL], ?_⟩)) (by rfl) (by rfl)
   ·replace h := condF hc12 h
    refine Run.sr ?_
    refine X.mv ?_
    refine X.mv ?_
    refine X.mv ?_
    refine X.subW (by rfl) (by rfl) (by rfl) ?_
    refine X.mv ?_
    refine X.mv ?_
    refine X.addW (by rfl) (by rfl) (by rfl) ?_
    refine X.mv ?_
    refine X.subW (by rfl) (by rfl) (by rfl) ?_
    refine X.mv ?_
    refine X.mv ?_
    obtain ⟨v14, hv14, h⟩ := bindE h
    refine X.callR [(63, 63)] [(63, (a8.map int).length)] [(63, (v14.map int).length)] (slices_swapRangeCmpFunc_int_pc _ _ _ _ g4 _ _ hg4 _ hv14) (by rfl) (by rfl) (.ownB 63 (by rfl) (by first | rfl | simp [setL] | omega) (by rfl) (.pureB (by rfl) (by repeat (first | trivial | refine ⟨by first | rfl | simp [setL], ?_⟩)) (.pureB (by rfl) (by repeat (first | trivial | refine ⟨by first | rfl | simp [setL], ?_⟩)) (.pureB (by rfl) (by repeat (first | trivial | refine ⟨by first | rfl | simp [setL], ?_⟩)) (.pureB (by rfl) (by repeat (first | trivial | refine ⟨by first | rfl | simp [setL], ?_⟩)) .nil))))) (by rfl) ⟨rfl, rfl, ⟨_, by rfl, by constructor⟩, by constructor, trivial⟩ (by rfl) (by rfl) (by rfl) (by rfl) ⟨rfl, ⟨_, _, _, _, by rfl, by rfl⟩, ⟨_, _, _, _, by rfl, by rfl⟩, trivial⟩ (by rfl) (by repeat (first | trivial | refine ⟨by first | rfl | simp [setL], ?_⟩)) (by rfl) (by rfl) (by rfl) (by rfl) (by rfl) ?_
    refine X.nil ?_
    refine Run.reg ?_
    refine X.mv ?_
    refine X.mv ?_
    refine X.subW (by rfl) (by rfl) (by rfl) ?_
    refine X.an ?_
    refine Run.blk ?_
    exact hag4 n4 (a6, (W (a7 - a6)), v14) _ _ (by omega) h (by repeat (first | trivial | refine ⟨by first | rfl | simp [setL], ?_⟩)) (by repeat (first | trivial | refine ⟨by first | rfl | simp [setL], ?_⟩)) (by rfl) (by rfl)
  ·replace h := condF hc11 h
   refine Run.exit (by rfl) ?_
   exact R.mt hmeet3 (a6, a8) (Option.some.inj h)
 rintro p15 rfl
 refine Run.reg ?_
 refine X.mv ?_
 refine X.mv ?_
 refine X.mv ?_
 refine X.subW (by rfl) (by rfl) (by rfl) ?_
 refine X.mv ?_
 refine X.mv ?_
 refine X.mv ?_
 obtain ⟨v16, hv16, h⟩ := bindE h
 refine X.callR [(63, 63)] [(63, (p15.2.map int).length)] [(63, (v16.map int).length)] (slices_swapRangeCmpFunc_int_pc _ _ _ _ g4 _ _ hg4 _ hv16) (by rfl) (by rfl) (.ownB 63 (by rfl) (by first | rfl | simp [setL] | omega) (by rfl) (.pureB (by rfl) (by repeat (first | trivial | refine ⟨by first | rfl | simp [setL], ?_⟩)) (.pureB (by rfl) (by repeat (first | trivial | refine ⟨by first | rfl | simp [setL], ?_⟩)) (.pureB (by rfl) (by repeat (first | trivial | refine ⟨by first | rfl | simp [setL], ?_⟩)) (.pureB (by rfl) (by repeat (first | trivial | refine ⟨by first | rfl | simp [setL], ?_⟩)) .nil))))) (by rfl) ⟨rfl, rfl, ⟨_, by rfl, by constructor⟩, by constructor, trivial⟩ (by rfl) (by rfl) (by rfl) (by rfl) ⟨rfl, ⟨_, _, _, _, by rfl, by rfl⟩, ⟨_, _, _, _, by rfl, by rfl⟩, trivial⟩ (by rfl) (by repeat (first | trivial | refine ⟨by first | rfl | simp [setL], ?_⟩)) (by rfl) (by rfl) (by rfl) (by rfl) (by rfl) ?_
 refine X.nil ?_
 cases h
 exact R.endM0 Try.results22 (by repeat (first | exact trivial | refine ⟨by rfl, ?_⟩)) rfl
theorem slices_symMergeCmpFunc_int_S_pc (rec : (List Int) → Int → Int → Int → (Int → Int → Option Int) → Option (List Int)) (hrec : ∀ (b0 : List Int) (b1 : Int) (b2 : Int) (b3 : Int) (g4 : Int → Int → Option Int) (g4id : Nat) (g4c : List PV) (hg4 : ∀ (x0 : Int) (x1 : Int) v, g4 x0 x1 = some v → PC Try.prog g4id ([int x0, int x1] ++ g4c) (int v)) (r : (List Int)), rec b0 b1 b2 b3 g4 = some r → PCM Try.prog 21 [.own 63 (b0.map int).length, int b1, int b2, int b3, .fn g4id g4c] [(63, .obj true 3 1 (b0.map int))] (.tuple []) [(63, .obj true 3 1 (r.map int))]) (b0 : List Int) (b1 : Int) (b2 : Int) (b3 : Int) (g4 : Int → Int → Option Int) (g4id : Nat) (g4c : List PV) (hg4 : ∀ (x0 : Int) (x1 : Int) v, g4 x0 x1 = some v → PC Try.prog g4id ([int x0, int x1] ++ g4c) (int v)) (r : (List Int)) (h : slices_symMergeCmpFunc_int_S rec b0 b1 b2 b3 g4 = some r) : PCM Try.prog 21 [.own 63 (b0.map int).length, int b1, int b2, int b3, .fn g4id g4c] [(63, .obj true 3 1 (b0.map int))] (.tuple []) [(63, .obj true 3 1 (r.map int))] := by
 unfold slices_symMergeCmpFunc_int_S at h
 refine PCM.start Try.func21 Try.ntmps21 rfl ok21 rfl (by rfl) (by rfl) (by rfl) (by rfl) (by rfl) ?_
 refine Run.seq ?_
 refine Run.sr ?_
 refine X.mv ?_
 refine X.mv ?_
 refine X.subW (by rfl) (by rfl) (by rfl) ?_
 refine X.bi ?_
 refine X.nil ?_
 refine R.cd (fun hc1 => ?_) (fun hc1 => ?_)
 ·replace h := condT hc1 h
  refine Run.sr ?_
  refine X.mv ?_
  refine X.an ?_
  refine Run.sr ?_
  refine X.mv ?_
  refine X.an ?_
  refine Run.seq ?_
  obtain ⟨o2, ho2, h⟩ := bindE h
  refine R.join2 (β := Int) [(1, int b1)] [(63, .obj true 3 1 (b0.map int))] (fun p16 S => (0, .own 63 (b0.map int).length) :: (10, int p16) :: S) (fun p16 M => M) (fun p16 => p16 = o2) ?_ ?_
  ·intro JJ5 hmeet4
   have hup3 := h; clear h; have h := ho2; clear ho2
   refine Run.block ?_
   refine R.lp (β := Int × Int) [(1, int b1), (4, .fn g4id g4c)] [(63, .obj true 3 1 (b0.map int))] (fun bb S => (0, .own 63 (b0.map int).length) :: (10, int bb.1) :: (11, int bb.2) :: S) (fun bb M => M) (fun n bb => slices_symMergeCmpFunc_int_L1 b0 b1 g4 n bb.1 bb.2 = some o2) F0 (b2, b3) h ?_
   clear h
   rintro JJ5 n5 ⟨a7, a8⟩ hag5 h
   dsimp only at h
   obtain _ | n5 := n5
   ·exact absurd h (by simp [slices_symMergeCmpFunc_int_L1])
   rw [slices_symMergeCmpFunc_int_L1] at h
   refine Run.seq ?_
   refine Run.sr ?_
   refine X.mv ?_
   refine X.mv ?_
   refine X.bi ?_
   refine X.nil ?_
   refine R.cd (fun hc11 => ?_) (fun hc11 => ?_)
   ·replace h := condT hc11 h
    refine Run.skip ?_
    refine Run.block ?_
    refine Run.sr ?_
    refine X.mv ?_
    refine X.mv ?_
    refine X.addW (by rfl) (by rfl) (by rfl) ?_
    refine X.conv Try.underlying41 (by rw [Try.underlying3]; rfl) (by rfl) (by rfl) ?_
    refine X.shr (by rfl) (by rfl) (by decide) (by rfl) ?_
    refine X.conv Try.underlying3 (by rw [Try.underlying41]; rfl) (by rfl) (by rfl) ?_
    refine X.an ?_
    refine Run.seq ?_
    refine Run.draw (footOf [(3, ([], [], [63], [])), (4, ([63], [], [], [])), (7, ([], [], [63], [])), (8, ([63], [], [], []))]) mixed (by kernel_rfl) (by kernel_rfl) ?_
    refine X.mv ?_
    refine X.mv ?_
    refine X.mv ?_
    obtain ⟨v12, hv12, h⟩ := bindE h
    refine X.index_xs elt22 (by rfl) (by rfl) (by first | rfl | simp [setL] | omega) (by rfl) (by exact (Int.toNat_of_nonneg (idxL_spec hv12).1).symm) (by have := idxL_lt hv12; first | exact this | (rw [List.length_map]; exact this)) (by rfl) (by rfl) ?_
    refine X.load_e shp3 (by rfl) (by rfl) (by rfl) (by first | rfl | simp [setL] | omega) (idxL_map _ hv12) (by rfl) (by rfl) (by rfl) ?_
    refine X.mv ?_
    refine X.mv ?_
    obtain ⟨v13, hv13, h⟩ := bindE h
    refine X.index_xs elt22 (by rfl) (by rfl) (by first | rfl | simp [setL] | omega) (by rfl) (by exact (Int.toNat_of_nonneg (idxL_spec hv13).1).symm) (by have := idxL_lt hv13; first | exact this | (rw [List.length_map]; exact this)) (by rfl) (by rfl) ?_
    refine X.load_e shp3 (by rfl) (by rfl) (by rfl) (by first | rfl | simp [setL] | omega) (idxL_map _ hv13) (by rfl) (by rfl) (by rfl) ?_
    obtain ⟨v14, hv14, h⟩ := bindE h
    refine X.cp (hg4 _ _ _ hv14) ?_
    refine X.bi ?_
    refine X.nil ?_
    refine R.cd (fun hc15 => ?_) (fun hc15 => ?_)
    ·replace h := condT hc15 h
     refine Run.reg ?_
     refine X.mv ?_
     refine X.addW (by rfl) (by rfl) (by rfl) ?_
     refine X.an ?_
     refine Run.blk ?_
     exact hag5 n5 ((W ((IntKind.i64.wrap (Int.fdiv (IntKind.u64.wrap (W (a7 + a8))) (2 ^ min (Int.toNat 1) (IntKind.bits .u64)))) + 1)), a8) _ _ (by omega) h (by repeat (first | trivial | refine ⟨by first | rfl | simp [setL], ?_⟩)) (by repeat (first | trivial | refine ⟨by first | rfl | simp [setL], ?_⟩)) (by rfl) (by rfl)
    ·replace h := condF hc15 h
     refine Run.reg ?_
     refine X.mv ?_
     refine X.an ?_
     refine Run.blk ?_
     exact hag5 n5 (a7, (IntKind.i64.wrap (Int.fdiv (IntKind.u64.wrap (W (a7 + a8))) (2 ^ min (Int.toNat 1) (IntKind.bits .u64))))) _ _ (by omega) h (by repeat (first | trivial | refine ⟨by first | rfl | simp [setL], ?_⟩)) (by repeat (first | trivial | refine ⟨by first | rfl | simp [setL], ?_⟩)) (by rfl) (by rfl)
   ·replace h := condF hc11 h
    refine Run.exit (by rfl) ?_
    exact R.mt hmeet4 a7 (Option.some.inj h)
  rintro p16 rfl
  refine Run.seq ?_
  refine Run.sr ?_
  refine X.mv ?_
  refine X.an ?_
  obtain ⟨o17, ho17, h⟩ := bindE h
  refine R.join2 (β := (List Int)) [] [] (fun p30 S => S) (fun p30 M => (63, .obj true 3 1 (p30.map int)) :: M) (fun p30 => p30 = o17) ?_ ?_
  ·intro JJ20 hmeet19
   have hup18 := h; clear h; have h := ho17; clear ho17
   refine Run.block ?_
   refine R.lp (β := Int × (List Int)) [(10, int p16)] [] (fun bb S => (0, .own 63 (bb.2.map int).length) :: (13, int bb.1) :: S) (fun bb M => (63, .obj true 3 1 (bb.2.map int)) :: M) (fun n bb => slices_symMergeCmpFunc_int_L2 p16 n bb.1 bb.2 = some o17) F0 (b1, b0) h ?_
   clear h
   rintro JJ20 n20 ⟨a22, a23⟩ hag20 h
   dsimp only at h
   obtain _ | n20 := n20
   ·exact absurd h (by simp [slices_symMergeCmpFunc_int_L2])
   rw [slices_symMergeCmpFunc_int_L2] at h
   refine Run.seq ?_
   refine Run.sr ?_
   refine X.mv ?_
   refine X.mv ?_
   refine X.subW (by rfl) (by rfl) (by rfl) ?_
   refine X.bi ?_
   refine X.nil ?_
   refine R.cd (fun hc26 => ?_) (fun hc26 => ?_)
   ·replace h := condT hc26 h
    refine Run.skip ?_
    refine Run.seq ?_
    refine Run.block ?_
    refine Run.draw (footOf [(8, ([], [], [63], [])), (9, ([63], [], [], [])), (12, ([], [], [63], [])), (13, ([63], [], [], [])), (14, ([], [], [63], [])), (15, ([63], [], [], [63])), (16, ([], [], [63], [])), (17, ([63], [], [], [63]))]) mixed (by kernel_rfl) (by kernel_rfl) ?_
    refine X.mv ?_
    refine X.mv ?_
    refine X.mv ?_
    refine X.mv ?_
    refine X.addW (by rfl) (by rfl) (by rfl) ?_
    refine X.mv ?_
    refine X.mv ?_
    refine X.addW (by rfl) (by rfl) (by rfl) ?_
    obtain ⟨v27, hv27, h⟩ := bindE h
    refine X.index_xs elt22 (by rfl) (by rfl) (by first | rfl | simp [setL] | omega) (by rfl) (by exact (Int.toNat_of_nonneg (idxL_spec hv27).1).symm) (by have := idxL_lt hv27; first | exact this | (rw [List.length_map]; exact this)) (by rfl) (by rfl) ?_
    refine X.load_e shp3 (by rfl) (by rfl) (by rfl) (by first | rfl | simp [setL] | omega) (idxL_map _ hv27) (by rfl) (by rfl) (by rfl) ?_
    refine X.mv ?_
    refine X.mv ?_
    obtain ⟨v28, hv28, h⟩ := bindE h
    refine X.index_xs elt22 (by rfl) (by rfl) (by first | rfl | simp [setL] | omega) (by rfl) (by exact (Int.toNat_of_nonneg (idxL_spec hv28).1).symm) (by have := idxL_lt hv28; first | exact this | (rw [List.length_map]; exact this)) (by rfl) (by rfl) ?_
    refine X.load_e shp3 (by rfl) (by rfl) (by rfl) (by first | rfl | simp [setL] | omega) (idxL_map _ hv28) (by rfl) (by rfl) (by rfl) ?_
    refine X.index_xs elt22 (by rfl) (by rfl) (by first | rfl | simp [setL] | omega) (by rfl) (by exact (Int.toNat_of_nonneg (idxL_spec hv28).1).symm) (by have := idxL_lt hv28; first | exact this | (rw [List.length_map]; exact this)) (by rfl) (by rfl) ?_
    refine X.store_es shp3 (by rfl) (by rfl) (by first | rfl | simp [setL] | omega) (idxL_map _ hv28) (by rfl) (by rfl) (by repeat (first | trivial | refine ⟨by first | rfl | simp [setL], ?_⟩)) (by rfl) (by rfl) (by rfl) (by rfl) (by exact setL_map _ _ _ v27) ?_
    obtain ⟨v29, hv29, h⟩ := bindE h
    refine X.index_xs elt22 (by rfl) (by rfl) (by first | rfl | simp [setL] | omega) (by rfl) (by exact (Int.toNat_of_nonneg (idxL_spec hv29).1).symm) (by have := idxL_lt hv29; first | exact this | (rw [List.length_map]; exact this)) (by rfl) (by rfl) ?_
    refine X.store_es shp3 (by rfl) (by rfl) (by first | rfl | simp [setL] | omega) (idxL_map _ hv29) (by rfl) (by rfl) (by repeat (first | trivial | refine ⟨by first | rfl | simp [setL], ?_⟩)) (by rfl) (by rfl) (by rfl) (by rfl) (by exact setL_map _ _ _ v28) ?_
    refine X.nil ?_
    refine Run.blk ?_
    refine Run.reg ?_
    refine X.mv ?_
    refine X.addW (by rfl) (by rfl) (by rfl) ?_
    refine X.an ?_
    refine R.castS (t := 0) (.own 63 ((setL (setL a23 a22 v27) (W (a22 + 1)) v28).map int).length) (by rfl) (.inl (by first | rfl | simp [setL])) ?_
    exact hag20 n20 ((W (a22 + 1)), (setL (setL a23 a22 v27) (W (a22 + 1)) v28)) _ _ (by omega) h (by repeat (first | trivial | refine ⟨by first | rfl | simp [setL], ?_⟩)) (by repeat (first | trivial | refine ⟨by first | rfl | simp [setL], ?_⟩)) (by rfl) (by rfl)
   ·replace h := condF hc26 h
    refine Run.exit (by rfl) ?_
    exact R.mt hmeet19 a23 (Option.some.inj h)
  rintro p30 rfl
  cases h
  exact R.finM0 Try.results21 (by repeat (first | exact trivial | refine ⟨by rfl, ?_⟩)) rfl
 ·replace h := condF hc1 h
  refine Run.skip ?_
  refine Run.seq ?_
  refine Run.sr ?_
  refine X.mv ?_
  refine X.mv ?_
  refine X.subW (by rfl) (by rfl) (by rfl) ?_
  refine X.bi ?_
  refine X.nil ?_
  refine R.cd (fun hc31 => ?_) (fun hc31 => ?_)
  ·replace h := condT hc31 h
   refine Run.sr ?_
   refine X.mv ?_
   refine X.an ?_
   refine Run.sr ?_
   refine X.mv ?_
   refine X.an ?_
   refine Run.seq ?_
   obtain ⟨o32, ho32, h⟩ := bindE h
   refine R.join2 (β := Int) [(2, int b2)] [(63, .obj true 3 1 (b0.map int))] (fun p46 S => (0, .own 63 (b0.map int).length) :: (14, int p46) :: S) (fun p46 M => M) (fun p46 => p46 = o32) ?_ ?_
   ·intro JJ35 hmeet34
    have hup33 := h; clear h; have h := ho32; clear ho32
    refine Run.block ?_
    refine R.lp (β := Int × Int) [(2, int b2), (4, .fn g4id g4c)] [(63, .obj true 3 1 (b0.map int))] (fun bb S => (0, .own 63 (b0.map int).length) :: (14, int bb.1) :: (15, int bb.2) :: S) (fun bb M => M) (fun n bb => slices_symMergeCmpFunc_int_L3 b0 b2 g4 n bb.1 bb.2 = some o32) F0 (b1, b2) h ?_
    clear h
    rintro JJ35 n35 ⟨a37, a38⟩ hag35 h
    dsimp only at h
    obtain _ | n35 := n35
    ·exact absurd h (by simp [slices_symMergeCmpFunc_int_L3])
    rw [slices_symMergeCmpFunc_int_L3] at h
    refine Run.seq ?_
    refine Run.sr ?_
    refine X.mv ?_
    refine X.mv ?_
    refine X.bi ?_
    refine X.nil ?_
    refine R.cd (fun hc41 => ?_) (fun hc41 => ?_)
    ·replace h := condT hc41 h
     refine Run.skip ?_
     refine Run.block ?_
     refine Run.sr ?_
     refine X.mv ?_
     refine X.mv ?_
     refine X.addW (by rfl) (by rfl) (by rfl) ?_
     refine X.conv Try.underlying41 (by rw [Try.underlying3]; rfl) (by rfl) (by rfl) ?_
     refine X.shr (by rfl) (by rfl) (by decide) (by rfl) ?_
     refine X.conv Try.underlying3 (by rw [Try.underlying41]; rfl) (by rfl) (by rfl) ?_
     refine X.an ?_
     refine Run.seq ?_
     refine Run.draw (footOf [(3, ([], [], [63], [])), (4, ([63], [], [], [])), (7, ([], [], [63], [])), (8, ([63], [], [], []))]) mixed (by kernel_rfl) (by kernel_rfl) ?_
     refine X.mv ?_
     refine X.mv ?_
     refine X.mv ?_
     obtain ⟨v42, hv42, h⟩ := bindE h
     refine X.index_xs elt22 (by rfl) (by rfl) (by first | rfl | simp [setL] | omega) (by rfl) (by exact (Int.toNat_of_nonneg (idxL_spec hv42).1).symm) (by have := idxL_lt hv42; first | exact this | (rw [List.length_map]; exact this)) (by rfl) (by rfl) ?_
     refine X.load_e shp3 (by rfl) (by rfl) (by rfl) (by first | rfl | simp [setL] | omega) (idxL_map _ hv42) (by rfl) (by rfl) (by rfl) ?_
     refine X.mv ?_
     refine X.mv ?_
     obtain ⟨v43, hv43, h⟩ := bindE h
     refine X.index_xs elt22 (by rfl) (by rfl) (by first | rfl | simp [setL] | omega) (by rfl) (by exact (Int.toNat_of_nonneg (idxL_spec hv43).1).symm) (by have := idxL_lt hv43; first | exact this | (rw [List.length_map]; exact this)) (by rfl) (by rfl) ?_
     refine X.load_e shp3 (by rfl) (by rfl) (by rfl) (by first | rfl | simp [setL] | omega) (idxL_map _ hv43) (by rfl) (by rfl) (by rfl) ?_
     obtain ⟨v44, hv44, h⟩ := bindE h
     refine X.cp (hg4 _ _ _ hv44) ?_
     refine X.bi ?_
     refine X.un (by rfl) (by rfl) (by rfl) ?_
     refine X.nil ?_
     refine R.cd (fun hc45 => ?_) (fun hc45 => ?_)
     ·replace h := condT hc45 h
      refine Run.reg ?_
      refine X.mv ?_
      refine X.addW (by rfl) (by rfl) (by rfl) ?_
      refine X.an ?_
      refine Run.blk ?_
      exact hag35 n35 ((W ((IntKind.i64.wrap (Int.fdiv (IntKind.u64.wrap (W (a37 + a38))) (2 ^ min (Int.toNat 1) (IntKind.bits .u64)))) + 1)), a38) _ _ (by omega) h (by repeat (first | trivial | refine ⟨by first | rfl | simp [setL], ?_⟩)) (by repeat (first | trivial | refine ⟨by first | rfl | simp [setL], ?_⟩)) (by rfl) (by rfl)
     ·replace h := condF hc45 h
      refine Run.reg ?_
      refine X.mv ?_
      refine X.an ?_
      refine Run.blk ?_
      exact hag35 n35 (a37, (IntKind.i64.wrap (Int.fdiv (IntKind.u64.wrap (W (a37 + a38))) (2 ^ min (Int.toNat 1) (IntKind.bits .u64))))) _ _ (by omega) h (by repeat (first | trivial | refine ⟨by first | rfl | simp [setL], ?_⟩)) (by repeat (first | trivial | refine ⟨by first | rfl | simp [setL], ?_⟩)) (by rfl) (by rfl)
    ·replace h := condF hc41 h
     refine Run.exit (by rfl) ?_
     exact R.mt hmeet34 a37 (Option.some.inj h)
   rintro p46 rfl
   refine Run.seq ?_
   refine Run.sr ?_
   refine X.mv ?_
   refine X.an ?_
   obtain ⟨o47, ho47, h⟩ := bindE h
   refine R.join2 (β := (List Int)) [] [] (fun p60 S => S) (fun p60 M => (63, .obj true 3 1 (p60.map int)) :: M) (fun p60 => p60 = o47) ?_ ?_
   ·intro JJ50 hmeet49
    have hup48 := h; clear h; have h := ho47; clear ho47
    refine Run.block ?_
    refine R.lp (β := Int × (List Int)) [(14, int p46)] [] (fun bb S => (0, .own 63 (bb.2.map int).length) :: (17, int bb.1) :: S) (fun bb M => (63, .obj true 3 1 (bb.2.map int)) :: M) (fun n bb => slices_symMergeCmpFunc_int_L4 p46 n bb.1 bb.2 = some o47) F0 (b2, b0) h ?_
    clear h
    rintro JJ50 n50 ⟨a52, a53⟩ hag50 h
    dsimp only at h
    obtain _ | n50 := n50
    ·exact absurd h (by simp [slices_symMergeCmpFunc_int_L4])
    rw [slices_symMergeCmpFunc_int_L4] at h
    refine Run.seq ?_
    refine Run.sr ?_
    refine X.mv ?_
    refine X.mv ?_
    refine X.bi ?_
    refine X.nil ?_
    refine R.cd (fun hc56 => ?_) (fun hc56 => ?_)
    ·replace h := condT hc56 h
     refine Run.skip ?_
     refine Run.seq ?_
     refine Run.block ?_
     refine Run.draw (footOf [(8, ([], [], [63], [])), (9, ([63], [], [], [])), (12, ([], [], [63], [])), (13, ([63], [], [], [])), (14, ([], [], [63], [])), (15, ([63], [], [], [63])), (16, ([], [], [63], [])), (17, ([63], [], [], [63]))]) mixed (by kernel_rfl) (by kernel_rfl) ?_
     refine X.mv ?_
     refine X.mv ?_
     refine X.mv ?_
     refine X.mv ?_
     refine X.subW (by rfl) (by rfl) (by rfl) ?_
     refine X.mv ?_
     refine X.mv ?_
     refine X.subW (by rfl) (by rfl) (by rfl) ?_
     obtain ⟨v57, hv57, h⟩ := bindE h
     refine X.index_xs elt22 (by rfl) (by rfl) (by first | rfl | simp [setL] | omega) (by rfl) (by exact (Int.toNat_of_nonneg (idxL_spec hv57).1).symm) (by have := idxL_lt hv57; first | exact this | (rw [List.length_map]; exact this)) (by rfl) (by rfl) ?_
     refine X.load_e shp3 (by rfl) (by rfl) (by rfl) (by first | rfl | simp [setL] | omega) (idxL_map _ hv57) (by rfl) (by rfl) (by rfl) ?_
     refine X.mv ?_
     refine X.mv ?_
     obtain ⟨v58, hv58, h⟩ := bindE h
     refine X.index_xs elt22 (by rfl) (by rfl) (by first | rfl | simp [setL] | omega) (by rfl) (by exact (Int.toNat_of_nonneg (idxL_spec hv58).1).symm) (by have := idxL_lt hv58; first | exact this | (rw [List.length_map]; exact this)) (by rfl) (by rfl) ?_
     refine X.load_e shp3 (by rfl) (by rfl) (by rfl) (by first | rfl | simp [setL] | omega) (idxL_map _ hv58) (by rfl) (by rfl) (by rfl) ?_
     refine X.index_xs elt22 (by rfl) (by rfl) (by first | rfl | simp [setL] | omega) (by rfl) (by exact (Int.toNat_of_nonneg (idxL_spec hv58).1).symm) (by have := idxL_lt hv58; first | exact this | (rw [List.length_map]; exact this)) (by rfl) (by rfl) ?_
     refine X.store_es shp3 (by rfl) (by rfl) (by first | rfl | simp [setL] | omega) (idxL_map _ hv58) (by rfl) (by rfl) (by repeat (first | trivial | refine ⟨by first | rfl | simp [setL], ?_⟩)) (by rfl) (by rfl) (by rfl) (by rfl) (by exact setL_map _ _ _ v57) ?_
     obtain ⟨v59, hv59, h⟩ := bindE h
     refine X.index_xs elt22 (by rfl) (by rfl) (by first | rfl | simp [setL] | omega) (by rfl) (by exact (Int.toNat_of_nonneg (idxL_spec hv59).1).symm) (by have := idxL_lt hv59; first | exact this | (rw [List.length_map]; exact this)) (by rfl) (by rfl) ?_
     refine X.store_es shp3 (by rfl) (by rfl) (by first | rfl | simp [setL] | omega) (idxL_map _ hv59) (by rfl) (by rfl) (by repeat (first | trivial | refine ⟨by first | rfl | simp [setL], ?_⟩)) (by rfl) (by rfl) (by rfl) (by rfl) (by exact setL_map _ _ _ v58) ?_
     refine X.nil ?_
     refine Run.blk ?_
     refine Run.reg ?_
     refine X.mv ?_
     refine X.subW (by rfl) (by rfl) (by rfl) ?_
     refine X.an ?_
     refine R.castS (t := 0) (.own 63 ((setL (setL a53 a52 v57) (W (a52 - 1)) v58).map int).length) (by rfl) (.inl (by first | rfl | simp [setL])) ?_
     exact hag50 n50 ((W (a52 - 1)), (setL (setL a53 a52 v57) (W (a52 - 1)) v58)) _ _ (by omega) h (by repeat (first | trivial | refine ⟨by first | rfl | simp [setL], ?_⟩)) (by repeat (first | trivial | refine ⟨by first | rfl | simp [setL], ?_⟩)) (by rfl) (by rfl)
    ·replace h := condF hc56 h
     refine Run.exit (by rfl) ?_
     exact R.mt hmeet49 a53 (Option.some.inj h)
   rintro p60 rfl
   cases h
   exact R.finM0 Try.results21 (by repeat (first | exact trivial | refine ⟨by rfl, ?_⟩)) rfl
  ·replace h := condF hc31 h
   refine Run.skip ?_
   refine Run.sr ?_
   refine X.mv ?_
   refine X.mv ?_
   refine X.addW (by rfl) (by rfl) (by rfl) ?_
   refine X.conv Try.underlying41 (by rw [Try.underlying3]; rfl) (by rfl) (by rfl) ?_
   refine X.shr (by rfl) (by rfl) (by decide) (by rfl) ?_
   refine X.conv Try.underlying3 (by rw [Try.underlying41]; rfl) (by rfl) (by rfl) ?_
   refine X.an ?_
   refine Run.sr ?_
   refine X.mv ?_
   refine X.mv ?_
   refine X.addW (by rfl) (by rfl) (by rfl) ?_
   refine X.an ?_
   refine Run.sr ?_
   refine X.as ?_
   refine X.an ?_
   refine Run.seq ?_
   refine Run.sr ?_
   refine X.mv ?_
   refine X.mv ?_
   refine X.bi ?_
   refine X.nil ?_
   obtain ⟨o61, ho61, h⟩ := bindE h
   refine R.join2 (β := Int × Int) [(1, int b1), (2, int b2), (3, int b3), (4, .fn g4id g4c), (18, int (IntKind.i64.wrap (Int.fdiv (IntKind.u64.wrap (W (b1 + b3))) (2 ^ min (Int.toNat 1) (IntKind.bits .u64))))), (19, int (W ((IntKind.i64.wrap (Int.fdiv (IntKind.u64.wrap (W (b1 + b3))) (2 ^ min (Int.toNat 1) (IntKind.bits .u64)))) + b2)))] [(63, .obj true 3 1 (b0.map int))] (fun p66 S => (0, .own 63 (b0.map int).length) :: (20, int p66.1) :: (21, int p66.2) :: S) (fun p66 M => M) (fun p66 => p66 = o61) ?_ ?_
   ·intro JJ64 hmeet63
    have hup62 := h; clear h; have h := ho61; clear ho61
    refine R.cd (fun hc65 => ?_) (fun hc65 => ?_)
    ·replace h := condT hc65 h
     refine Run.sr ?_
     refine X.mv ?_
     refine X.mv ?_
     refine X.subW (by rfl) (by rfl) (by rfl) ?_
     refine X.an ?_
     refine Run.reg ?_
     refine X.mv ?_
     refine X.an ?_
     exact R.mt hmeet63 ((W ((W ((IntKind.i64.wrap (Int.fdiv (IntKind.u64.wrap (W (b1 + b3))) (2 ^ min (Int.toNat 1) (IntKind.bits .u64)))) + b2)) - b3)), (IntKind.i64.wrap (Int.fdiv (IntKind.u64.wrap (W (b1 + b3))) (2 ^ min (Int.toNat 1) (IntKind.bits .u64))))) (Option.some.inj h)
    ·replace h := condF hc65 h
     refine Run.sr ?_
     refine X.mv ?_
     refine X.an ?_
     refine Run.reg ?_
     refine X.mv ?_
     refine X.an ?_
     exact R.mt hmeet63 (b1, b2) (Option.some.inj h)
   rintro p66 rfl
   refine Run.sr ?_
   refine X.mv ?_
   refine X.subW (by rfl) (by rfl) (by rfl) ?_
   refine X.an ?_
   refine Run.seq ?_
   obtain ⟨o67, ho67, h⟩ := bindE h
   refine R.join2 (β := Int) [(1, int b1), (2, int b2), (3, int b3), (4, .fn g4id g4c), (18, int (IntKind.i64.wrap (Int.fdiv (IntKind.u64.wrap (W (b1 + b3))) (2 ^ min (Int.toNat 1) (IntKind.bits .u64))))), (19, int (W ((IntKind.i64.wrap (Int.fdiv (IntKind.u64.wrap (W (b1 + b3))) (2 ^ min (Int.toNat 1) (IntKind.bits .u64)))) + b2)))] [(63, .obj true 3 1 (b0.map int))] (fun p81 S => (0, .own 63 (b0.map int).length) :: (20, int p81) :: S) (fun p81 M => M) (fun p81 => p81 = o67) ?_ ?_
   ·intro JJ70 hmeet69
    have hup68 := h; clear h; have h := ho67; clear ho67
    refine Run.block ?_
    refine R.lp (β := Int × Int) [(1, int b1), (2, int b2), (3, int b3), (4, .fn g4id g4c), (18, int (IntKind.i64.wrap (Int.fdiv (IntKind.u64.wrap (W (b1 + b3))) (2 ^ min (Int.toNat 1) (IntKind.bits .u64))))), (19, int (W ((IntKind.i64.wrap (Int.fdiv (IntKind.u64.wrap (W (b1 + b3))) (2 ^ min (Int.toNat 1) (IntKind.bits .u64)))) + b2))), (22, int (W ((W ((IntKind.i64.wrap (Int.fdiv (IntKind.u64.wrap (W (b1 + b3))) (2 ^ min (Int.toNat 1) (IntKind.bits .u64)))) + b2)) - 1)))] [(63, .obj true 3 1 (b0.map int))] (fun bb S => (0, .own 63 (b0.map int).length) :: (20, int bb.1) :: (21, int bb.2) :: S) (fun bb M => M) (fun n bb => slices_symMergeCmpFunc_int_L5 b0 b1 b2 b3 g4 n bb.1 bb.2 = some o67) F0 (p66.1, p66.2) h ?_
    clear h
    rintro JJ70 n70 ⟨a72, a73⟩ hag70 h
    dsimp only at h
    obtain _ | n70 := n70
    ·exact absurd h (by simp [slices_symMergeCmpFunc_int_L5])
    rw [slices_symMergeCmpFunc_int_L5] at h
    refine Run.seq ?_
    refine Run.sr ?_
    refine X.mv ?_
    refine X.mv ?_
    refine X.bi ?_
    refine X.nil ?_
    refine R.cd (fun hc76 => ?_) (fun hc76 => ?_)
    ·replace h := condT hc76 h
     refine Run.skip ?_
     refine Run.block ?_
     refine Run.sr ?_
     refine X.mv ?_
     refine X.mv ?_
     refine X.addW (by rfl) (by rfl) (by rfl) ?_
     refine X.conv Try.underlying41 (by rw [Try.underlying3]; rfl) (by rfl) (by rfl) ?_
     refine X.shr (by rfl) (by rfl) (by decide) (by rfl) ?_
     refine X.conv Try.underlying3 (by rw [Try.underlying41]; rfl) (by rfl) (by rfl) ?_
     refine X.an ?_
     refine Run.seq ?_
     refine Run.draw (footOf [(5, ([], [], [63], [])), (6, ([63], [], [], [])), (9, ([], [], [63], [])), (10, ([63], [], [], []))]) mixed (by kernel_rfl) (by kernel_rfl) ?_
     refine X.mv ?_
     refine X.mv ?_
     refine X.mv ?_
     refine X.mv ?_
     refine X.subW (by rfl) (by rfl) (by rfl) ?_
     obtain ⟨v77, hv77, h⟩ := bindE h
     refine X.index_xs elt22 (by rfl) (by rfl) (by first | rfl | simp [setL] | omega) (by rfl) (by exact (Int.toNat_of_nonneg (idxL_spec hv77).1).symm) (by have := idxL_lt hv77; first | exact this | (rw [List.length_map]; exact this)) (by rfl) (by rfl) ?_
     refine X.load_e shp3 (by rfl) (by rfl) (by rfl) (by first | rfl | simp [setL] | omega) (idxL_map _ hv77) (by rfl) (by rfl) (by rfl) ?_
     refine X.mv ?_
     refine X.mv ?_
     obtain ⟨v78, hv78, h⟩ := bindE h
     refine X.index_xs elt22 (by rfl) (by rfl) (by first | rfl | simp [setL] | omega) (by rfl) (by exact (Int.toNat_of_nonneg (idxL_spec hv78).1).symm) (by have := idxL_lt hv78; first | exact this | (rw [List.length_map]; exact this)) (by rfl) (by rfl) ?_
     refine X.load_e shp3 (by rfl) (by rfl) (by rfl) (by first | rfl | simp [setL] | omega) (idxL_map _ hv78) (by rfl) (by rfl) (by rfl) ?_
     obtain ⟨v79, hv79, h⟩ := bindE h
     refine X.cp (hg4 _ _ _ hv79) ?_
     refine X.bi ?_
     refine X.un (by rfl) (by rfl) (by rfl) ?_
     refine X.nil ?_
     refine R.cd (fun hc80 => ?_) (fun hc80 => ?_)
     ·replace h := condT hc80 h
      refine Run.reg ?_
      refine X.mv ?_
      refine X.addW (by rfl) (by rfl) (by rfl) ?_
      refine X.an ?_
      refine Run.blk ?_
      exact hag70 n70 ((W ((IntKind.i64.wrap (Int.fdiv (IntKind.u64.wrap (W (a72 + a73))) (2 ^ min (Int.toNat 1) (IntKind.bits .u64)))) + 1)), a73) _ _ (by omega) h (by repeat (first | trivial | refine ⟨by first | rfl | simp [setL], ?_⟩)) (by repeat (first | trivial | refine ⟨by first | rfl | simp [setL], ?_⟩)) (by rfl) (by rfl)
     ·replace h := condF hc80 h
      refine Run.reg ?_
      refine X.mv ?_
      refine X.an ?_
      refine Run.blk ?_
      exact hag70 n70 (a72, (IntKind.i64.wrap (Int.fdiv (IntKind.u64.wrap (W (a72 + a73))) (2 ^ min (Int.toNat 1) (IntKind.bits .u64))))) _ _ (by omega) h (by repeat (first | trivial | refine ⟨by first | rfl | simp [setL], ?_⟩)) (by repeat (first | trivial | refine ⟨by first | rfl | simp [setL], ?_⟩)) (by rfl) (by rfl)
    ·replace h := condF hc76 h
     refine Run.exit (by rfl) ?_
     exact R.mt hmeet69 a72 (Option.some.inj h)
   rintro p81 rfl
   refine Run.sr ?_
   refine X.mv ?_
   refine X.mv ?_
   refine X.subW (by rfl) (by rfl) (by rfl) ?_
   refine X.an ?_
   refine Run.seq ?_
   refine Run.seq ?_
   obtain ⟨e82, he82, h2⟩ := bindE h
   refine R.regG [(0, .own 63 (b0.map int).length), (1, int b1), (2, int b2), (3, int b3), (4, .fn g4id g4c), (18, int (IntKind.i64.wrap (Int.fdiv (IntKind.u64.wrap (W (b1 + b3))) (2 ^ min (Int.toNat 1) (IntKind.bits .u64))))), (20, int p81), (24, int (W ((W ((IntKind.i64.wrap (Int.fdiv (IntKind.u64.wrap (W (b1 + b3))) (2 ^ min (Int.toNat 1) (IntKind.bits .u64)))) + b2)) - p81))), (185, bool e82)] [(63, .obj true 3 1 (b0.map int))] ?_ ?_
   ·clear h; have h := he82; clear he82 h2
    refine X.mv ?_
    refine X.mv ?_
    refine X.bi ?_
    refine X.mv ?_
    refine X.iG (fun hb83 => ?_) (fun hb83 => ?_)
    ·replace h := condT hb83 h
     refine X.mv ?_
     refine X.gy ?_
     refine X.mv ?_
     refine X.gy ?_
     refine X.bi ?_
     refine X.pT ?_
     cases h
     exact X.eG
    ·replace h := condF hb83 h
     refine X.gn ?_
     refine X.gn ?_
     refine X.pF ?_
     cases h
     exact X.eG
   replace h := h2; clear h2
   obtain ⟨o84, ho84, h⟩ := bindE h
   refine R.join2 (β := (List Int)) [(1, int b1), (3, int b3), (4, .fn g4id g4c), (18, int (IntKind.i64.wrap (Int.fdiv (IntKind.u64.wrap (W (b1 + b3))) (2 ^ min (Int.toNat 1) (IntKind.bits .u64))))), (20, int p81), (24, int (W ((W ((IntKind.i64.wrap (Int.fdiv (IntKind.u64.wrap (W (b1 + b3))) (2 ^ min (Int.toNat 1) (IntKind.bits .u64)))) + b2)) - p81)))] [] (fun p90 S => (0, .own 63 (p90.map int).length) :: S) (fun p90 M => (63, .obj true 3 1 (p90.map int)) :: M) (fun p90 => p90 = o84) ?_ ?_
   ·intro JJ87 hmeet86
    have hup85 := h; clear h; have h := ho84; clear ho84
    refine R.cd (fun hc88 => ?_) (fun hc88 => ?_)
    ·replace h := condT hc88 h
     refine Run.reg ?_
     refine X.mv ?_
     refine X.mv ?_
     refine X.mv ?_
     refine X.mv ?_
     refine X.mv ?_
     obtain ⟨v89, hv89, h⟩ := bindE h
     refine X.callR [(63, 63)] [(63, (b0.map int).length)] [(63, (v89.map int).length)] (slices_rotateCmpFunc_int_pc _ _ _ _ g4 _ _ hg4 _ hv89) (by rfl) (by rfl) (.ownB 63 (by rfl) (by first | rfl | simp [setL] | omega) (by rfl) (.pureB (by rfl) (by repeat (first | trivial | refine ⟨by first | rfl | simp [setL], ?_⟩)) (.pureB (by rfl) (by repeat (first | trivial | refine ⟨by first | rfl | simp [setL], ?_⟩)) (.pureB (by rfl) (by repeat (first | trivial | refine ⟨by first | rfl | simp [setL], ?_⟩)) (.pureB (by rfl) (by repeat (first | trivial | refine ⟨by first | rfl | simp [setL], ?_⟩)) .nil))))) (by rfl) ⟨rfl, rfl, ⟨_, by rfl, by constructor⟩, by constructor, trivial⟩ (by rfl) (by rfl) (by rfl) (by rfl) ⟨rfl, ⟨_, _, _, _, by rfl, by rfl⟩, ⟨_, _, _, _, by rfl, by rfl⟩, trivial⟩ (by rfl) (by repeat (first | trivial | refine ⟨by first | rfl | simp [setL], ?_⟩)) (by rfl) (by rfl) (by rfl) (by rfl) (by rfl) ?_
     refine X.nil ?_
     exact R.mt hmeet86 v89 (Option.some.inj h)
    ·replace h := condF hc88 h
     refine Run.skip ?_
     exact R.mt hmeet86 b0 (Option.some.inj h)
   rintro p90 rfl
   refine Run.seq ?_
   refine Run.seq ?_
   obtain ⟨e91, he91, h2⟩ := bindE h
   refine R.regG [(0, .own 63 (p90.map int).length), (1, int b1), (3, int b3), (4, .fn g4id g4c), (18, int (IntKind.i64.wrap (Int.fdiv (IntKind.u64.wrap (W (b1 + b3))) (2 ^ min (Int.toNat 1) (IntKind.bits .u64))))), (20, int p81), (24, int (W ((W ((IntKind.i64.wrap (Int.fdiv (IntKind.u64.wrap (W (b1 + b3))) (2 ^ min (Int.toNat 1) (IntKind.bits .u64)))) + b2)) - p81))), (199, bool e91)] [(63, .obj true 3 1 (p90.map int))] ?_ ?_
   ·clear h; have h := he91; clear he91 h2
    refine X.mv ?_
    refine X.mv ?_
    refine X.bi ?_
    refine X.mv ?_
    refine X.iG (fun hb92 => ?_) (fun hb92 => ?_)
    ·replace h := condT hb92 h
     refine X.mv ?_
     refine X.gy ?_
     refine X.mv ?_
     refine X.gy ?_
     refine X.bi ?_
     refine X.pT ?_
     cases h
     exact X.eG
    ·replace h := condF hb92 h
     refine X.gn ?_
     refine X.gn ?_
     refine X.pF ?_
     cases h
     exact X.eG
   replace h := h2; clear h2
   obtain ⟨o93, ho93, h⟩ := bindE h
   refine R.join2 (β := (List Int)) [(3, int b3), (4, .fn g4id g4c), (18, int (IntKind.i64.wrap (Int.fdiv (IntKind.u64.wrap (W (b1 + b3))) (2 ^ min (Int.toNat 1) (IntKind.bits .u64))))), (24, int (W ((W ((IntKind.i64.wrap (Int.fdiv (IntKind.u64.wrap (W (b1 + b3))) (2 ^ min (Int.toNat 1) (IntKind.bits .u64)))) + b2)) - p81)))] [] (fun p99 S => (0, .own 63 (p99.map int).length) :: S) (fun p99 M => (63, .obj true 3 1 (p99.map int)) :: M) (fun p99 => p99 = o93) ?_ ?_
   ·intro JJ96 hmeet95
    have hup94 := h; clear h; have h := ho93; clear ho93
    refine R.cd (fun hc97 => ?_) (fun hc97 => ?_)
    ·replace h := condT hc97 h
     refine Run.reg ?_
     refine X.mv ?_
     refine X.mv ?_
     refine X.mv ?_
     refine X.mv ?_
     refine X.mv ?_
     obtain ⟨v98, hv98, h⟩ := bindE h
     refine X.callR [(63, 63)] [(63, (p90.map int).length)] [(63, (v98.map int).length)] (hrec _ _ _ _ g4 _ _ hg4 _ hv98) (by rfl) (by rfl) (.ownB 63 (by rfl) (by first | rfl | simp [setL] | omega) (by rfl) (.pureB (by rfl) (by repeat (first | trivial | refine ⟨by first | rfl | simp [setL], ?_⟩)) (.pureB (by rfl) (by repeat (first | trivial | refine ⟨by first | rfl | simp [setL], ?_⟩)) (.pureB (by rfl) (by repeat (first | trivial | refine ⟨by first | rfl | simp [setL], ?_⟩)) (.pureB (by rfl) (by repeat (first | trivial | refine ⟨by first | rfl | simp [setL], ?_⟩)) .nil))))) (by rfl) ⟨rfl, rfl, ⟨_, by rfl, by constructor⟩, by constructor, trivial⟩ (by rfl) (by rfl) (by rfl) (by rfl) ⟨rfl, ⟨_, _, _, _, by rfl, by rfl⟩, ⟨_, _, _, _, by rfl, by rfl⟩, trivial⟩ (by rfl) (by repeat (first | trivial | refine ⟨by first | rfl | simp [setL], ?_⟩)) (by rfl) (by rfl) (by rfl) (by rfl) (by rfl) ?_
     refine X.nil ?_
     exact R.mt hmeet95 v98 (Option.some.inj h)
    ·replace h := condF hc97 h
     refine Run.skip ?_
     exact R.mt hmeet95 p90 (Option.some.inj h)
   rintro p99 rfl
   refine Run.seq ?_
   obtain ⟨e100, he100, h2⟩ := bindE h
   refine R.regG [(0, .own 63 (p99.map int).length), (3, int b3), (4, .fn g4id g4c), (18, int (IntKind.i64.wrap (Int.fdiv (IntKind.u64.wrap (W (b1 + b3))) (2 ^ min (Int.toNat 1) (IntKind.bits .u64))))), (24, int (W ((W ((IntKind.i64.wrap (Int.fdiv (IntKind.u64.wrap (W (b1 + b3))) (2 ^ min (Int.toNat 1) (IntKind.bits .u64)))) + b2)) - p81))), (213, bool e100)] [(63, .obj true 3 1 (p99.map int))] ?_ ?_
   ·clear h; have h := he100; clear he100 h2
    refine X.mv ?_
    refine X.mv ?_
    refine X.bi ?_
    refine X.mv ?_
    refine X.iG (fun hb101 => ?_) (fun hb101 => ?_)
    ·replace h := condT hb101 h
     refine X.mv ?_
     refine X.gy ?_
     refine X.mv ?_
     refine X.gy ?_
     refine X.bi ?_
     refine X.pT ?_
     cases h
     exact X.eG
    ·replace h := condF hb101 h
     refine X.gn ?_
     refine X.gn ?_
     refine X.pF ?_
     cases h
     exact X.eG
   replace h := h2; clear h2
   refine R.cd (fun hc102 => ?_) (fun hc102 => ?_)
   ·replace h := condT hc102 h
    refine Run.reg ?_
    refine X.mv ?_
    refine X.mv ?_
    refine X.mv ?_
    refine X.mv ?_
    refine X.mv ?_
    obtain ⟨v103, hv103, h⟩ := bindE h
    refine X.callR [(63, 63)] [(63, (p99.map int).length)] [(63, (v103.map int).length)] (hrec _ _ _ _ g4 _ _ hg4 _ hv103) (by rfl) (by rfl) (.ownB 63 (by rfl) (by first | rfl | simp [setL] | omega) (by rfl) (.pureB (by rfl) (by repeat (first | trivial | refine ⟨by first | rfl | simp [setL], ?_⟩)) (.pureB (by rfl) (by repeat (first | trivial | refine ⟨by first | rfl | simp [setL], ?_⟩)) (.pureB (by rfl) (by repeat (first | trivial | refine ⟨by first | rfl | simp [setL], ?_⟩)) (.pureB (by rfl) (by repeat (first | trivial | refine ⟨by first | rfl | simp [setL], ?_⟩)) .nil))))) (by rfl) ⟨rfl, rfl, ⟨_, by rfl, by constructor⟩, by constructor, trivial⟩ (by rfl) (by rfl) (by rfl) (by rfl) ⟨rfl, ⟨_, _, _, _, by rfl, by rfl⟩, ⟨_, _, _, _, by rfl, by rfl⟩, trivial⟩ (by rfl) (by repeat (first | trivial | refine ⟨by first | rfl | simp [setL], ?_⟩)) (by rfl) (by rfl) (by rfl) (by rfl) (by rfl) ?_
    refine X.nil ?_
    cases h
    exact R.endM0 Try.results21 (by repeat (first | exact trivial | refine ⟨by rfl, ?_⟩)) rfl
   ·replace h := condF hc102 h
    refine Run.skip ?_
    cases h
    exact R.endM0 Try.results21 (by repeat (first | exact trivial | refine ⟨by rfl, ?_⟩)) rfl
theorem slices_symMergeCmpFunc_int_pc (b0 : List Int) (b1 : Int) (b2 : Int) (b3 : Int) (g4 : Int → Int → Option Int) (g4id : Nat) (g4c : List PV) (hg4 : ∀ (x0 : Int) (x1 : Int) v, g4 x0 x1 = some v → PC Try.prog g4id ([int x0, int x1] ++ g4c) (int v)) (r : (List Int)) (h : slices_symMergeCmpFunc_int b0 b1 b2 b3 g4 = some r) : PCM Try.prog 21 [.own 63 (b0.map int).length, int b1, int b2, int b3, .fn g4id g4c] [(63, .obj true 3 1 (b0.map int))] (.tuple []) [(63, .obj true 3 1 (r.map int))] := by
 have key : ∀ (n : Nat) (b0 : List Int) (b1 : Int) (b2 : Int) (b3 : Int) (g4 : Int → Int → Option Int) (g4id : Nat) (g4c : List PV) (hg4 : ∀ (x0 : Int) (x1 : Int) v, g4 x0 x1 = some v → PC Try.prog g4id ([int x0, int x1] ++ g4c) (int v)) (r : (List Int)), slices_symMergeCmpFunc_int_R n b0 b1 b2 b3 g4 = some r → PCM Try.prog 21 [.own 63 (b0.map int).length, int b1, int b2, int b3, .fn g4id g4c] [(63, .obj true 3 1 (b0.map int))] (.tuple []) [(63, .obj true 3 1 (r.map int))] := by
  intro n
  induction n with
  | zero => intro b0 b1 b2 b3 g4 g4id g4c hg4 r h; cases h
  | succ n ih => intro b0 b1 b2 b3 g4 g4id g4c hg4 r h; exact slices_symMergeCmpFunc_int_S_pc (slices_symMergeCmpFunc_int_R n) ih b0 b1 b2 b3 g4 g4id g4c hg4 r h
 exact key F0 b0 b1 b2 b3 g4 g4id g4c hg4 r h
theorem slices_stableCmpFunc_int_pc (b0 : List Int) (b1 : Int) (g2 : Int → Int → Option Int) (g2id : Nat) (g2c : List PV) (hg2 : ∀ (x0 : Int) (x1 : Int) v, g2 x0 x1 = some v → PC Try.prog g2id ([int x0, int x1] ++ g2c) (int v)) (r : (List Int)) (h : slices_stableCmpFunc_int b0 b1 g2 = some r) : PCM Try.prog 18 [.own 63 (b0.map int).length, int b1, .fn g2id g2c] [(63, .obj true 3 1 (b0.map int))] (.tuple []) [(63, .obj true 3 1 (r.map int))] := by
 unfold slices_stableCmpFunc_int at h
 refine PCM.start Try.func18 Try.ntmps18 rfl ok18 rfl (by rfl) (by rfl) (by rfl) (by rfl) (by rfl) ?_
 refine Run.sr ?_
 refine X.an ?_
 refine Run.sr ?_
 refine X.mv ?_
 refine X.as ?_
 refine X.an ?_
 refine Run.seq ?_
 obtain ⟨o1, ho1, h⟩ := bindE h
 refine R.join2 (β := Int × (List Int)) [(1, int b1), (2, .fn g2id g2c), (6, int 20)] [] (fun p13 S => (0, .own 63 (p13.2.map int).length) :: (7, int p13.1) :: S) (fun p13 M => (63, .obj true 3 1 (p13.2.map int)) :: M) (fun p13 => p13 = o1) ?_ ?_
 ·intro JJ4 hmeet3
  have hup2 := h; clear h; have h := ho1; clear ho1
  refine Run.block ?_
  refine R.lp (β := Int × Int × (List Int)) [(1, int b1), (2, .fn g2id g2c), (6, int 20)] [] (fun bb S => (0, .own 63 (bb.2.2.map int).length) :: (7, int bb.1) :: (8, int bb.2.1) :: S) (fun bb M => (63, .obj true 3 1 (bb.2.2.map int)) :: M) (fun n bb => slices_stableCmpFunc_int_L1 b1 g2 n bb.1 bb.2.1 bb.2.2 = some o1) F0 (0, 20, b0) h ?_
  clear h
  rintro JJ4 n4 ⟨a6, a7, a8⟩ hag4 h
  dsimp only at h
  obtain _ | n4 := n4
  ·exact absurd h (by simp [slices_stableCmpFunc_int_L1])
  rw [slices_stableCmpFunc_int_L1] at h
  refine Run.seq ?_
  refine Run.sr ?_
  refine X.mv ?_
  refine X.mv ?_
  refine X.bi ?_
  refine X.nil ?_
  refine R.cd (fun hc11 => ?_) (fun hc11 => ?_)
  ·replace h := condT hc11 h
   refine Run.skip ?_
   refine Run.block ?_
   refine Run.sr ?_
   refine X.mv ?_
   refine X.mv ?_
   refine X.mv ?_
   refine X.mv ?_
   obtain ⟨v12, hv12, h⟩ := bindE h
   refine X.callR [(63, 63)] [(63, (a8.map int).length)] [(63, (v12.map int).length)] (slices_insertionSortCmpFunc_int_pc _ _ _ g2 _ _ hg2 _ hv12) (by rfl) (by rfl) (.ownB 63 (by rfl) (by first | rfl | simp [setL] | omega) (by rfl) (.pureB (by rfl) (by repeat (first | trivial | refine ⟨by first | rfl | simp [setL], ?_⟩)) (.pureB (by rfl) (by repeat (first | trivial | refine ⟨by first | rfl | simp [setL], ?_⟩)) (.pureB (by rfl) (by repeat (first | trivial | refine ⟨by first | rfl | simp [setL], ?_⟩)) .nil)))) (by rfl) ⟨rfl, rfl, ⟨_, by rfl, by constructor⟩, by constructor, trivial⟩ (by rfl) (by rfl) (by rfl) (by rfl) ⟨rfl, ⟨_, _, _, _, by rfl, by rfl⟩, ⟨_, _, _, _, by rfl, by rfl⟩, trivial⟩ (by rfl) (by repeat (first | trivial | refine ⟨by first | rfl | simp [setL], ?_⟩)) (by rfl) (by rfl) (by rfl) (by rfl) (by rfl) ?_
   refine X.nil ?_
   refine Run.sr ?_
   refine X.mv ?_
   refine X.an ?_
   refine Run.reg ?_
   refine X.mv ?_
   refine X.mv ?_
   refine X.addW (by rfl) (by rfl) (by rfl) ?_
   refine X.an ?_
   refine Run.blk ?_
   exact hag4 n4 (a7, (W (a7 + 20)), v12) _ _ (by omega) h (by repeat (first | trivial | refine ⟨by first | rfl | simp [setL], ?_⟩)) (by repeat (first | trivial | refine ⟨by first | rfl | simp [setL], ?_⟩)) (by rfl) (by rfl)
  ·replace h := condF hc11 h
   refine Run.exit (by rfl) ?_
   exact R.mt hmeet3 (a6, a8) (Option.some.inj h)
 rintro p13 rfl
 refine Run.sr ?_
 refine X.mv ?_
 refine X.mv ?_
 refine X.mv ?_
 refine X.mv ?_
 obtain ⟨v14, hv14, h⟩ := bindE h
 refine X.callR [(63, 63)] [(63, (p13.2.map int).length)] [(63, (v14.map int).length)] (slices_insertionSortCmpFunc_int_pc _ _ _ g2 _ _ hg2 _ hv14) (by rfl) (by rfl) (.ownB 63 (by rfl) (by first | rfl | simp [setL] | omega) (by rfl) (.pureB (by rfl) (by repeat (first | trivial | refine ⟨by first | rfl | simp [setL], ?_⟩)) (.pureB (by rfl) (by repeat (first | trivial | refine ⟨by first | rfl | simp [setL], ?_⟩)) (.pureB (by rfl) (by repeat (first | trivial | refine ⟨by first | rfl | simp [setL], ?_⟩)) .nil)))) (by rfl) ⟨rfl, rfl, ⟨_, by rfl, by constructor⟩, by constructor, trivial⟩ (by rfl) (by rfl) (by rfl) (by rfl) ⟨rfl, ⟨_, _, _, _, by rfl, by rfl⟩, ⟨_, _, _, _, by rfl, by rfl⟩, trivial⟩ (by rfl) (by repeat (first | trivial | refine ⟨by first | rfl | simp [setL], ?_⟩)) (by rfl) (by rfl) (by rfl) (by rfl) (by rfl) ?_
 refine X.nil ?_
 obtain ⟨o15, ho15, h⟩ := bindE h
 refine R.join2 (β := (List Int)) [] [] (fun p40 S => S) (fun p40 M => (63, .obj true 3 1 (p40.map int)) :: M) (fun p40 => p40 = o15) ?_ ?_
 ·intro JJ18 hmeet17
  have hup16 := h; clear h; have h := ho15; clear ho15
  refine Run.block ?_
  refine R.lp (β := Int × (List Int)) [(1, int b1), (2, .fn g2id g2c)] [] (fun bb S => (0, .own 63 (bb.2.map int).length) :: (6, int bb.1) :: S) (fun bb M => (63, .obj true 3 1 (bb.2.map int)) :: M) (fun n bb => slices_stableCmpFunc_int_L2 b1 g2 n bb.1 bb.2 = some o15) F0 (20, v14) h ?_
  clear h
  rintro JJ18 n18 ⟨a20, a21⟩ hag18 h
  dsimp only at h
  obtain _ | n18 := n18
  ·exact absurd h (by simp [slices_stableCmpFunc_int_L2])
  rw [slices_stableCmpFunc_int_L2] at h
  refine Run.seq ?_
  refine Run.sr ?_
  refine X.mv ?_
  refine X.mv ?_
  refine X.bi ?_
  refine X.nil ?_
  refine R.cd (fun hc24 => ?_) (fun hc24 => ?_)
  ·replace h := condT hc24 h
   refine Run.skip ?_
   refine Run.block ?_
   refine Run.sr ?_
   refine X.mv ?_
   refine X.mulW (by rfl) (by rfl) (by rfl) ?_
   refine X.as ?_
   refine X.an ?_
   refine Run.seq ?_
   obtain ⟨o25, ho25, h⟩ := bindE h
   refine R.join2 (β := Int × (List Int)) [(1, int b1), (2, .fn g2id g2c), (6, int a20)] [] (fun p37 S => (0, .own 63 (p37.2.map int).length) :: (7, int p37.1) :: S) (fun p37 M => (63, .obj true 3 1 (p37.2.map int)) :: M) (fun p37 => p37 = o25) ?_ ?_
   ·intro JJ28 hmeet27
    have hup26 := h; clear h; have h := ho25; clear ho25
    refine Run.block ?_
    refine R.lp (β := Int × Int × (List Int)) [(1, int b1), (2, .fn g2id g2c), (6, int a20)] [] (fun bb S => (0, .own 63 (bb.2.2.map int).length) :: (7, int bb.1) :: (8, int bb.2.1) :: S) (fun bb M => (63, .obj true 3 1 (bb.2.2.map int)) :: M) (fun n bb => slices_stableCmpFunc_int_L3 b1 g2 a20 n bb.1 bb.2.1 bb.2.2 = some o25) F0 (0, (W (2 * a20)), a21) h ?_
    clear h
    rintro JJ28 n28 ⟨a30, a31, a32⟩ hag28 h
    dsimp only at h
    obtain _ | n28 := n28
    ·exact absurd h (by simp [slices_stableCmpFunc_int_L3])
    rw [slices_stableCmpFunc_int_L3] at h
    refine Run.seq ?_
    refine Run.sr ?_
    refine X.mv ?_
    refine X.mv ?_
    refine X.bi ?_
    refine X.nil ?_
    refine R.cd (fun hc35 => ?_) (fun hc35 => ?_)
    ·replace h := condT hc35 h
     refine Run.skip ?_
     refine Run.block ?_
     refine Run.sr ?_
     refine X.mv ?_
     refine X.mv ?_
     refine X.mv ?_
     refine X.mv ?_
     refine X.addW (by rfl) (by rfl) (by rfl) ?_
     refine X.mv ?_
     refine X.mv ?_
     obtain ⟨v36, hv36, h⟩ := bindE h
     refine X.callR [(63, 63)] [(63, (a32.map int).length)] [(63, (v36.map int).length)] (slices_symMergeCmpFunc_int_pc _ _ _ _ g2 _ _ hg2 _ hv36) (by rfl) (by rfl) (.ownB 63 (by rfl) (by first | rfl | simp [setL] | omega) (by rfl) (.pureB (by rfl) (by repeat (first | trivial | refine ⟨by first | rfl | simp [setL], ?_⟩)) (.pureB (by rfl) (by repeat (first | trivial | refine ⟨by first | rfl | simp [setL], ?_⟩)) (.pureB (by rfl) (by repeat (first | trivial | refine ⟨by first | rfl | simp [setL], ?_⟩)) (.pureB (by rfl) (by repeat (first | trivial | refine ⟨by first | rfl | simp [setL], ?_⟩)) .nil))))) (by rfl) ⟨rfl, rfl, ⟨_, by rfl, by constructor⟩, by constructor, trivial⟩ (by rfl) (by rfl) (by rfl) (by rfl) ⟨rfl, ⟨_, _, _, _, by rfl, by rfl⟩, ⟨_, _, _, _, by rfl, by rfl⟩, trivial⟩ (by rfl) (by repeat (first | trivial | refine ⟨by first | rfl | simp [setL], ?_⟩)) (by rfl) (by rfl) (by rfl) (by rfl) (by rfl) ?_
     refine X.nil ?_
     refine Run.sr ?_
     refine X.mv ?_
     refine X.an ?_
     refine Run.reg ?_
     refine X.mv ?_
     refine X.mv ?_
     refine X.mulW (by rfl) (by rfl) (by rfl) ?_
     refine X.addW (by rfl) (by rfl) (by rfl) ?_
     refine X.an ?_
     refine Run.blk ?_
     exact hag28 n28 (a31, (W (a31 + (W (2 * a20)))), v36) _ _ (by omega) h (by repeat (first | trivial | refine ⟨by first | rfl | simp [setL], ?_⟩)) (by repeat (first | trivial | refine ⟨by first | rfl | simp [setL], ?_⟩)) (by rfl) (by rfl)
    ·replace h := condF hc35 h
     refine Run.exit (by rfl) ?_
     exact R.mt hmeet27 (a30, a32) (Option.some.inj h)
   rintro p37 rfl
   refine Run.seq ?_
   refine Run.sr ?_
   refine X.mv ?_
   refine X.mv ?_
   refine X.addW (by rfl) (by rfl) (by rfl) ?_
   refine X.an ?_
   refine Run.sr ?_
   refine X.mv ?_
   refine X.mv ?_
   refine X.bi ?_
   refine X.nil ?_
   refine R.cd (fun hc38 => ?_) (fun hc38 => ?_)
   ·replace h := condT hc38 h
    refine Run.reg ?_
    refine X.mv ?_
    refine X.mv ?_
    refine X.mv ?_
    refine X.mv ?_
    refine X.mv ?_
    obtain ⟨v39, hv39, h⟩ := bindE h
    refine X.callR [(63, 63)] [(63, (p37.2.map int).length)] [(63, (v39.map int).length)] (slices_symMergeCmpFunc_int_pc _ _ _ _ g2 _ _ hg2 _ hv39) (by rfl) (by rfl) (.ownB 63 (by rfl) (by first | rfl | simp [setL] | omega) (by rfl) (.pureB (by rfl) (by repeat (first | trivial | refine ⟨by first | rfl | simp [setL], ?_⟩)) (.pureB (by rfl) (by repeat (first | trivial | refine ⟨by first | rfl | simp [setL], ?_⟩)) (.pureB (by rfl) (by repeat (first | trivial | refine ⟨by first | rfl | simp [setL], ?_⟩)) (.pureB (by rfl) (by repeat (first | trivial | refine ⟨by first | rfl | simp [setL], ?_⟩)) .nil))))) (by rfl) ⟨rfl, rfl, ⟨_, by rfl, by constructor⟩, by constructor, trivial⟩ (by rfl) (by rfl) (by rfl) (by rfl) ⟨rfl, ⟨_, _, _, _, by rfl, by rfl⟩, ⟨_, _, _, _, by rfl, by rfl⟩, trivial⟩ (by rfl) (by repeat (first | trivial | refine ⟨by first | rfl | simp [setL], ?_⟩)) (by rfl) (by rfl) (by rfl) (by rfl) (by rfl) ?_
    refine X.nil ?_
    refine Run.reg ?_
    refine X.mv ?_
    refine X.mulW (by rfl) (by rfl) (by rfl) ?_
    refine X.an ?_
    refine Run.blk ?_
    exact hag18 n18 ((W (a20 * 2)), v39) _ _ (by omega) h (by repeat (first | trivial | refine ⟨by first | rfl | simp [setL], ?_⟩)) (by repeat (first | trivial | refine ⟨by first | rfl | simp [setL], ?_⟩)) (by rfl) (by rfl)
   ·replace h := condF hc38 h
    refine Run.skip ?_
    refine Run.reg ?_
    refine X.mv ?_
    refine X.mulW (by rfl) (by rfl) (by rfl) ?_
    refine X.an ?_
    refine Run.blk ?_
    exact hag18 n18 ((W (a20 * 2)), p37.2) _ _ (by omega) h (by repeat (first | trivial | refine ⟨by first | rfl | simp [setL], ?_⟩)) (by repeat (first | trivial | refine ⟨by first | rfl | simp [setL], ?_⟩)) (by rfl) (by rfl)
  ·replace h := condF hc24 h
   refine Run.exit (by rfl) ?_
   exact R.mt hmeet17 a21 (Option.some.inj h)
 rintro p40 rfl
 cases h
 exact R.endM0 Try.results18 (by repeat (first | exact trivial | refine ⟨by rfl, ?_⟩)) rfl
theorem slices_SortStableFunc_int_pc (b0 : List Int) (g1 : Int → Int → Option Int) (g1id : Nat) (g1c : List PV) (hg1 : ∀ (x0 : Int) (x1 : Int) v, g1 x0 x1 = some v → PC Try.prog g1id ([int x0, int x1] ++ g1c) (int v)) (r : (List Int)) (h : slices_SortStableFunc_int b0 g1 = some r) : PCM Try.prog 15 [.own 63 (b0.map int).length, .fn g1id g1c] [(63, .obj true 3 1 (b0.map int))] (.tuple []) [(63, .obj true 3 1 (r.map int))] := by
 unfold slices_SortStableFunc_int at h
 refine PCM.start Try.func15 Try.ntmps15 rfl ok15 rfl (by rfl) (by rfl) (by rfl) (by rfl) (by rfl) ?_
 refine Run.reg ?_
 refine X.mv ?_
 refine X.mv ?_
 refine X.len_o elt22 (by rfl) (by rfl) (by first | rfl | simp [setL] | omega) (by first | exact List.length_map .. | rfl) (by rfl) (by rfl) ?_
 refine X.mv ?_
 obtain ⟨v1, hv1, h⟩ := bindE h
 refine X.callR [(63, 63)] [(63, (b0.map int).length)] [(63, (v1.map int).length)] (slices_stableCmpFunc_int_pc _ _ g1 _ _ hg1 _ hv1) (by rfl) (by rfl) (.ownB 63 (by rfl) (by first | rfl | simp [setL] | omega) (by rfl) (.pureB (by rfl) (by repeat (first | trivial | refine ⟨by first | rfl | simp [setL], ?_⟩)) (.pureB (by rfl) (by repeat (first | trivial | refine ⟨by first | rfl | simp [setL], ?_⟩)) .nil))) (by rfl) ⟨rfl, rfl, ⟨_, by rfl, by constructor⟩, by constructor, trivial⟩ (by rfl) (by rfl) (by rfl) (by rfl) ⟨rfl, ⟨_, _, _, _, by rfl, by rfl⟩, ⟨_, _, _, _, by rfl, by rfl⟩, trivial⟩ (by rfl) (by repeat (first | trivial | refine ⟨by first | rfl | simp [setL], ?_⟩)) (by rfl) (by rfl) (by rfl) (by rfl) (by rfl) ?_
 refine X.nil ?_
 cases h
 exact R.endM0 Try.results15 (by repeat (first | exact trivial | refine ⟨by rfl, ?_⟩)) rfl
theorem i_StartOrder_pc (b0 : TSchedule) (r : List Int) (h : i_StartOrder b0 = some r) : PC Try.prog 7 [eTSchedule b0] (.fresh true 3 1 (r.map int)) := by
 unfold i_StartOrder at h
 refine PC.start Try.func7 Try.ntmps7 rfl ok7 rfl ?_
 refine Run.sr ?_
 refine X.bx ?_
 refine X.an ?_
 refine Run.sr ?_
 refine X.buildSlice true elt22 zer3 (by rfl) (by rfl) (by rfl) (by rfl) (by rfl) (by rfl) (by repeat (first | trivial | refine ⟨by first | rfl | simp [setL], ?_⟩)) (allSz_spec (by rfl)) (by rfl) (by rfl) (by rfl) ?_
 refine X.an ?_
 refine Run.seq ?_
 refine Run.sr ?_
 refine X.fl fld27_0 ?_
 refine X.ld shp22 ?_
 refine X.ls elt22 ?_
 refine X.mn ?_
 obtain ⟨o1, ho1, h⟩ := bindE h
 refine R.join2 (β := (List Int)) [(1, .lptr 64 0)] [(64, .blk true [.slice (b0.Starts.map int), .slice (b0.Modes.map int)])] (fun p14 S => (3, .own 320 (p14.map int).length) :: S) (fun p14 M => (320, .obj true 3 1 (p14.map int)) :: M) (fun p14 => p14 = o1) ?_ ?_
 ·intro JJ4 hmeet3
  have hup2 := h; clear h; have h := ho1; clear ho1
  refine Run.block ?_
  refine R.bndS (t := 7) (by rfl) (fun hbd7 => ?_)
  replace hbd7 : b0.Starts.length ≤ 9223372036854775807 := by first | (rw [List.length_map] at hbd7; exact hbd7) | simp
  refine R.lp (β := Int × (List Int)) [(1, .lptr 64 0), (8, int (b0.Starts.length : Int))] [(64, .blk true [.slice (b0.Starts.map int), .slice (b0.Modes.map int)])] (fun bb S => (3, .own 320 (bb.2.map int).length) :: (9, int bb.1) :: S) (fun bb M => (320, .obj true 3 1 (bb.2.map int)) :: M) (fun n bb => 0 ≤ bb.1 ∧ bb.1 + n = (b0.Starts.length : Int) ∧ i_StartOrder_L1 (b0.Starts.drop bb.1.toNat) bb.1 bb.2 = some o1) b0.Starts.length (0, ([] : List Int)) ⟨Int.le_refl _, by simp, h⟩ ?_
  clear h
  rintro JJ7 n7 ⟨z8, a9⟩ hag7 ⟨hza7, hzb7, h⟩
  dsimp only at hza7 hzb7 h
  refine Run.sr ?_
  refine X.bi ?_
  refine X.nil ?_
  refine Run.seq ?_
  refine R.cd (fun hc12 => ?_) (fun hc12 => ?_)
  ·obtain ⟨x10, xs11, hd7, hx7, hds7, hlt7⟩ := drop_atI hza7 hc12
   rw [hd7] at h
   rw [i_StartOrder_L1] at h
   refine Run.skip ?_
   refine Run.seq ?_
   refine Run.block ?_
   refine Run.sr ?_
   refine X.mv ?_
   refine X.an ?_
   refine Run.reg ?_
   refine X.mv ?_
   refine X.mv ?_
   refine X.buildSlice true elt22 zer3 (by rfl) (by rfl) (by rfl) (by rfl) (by rfl) (by rfl) (by repeat (first | trivial | refine ⟨by first | rfl | simp [setL], ?_⟩)) (allSz_spec (by rfl)) (by rfl) (by rfl) (by rfl) ?_
   obtain ⟨v13, hv13, h⟩ := bindE h
   refine X.append elt22 zer3 (by rfl) (by rfl) (by first | rfl | simp [setL] | omega) (by rfl) (.own _ _ _ _ _ _ (look_mem (by rfl)) (by first | rfl | simp [setL] | omega)) (allSz_spec (by rfl)) (appL_len int hv13) (appL_map int hv13) (by rfl) (by rfl) (by rfl) (by rfl) ?_
   refine X.an ?_
   refine Run.blk ?_
   refine Run.reg ?_
   refine X.ad ?_
   refine X.mn ?_
   exact R.ag hag7 (n7 - 1) (z8 + 1, v13) (R.n3 (by first | (rw [hds7]; exact h) | (dsimp only; rw [hds7]; exact h)))
  ·rw [drop_endI hza7 hc12] at h
   rw [i_StartOrder_L1] at h
   refine Run.exit (by rfl) ?_
   exact R.mt hmeet3 a9 (Option.some.inj h)
 rintro p14 rfl
 refine Run.seq ?_
 refine R.pubBlk (n := 64) (by rfl) (by rfl) (by repeat (first | trivial | refine ⟨by first | rfl | simp [setL], ?_⟩)) ?_
 refine Run.reg ?_
 refine X.mv ?_
 refine X.makeFunc (by rfl) (by rfl) (by repeat (first | trivial | refine ⟨by first | rfl | simp [setL], ?_⟩)) (by rfl) (by rfl) ?_
 obtain ⟨v15, hv15, h⟩ := bindE h
 refine X.callR [(63, 320)] [(320, (p14.map int).length)] [(320, (v15.map int).length)] (slices_SortStableFunc_int_pc _ (fun x0 x1 => i_StartOrder_c1 x0 x1 b0) _ _ (fun x0 x1 v hv => i_StartOrder_c1_pc _ _ _ _ hv) _ hv15) (by rfl) (by rfl) (.ownB 63 (by rfl) (by first | rfl | simp [setL] | omega) (by rfl) (.pureB (by rfl) (by repeat (first | trivial | refine ⟨by first | rfl | simp [setL], ?_⟩)) .nil)) (by rfl) ⟨rfl, rfl, ⟨_, by rfl, by constructor⟩, by constructor, trivial⟩ (by rfl) (by rfl) (by rfl) (by rfl) ⟨rfl, ⟨_, _, _, _, by rfl, by rfl⟩, ⟨_, _, _, _, by rfl, by rfl⟩, trivial⟩ (by rfl) (by repeat (first | trivial | refine ⟨by first | rfl | simp [setL], ?_⟩)) (by rfl) (by rfl) (by rfl) (by rfl) (by rfl) ?_
 refine X.nil ?_
 refine Run.sr ?_
 refine X.mv ?_
 refine X.an ?_
 cases h
 refine R.fin1o Try.results7 (by rfl) (by rfl) (by first | rfl | simp [setL] | omega) ?_
 rfl
theorem w_eqIntS_pc (b0 : List Int) (b1 : List Int) (r : Bool) (h : w_eqIntS b0 b1 = some r) : PC Try.prog 8 [.slice (b0.map int), .slice (b1.map int)] (bool r) := by
 unfold w_eqIntS at h
 refine PC.start Try.func8 Try.ntmps8 rfl ok8 rfl ?_
 refine Run.sr ?_
 refine X.an ?_
 refine Run.seq ?_
 refine Run.sr ?_
 refine X.mv ?_
 refine X.ls elt22 ?_
 refine X.mv ?_
 refine X.ls elt22 ?_
 refine X.bi ?_
 refine X.nil ?_
 refine R.cd (fun hc1 => ?_) (fun hc1 => ?_)
 ·replace h := condT hc1 h
  refine Run.sr ?_
  refine X.an ?_
  cases h
  refine R.f1 Try.results8 ?_
  rfl
 ·replace h := condF hc1 h
  refine Run.skip ?_
  refine Run.seq ?_
  refine Run.sr ?_
  refine X.an ?_
  obtain ⟨o2, ho2, h⟩ := bindE h
  refine R.join2 (β := Unit) [] [] (fun p15 S => S) (fun p15 M => M) (fun p15 => (Sum.inl p15) = o2) ?_ ?_
  ·intro JJ5 hmeet4
   have hup3 := h; clear h; have h := ho2; clear ho2
   refine Run.block ?_
   refine R.bndS (t := 0) (by rfl) (fun hbd8 => ?_)
   replace hbd8 : b0.length ≤ 9223372036854775807 := by first | (rw [List.length_map] at hbd8; exact hbd8) | simp
   refine R.lp (β := Int) [(0, .slice (b0.map int)), (1, .slice (b1.map int))] [] (fun bb S => (5, int bb) :: S) (fun bb M => M) (fun n bb => 0 ≤ bb ∧ bb + n = (b0.length : Int) ∧ w_eqIntS_L1 b1 (b0.drop bb.toNat) bb = some o2) b0.length (0 : Int) ⟨Int.le_refl _, by simp, h⟩ ?_
   clear h
   rintro JJ8 n8 z9 hag8 ⟨hza8, hzb8, h⟩
   refine Run.seq ?_
   refine Run.sr ?_
   refine X.mv ?_
   refine X.mv ?_
   refine X.ls elt22 ?_
   refine X.bi ?_
   refine X.nil ?_
   refine R.cd (fun hc12 => ?_) (fun hc12 => ?_)
   ·obtain ⟨x10, xs11, hd8, hx8, hds8, hlt8⟩ := drop_atI hza8 hc12
    rw [hd8] at h
    rw [w_eqIntS_L1] at h
    refine Run.skip ?_
    refine Run.seq ?_
    refine Run.block ?_
    refine Run.seq ?_
    refine Run.draw (footOf []) mixed (by kernel_rfl) (by kernel_rfl) ?_
    refine X.mv ?_
    refine X.mv ?_
    refine X.ix elt22 (idxL_spec hx8).1 (idxL_map int hx8) ?_
    refine X.lc shp3 ?_
    refine X.mv ?_
    refine X.mv ?_
    obtain ⟨v13, hv13, h⟩ := bindE h
    refine X.ix elt22 (idxL_spec hv13).1 (idxL_map int hv13) ?_
    refine X.lc shp3 ?_
    refine X.bi ?_
    refine X.nil ?_
    refine R.cd (fun hc14 => ?_) (fun hc14 => ?_)
    ·replace h := condT hc14 h
     refine Run.sr ?_
     refine X.an ?_
     cases h
     have h := hup3
     replace h := elimR h
     cases h
     refine R.f1 Try.results8 ?_
     rfl
    ·replace h := condF hc14 h
     refine Run.skip ?_
     refine Run.blk ?_
     refine Run.reg ?_
     refine X.mv ?_
     refine X.ad ?_
     refine X.an ?_
     exact R.ag hag8 (n8 - 1) (z9 + 1) (R.n3 (by first | (rw [hds8]; exact h) | (dsimp only; rw [hds8]; exact h)))
   ·rw [drop_endI hza8 hc12] at h
    rw [w_eqIntS_L1] at h
    refine Run.exit (by rfl) ?_
    exact R.mt hmeet4 () (Option.some.inj h)
  rintro p15 rfl
  replace h := elimL h
  refine Run.sr ?_
  refine X.an ?_
  cases h
  refine R.f1 Try.results8 ?_
  rfl
theorem w_eqSchedule_pc (b0 : TSchedule) (b1 : TSchedule) (r : Bool) (h : w_eqSchedule b0 b1 = some r) : PC Try.prog 9 [eTSchedule b0, eTSchedule b1] (bool r) := by
 unfold w_eqSchedule at h
 refine PC.start Try.func9 Try.ntmps9 rfl ok9 rfl ?_
 refine Run.sr ?_
 refine X.bx ?_
 refine X.bx ?_
 refine X.an ?_
 refine Run.seq ?_
 refine Run.sr ?_
 refine X.fl fld27_0 ?_
 refine X.ld shp22 ?_
 refine X.fl fld27_0 ?_
 refine X.ld shp22 ?_
 obtain ⟨v1, hv1, h⟩ := bindE h
 refine X.cp (w_eqIntS_pc _ _ _ hv1) ?_
 refine X.un (by rfl) (by rfl) (by rfl) ?_
 refine X.nil ?_
 refine R.cd (fun hc2 => ?_) (fun hc2 => ?_)
 ·replace h := condT hc2 h
  refine Run.sr ?_
  refine X.an ?_
  cases h
  refine R.f1 Try.results9 ?_
  rfl
 ·replace h := condF hc2 h
  refine Run.skip ?_
  refine Run.seq ?_
  refine Run.sr ?_
  refine X.fl fld27_1 ?_
  refine X.ld shp22 ?_
  refine X.fl fld27_1 ?_
  refine X.ld shp22 ?_
  obtain ⟨v3, hv3, h⟩ := bindE h
  refine X.cp (w_eqIntS_pc _ _ _ hv3) ?_
  refine X.un (by rfl) (by rfl) (by rfl) ?_
  refine X.nil ?_
  refine R.cd (fun hc4 => ?_) (fun hc4 => ?_)
  ·replace h := condT hc4 h
   refine Run.sr ?_
   refine X.an ?_
   cases h
   refine R.f1 Try.results9 ?_
   rfl
  ·replace h := condF hc4 h
   refine Run.skip ?_
   refine Run.sr ?_
   refine X.an ?_
   cases h
   refine R.f1 Try.results9 ?_
   rfl
theorem w_markIntS_k_pc (b0 : List Int) (b1 : Int) (r : Int) (h : w_markIntS_k b0 b1 = some r) : PCM Try.prog 11 [.ysk 63 (.slice (b0.map int)), int b1] [(63, .yreg true true)] (int r) [(63, .yreg true true)] := by
 unfold w_markIntS_k at h
 refine PCM.start Try.func11 Try.ntmps11 rfl ok11 rfl (by rfl) (by rfl) (by rfl) (by rfl) (by rfl) ?_
 refine Run.sr ?_
 refine X.an ?_
 refine Run.seq ?_
 refine Run.sr ?_
 refine X.an ?_
 obtain ⟨o1, ho1, h⟩ := bindE h
 refine R.join2 (β := Int) [] [(63, .yreg true true)] (fun p13 S => (1, int p13) :: S) (fun p13 M => M) (fun p13 => p13 = o1) ?_ ?_
 ·intro JJ4 hmeet3
  have hup2 := h; clear h; have h := ho1; clear ho1
  refine Run.block ?_
  refine R.bndY true 63 (t := 0) (by rfl) (fun hbd7 => ?_)
  replace hbd7 : b0.length ≤ 9223372036854775807 := by first | (rw [List.length_map] at hbd7; exact hbd7) | simp
  refine R.lp (β := Int × Int) [(0, .ysk 63 (.slice (b0.map int)))] [(63, .yreg true true)] (fun bb S => (1, int bb.2) :: (5, int bb.1) :: S) (fun bb M => M) (fun n bb => 0 ≤ bb.1 ∧ bb.1 + n = (b0.length : Int) ∧ w_markIntS_k_L1 (b0.drop bb.1.toNat) bb.1 bb.2 = some o1) b0.length (0, b1) ⟨Int.le_refl _, by simp, h⟩ ?_
  clear h
  rintro JJ7 n7 ⟨z8, a9⟩ hag7 ⟨hza7, hzb7, h⟩
  dsimp only at hza7 hzb7 h
  refine Run.seq ?_
  refine Run.sr ?_
  refine X.mv ?_
  refine X.mv ?_
  refine X.lenY true 63 elt22 (by rfl) (by exact List.length_map ..) (by rfl) ?_
  refine X.bi ?_
  refine X.nil ?_
  refine R.cd (fun hc12 => ?_) (fun hc12 => ?_)
  ·obtain ⟨x10, xs11, hd7, hx7, hds7, hlt7⟩ := drop_atI hza7 hc12
   rw [hd7] at h
   rw [w_markIntS_k_L1] at h
   refine Run.skip ?_
   refine Run.seq ?_
   refine Run.block ?_
   refine Run.sr ?_
   refine X.mv ?_
   refine X.mv ?_
   refine X.mv ?_
   refine X.indexY true 63 elt22 (by rfl) (by rfl) (idxL_spec hx7).1 (idxL_map int hx7) (by rfl) (by rfl) ?_
   refine X.storeY 63 shp3 (by rfl) (by rfl) (by rfl) (by rfl) (by rfl) (by rfl) (by rfl) ?_
   refine X.nil ?_
   refine Run.reg ?_
   refine X.mv ?_
   refine X.addW (by rfl) (by rfl) (by rfl) ?_
   refine X.an ?_
   refine Run.blk ?_
   refine Run.reg ?_
   refine X.mv ?_
   refine X.ad ?_
   refine X.an ?_
   exact R.ag hag7 (n7 - 1) (z8 + 1, (W (a9 + 1))) (R.n3 (by first | (rw [hds7]; exact h) | (dsimp only; rw [hds7]; exact h)))
  ·rw [drop_endI hza7 hc12] at h
   rw [w_markIntS_k_L1] at h
   refine Run.exit (by rfl) ?_
   exact R.mt hmeet3 a9 (Option.some.inj h)
 rintro p13 rfl
 refine Run.sr ?_
 refine X.mv ?_
 refine X.an ?_
 cases h
 exact R.finM1 Try.results11 (by rfl) (by rfl) (by repeat (first | exact trivial | refine ⟨by rfl, ?_⟩)) rfl
theorem w_markSchedule_k_pc (b0 : TSchedule) (b1 : Int) (r : Int) (h : w_markSchedule_k b0 b1 = some r) : PCM Try.prog 10 [.agg [.ysk 63 (.slice (b0.Starts.map int)), .ysk 63 (.slice (b0.Modes.map int))], int b1] [(63, .yreg true true)] (int r) [(63, .yreg true true)] := by
 unfold w_markSchedule_k at h
 refine PCM.start Try.func10 Try.ntmps10 rfl ok10 rfl (by rfl) (by rfl) (by rfl) (by rfl) (by rfl) ?_
 refine Run.sr ?_
 refine X.bx ?_
 refine X.an ?_
 refine Run.sr ?_
 refine X.fl fld27_0 ?_
 refine X.ld shp22 ?_
 refine X.mv ?_
 obtain ⟨v1, hv1, h⟩ := bindE h
 refine X.callM [(63, 63)] (w_markIntS_k_pc _ _ _ hv1) (by rfl) (by rfl) (.yskB 63 (by rfl) (by rfl) (.pureB (by rfl) (by repeat (first | trivial | refine ⟨by first | rfl | simp [setL], ?_⟩)) .nil)) (by rfl) ⟨rfl, rfl, ⟨_, by rfl, by constructor⟩, by constructor, trivial⟩ (by rfl) (by rfl) (by rfl) (by rfl) (by rfl) (by rfl) (by rfl) (by rfl) (by rfl) ?_
 refine X.an ?_
 refine Run.sr ?_
 refine X.fl fld27_1 ?_
 refine X.ld shp22 ?_
 refine X.mv ?_
 obtain ⟨v2, hv2, h⟩ := bindE h
 refine X.callM [(63, 63)] (w_markIntS_k_pc _ _ _ hv2) (by rfl) (by rfl) (.yskB 63 (by rfl) (by rfl) (.pureB (by rfl) (by repeat (first | trivial | refine ⟨by first | rfl | simp [setL], ?_⟩)) .nil)) (by rfl) ⟨rfl, rfl, ⟨_, by rfl, by constructor⟩, by constructor, trivial⟩ (by rfl) (by rfl) (by rfl) (by rfl) (by rfl) (by rfl) (by rfl) (by rfl) (by rfl) ?_
 refine X.an ?_
 refine Run.sr ?_
 refine X.mv ?_
 refine X.an ?_
 cases h
 exact R.finM1 Try.results10 (by rfl) (by rfl) (by repeat (first | exact trivial | refine ⟨by rfl, ?_⟩)) rfl
theorem w_markIntS_pc (b0 : List Int) (b1 : Int) (r : Int × (List Int)) (h : w_markIntS b0 b1 = some r) : PCM Try.prog 11 [.own 63 (b0.map int).length, int b1] [(63, .obj true 3 1 (b0.map int))] (int r.1) [(63, .obj true 3 1 (r.2.map int))] := by
 unfold w_markIntS at h
 refine PCM.start Try.func11 Try.ntmps11 rfl ok11 rfl (by rfl) (by rfl) (by rfl) (by rfl) (by rfl) ?_
 refine Run.sr ?_
 refine X.an ?_
 refine Run.seq ?_
 refine Run.sr ?_
 refine X.an ?_
 obtain ⟨o1, ho1, h⟩ := bindE h
 refine R.join2 (β := Int × (List Int)) [] [] (fun p14 S => (1, int p14.1) :: S) (fun p14 M => (63, .obj true 3 1 (p14.2.map int)) :: M) (fun p14 => p14 = o1) ?_ ?_
 ·intro JJ4 hmeet3
  have hup2 := h; clear h; have h := ho1; clear ho1
  refine Run.block ?_
  refine R.lp (β := Int × Int × (List Int)) [] [] (fun bb S => (0, .own 63 (bb.2.2.map int).length) :: (1, int bb.1) :: (5, int bb.2.1) :: S) (fun bb M => (63, .obj true 3 1 (bb.2.2.map int)) :: M) (fun n bb => w_markIntS_L1 n bb.1 bb.2.1 bb.2.2 = some o1) F0 (b1, 0, b0) h ?_
  clear h
  rintro JJ5 n5 ⟨a7, a8, a9⟩ hag5 h
  dsimp only at h
  obtain _ | n5 := n5
  ·exact absurd h (by simp [w_markIntS_L1])
  rw [w_markIntS_L1] at h
  refine Run.seq ?_
  refine Run.sr ?_
  refine X.mv ?_
  refine X.mv ?_
  refine X.len_o elt22 (by rfl) (by rfl) (by first | rfl | simp [setL] | omega) (by first | exact List.length_map .. | rfl) (by rfl) (by rfl) ?_
  refine X.bi ?_
  refine X.nil ?_
  refine R.cd (fun hc12 => ?_) (fun hc12 => ?_)
  ·replace h := condT hc12 h
   refine Run.skip ?_
   refine Run.seq ?_
   refine Run.block ?_
   refine Run.sr ?_
   refine X.mv ?_
   refine X.mv ?_
   refine X.mv ?_
   obtain ⟨v13, hv13, h⟩ := bindE h
   refine X.index_xs elt22 (by rfl) (by rfl) (by first | rfl | simp [setL] | omega) (by rfl) (by exact (Int.toNat_of_nonneg (idxL_spec hv13).1).symm) (by have := idxL_lt hv13; first | exact this | (rw [List.length_map]; exact this)) (by rfl) (by rfl) ?_
   refine X.store_es shp3 (by rfl) (by rfl) (by first | rfl | simp [setL] | omega) (idxL_map _ hv13) (by rfl) (by rfl) (by repeat (first | trivial | refine ⟨by first | rfl | simp [setL], ?_⟩)) (by rfl) (by rfl) (by rfl) (by rfl) (by exact setL_map _ _ _ a7) ?_
   refine X.nil ?_
   refine Run.reg ?_
   refine X.mv ?_
   refine X.addW (by rfl) (by rfl) (by rfl) ?_
   refine X.an ?_
   refine Run.blk ?_
   refine Run.reg ?_
   refine X.mv ?_
   refine X.addW (by rfl) (by rfl) (by rfl) ?_
   refine X.an ?_
   refine R.castS (t := 0) (.own 63 ((setL a9 a8 a7).map int).length) (by rfl) (.inl (by first | rfl | simp [setL])) ?_
   exact hag5 n5 ((W (a7 + 1)), (W (a8 + 1)), (setL a9 a8 a7)) _ _ (by omega) h (by repeat (first | trivial | refine ⟨by first | rfl | simp [setL], ?_⟩)) (by repeat (first | trivial | refine ⟨by first | rfl | simp [setL], ?_⟩)) (by rfl) (by rfl)
  ·replace h := condF hc12 h
   refine Run.exit (by rfl) ?_
   exact R.mt hmeet3 (a7, a9) (Option.some.inj h)
 rintro p14 rfl
 refine Run.sr ?_
 refine X.mv ?_
 refine X.an ?_
 cases h
 exact R.finM1 Try.results11 (by rfl) (by rfl) (by repeat (first | exact trivial | refine ⟨by rfl, ?_⟩)) rfl
theorem w_heldIntS_pc (b0 : List Int) (b1 : Int) (r : Int) (h : w_heldIntS b0 b1 = some r) : PC Try.prog 12 [.slice (b0.map int), int b1] (int r) := by
 unfold w_heldIntS at h
 refine PC.start Try.func12 Try.ntmps12 rfl ok12 rfl ?_
 refine Run.sr ?_
 refine X.an ?_
 refine Run.seq ?_
 refine Run.sr ?_
 refine X.an ?_
 obtain ⟨o1, ho1, h⟩ := bindE h
 refine R.join2 (β := Int) [] [] (fun p14 S => (1, int p14) :: S) (fun p14 M => M) (fun p14 => (Sum.inl p14) = o1) ?_ ?_
 ·intro JJ4 hmeet3
  have hup2 := h; clear h; have h := ho1; clear ho1
  refine Run.block ?_
  refine R.bndS (t := 0) (by rfl) (fun hbd7 => ?_)
  replace hbd7 : b0.length ≤ 9223372036854775807 := by first | (rw [List.length_map] at hbd7; exact hbd7) | simp
  refine R.lp (β := Int × Int) [(0, .slice (b0.map int))] [] (fun bb S => (1, int bb.2) :: (5, int bb.1) :: S) (fun bb M => M) (fun n bb => 0 ≤ bb.1 ∧ bb.1 + n = (b0.length : Int) ∧ w_heldIntS_L1 (b0.drop bb.1.toNat) bb.1 bb.2 = some o1) b0.length (0, b1) ⟨Int.le_refl _, by simp, h⟩ ?_
  clear h
  rintro JJ7 n7 ⟨z8, a9⟩ hag7 ⟨hza7, hzb7, h⟩
  dsimp only at hza7 hzb7 h
  refine Run.seq ?_
  refine Run.sr ?_
  refine X.mv ?_
  refine X.mv ?_
  refine X.ls elt22 ?_
  refine X.bi ?_
  refine X.nil ?_
  refine R.cd (fun hc12 => ?_) (fun hc12 => ?_)
  ·obtain ⟨x10, xs11, hd7, hx7, hds7, hlt7⟩ := drop_atI hza7 hc12
   rw [hd7] at h
   rw [w_heldIntS_L1] at h
   refine Run.skip ?_
   refine Run.seq ?_
   refine Run.block ?_
   refine Run.seq ?_
   refine Run.sr ?_
   refine X.mv ?_
   refine X.mv ?_
   refine X.ix elt22 (idxL_spec hx7).1 (idxL_map int hx7) ?_
   refine X.lc shp3 ?_
   refine X.mv ?_
   refine X.bi ?_
   refine X.nil ?_
   refine R.cd (fun hc13 => ?_) (fun hc13 => ?_)
   ·replace h := condT hc13 h
    refine Run.sr ?_
    refine X.an ?_
    cases h
    have h := hup2
    replace h := elimR h
    cases h
    refine R.f1 Try.results12 ?_
    rfl
   ·replace h := condF hc13 h
    refine Run.skip ?_
    refine Run.reg ?_
    refine X.mv ?_
    refine X.addW (by rfl) (by rfl) (by rfl) ?_
    refine X.an ?_
    refine Run.blk ?_
    refine Run.reg ?_
    refine X.mv ?_
    refine X.ad ?_
    refine X.an ?_
    exact R.ag hag7 (n7 - 1) (z8 + 1, (W (a9 + 1))) (R.n3 (by first | (rw [hds7]; exact h) | (dsimp only; rw [hds7]; exact h)))
  ·rw [drop_endI hza7 hc12] at h
   rw [w_heldIntS_L1] at h
   refine Run.exit (by rfl) ?_
   exact R.mt hmeet3 a9 (Option.some.inj h)
 rintro p14 rfl
 replace h := elimL h
 refine Run.sr ?_
 refine X.mv ?_
 refine X.an ?_
 cases h
 refine R.f1 Try.results12 ?_
 rfl
theorem w_FnExactStartOrder_pc (b0 : TSchedule) (r : Bool) (h : w_FnExactStartOrder b0 = some r) : PC Try.prog 3 [eTSchedule b0] (bool r) := by
 unfold w_FnExactStartOrder at h
 refine PC.start Try.func3 Try.ntmps3 rfl ok3 rfl ?_
 refine Run.sr ?_
 refine X.bx ?_
 refine X.an ?_
 refine Run.sr ?_
 refine X.an ?_
 refine Run.sr ?_
 refine X.ld shp24 ?_
 refine X.mv ?_
 obtain ⟨v1, hv1, h⟩ := bindE h
 refine X.cp (w_szSchedule_pc _ _ _ hv1) ?_
 refine X.an ?_
 refine Run.seq ?_
 refine Run.sr ?_
 refine X.mv ?_
 refine X.bi ?_
 refine X.nil ?_
 refine R.cd (fun hc2 => ?_) (fun hc2 => ?_)
 ·replace h := condT hc2 h
  refine Run.sr ?_
  refine X.an ?_
  cases h
  refine R.f1 Try.results3 ?_
  rfl
 ·replace h := condF hc2 h
  refine Run.skip ?_
  refine Run.sr ?_
  refine X.ld shp24 ?_
  obtain ⟨v3, hv3, h⟩ := bindE h
  refine X.callA (PC.ofY (ps := [eTSchedule b0]) (w_toSchedule_pc _ _ hv3) (by rfl) (by rfl)) (by rfl) (by rfl) (by rfl) (by trivial) (by rfl) (by rfl) (by rfl) (by rfl) (by rfl) (by rfl) ?_
  obtain ⟨v4, hv4, h⟩ := bindE h
  refine X.cp (s_StartOrder_pc _ _ hv4) ?_
  refine X.an ?_
  refine Run.sr ?_
  refine X.ld shp24 ?_
  obtain ⟨v5, hv5, h⟩ := bindE h
  refine X.callY (w_toSchedule_pc _ _ hv5) (by rfl) (by rfl) (by rfl) (by trivial) (by rfl) (by rfl) (by rfl) (by rfl) (by rfl) (by rfl) (by rfl) ?_
  refine X.alloc zer27 (by rfl) (by rfl) (by rfl) ?_
  refine X.sl shp27 ?_
  refine X.nil ?_
  refine Run.sr ?_
  refine X.ld shp27 ?_
  obtain ⟨v6, hv6, h⟩ := bindE h
  refine X.callM [(6463, 1280)] (PC.lend (M0 := [(6463, .yreg false false)]) (i_StartOrder_pc _ _ hv6) (FlatR.freshM (fun _ => (by repeat (first | exact trivial | refine ⟨trivial, ?_⟩)))) (by rfl) (.agg _ _ _ _ (.yng 6463 _ _ _ _ (by rfl) (.yng 6463 _ _ _ _ (by rfl) .nil)) .nil)) (by rfl) (by rfl) (.agg _ _ _ _ _ _ (.yngB 6463 (by rfl) (by rfl) (.yngB 6463 (by rfl) (by rfl) .nil)) .nil) (by rfl) ⟨rfl, rfl, ⟨_, by rfl, by constructor⟩, by constructor, trivial⟩ (by rfl) (by rfl) (by rfl) (by rfl) (by rfl) (by rfl) (by rfl) (by rfl) (by rfl) ?_
  refine X.an ?_
  refine Run.seq ?_
  refine Run.sr ?_
  refine X.mv ?_
  refine X.mv ?_
  obtain ⟨v7, hv7, h⟩ := bindE h
  refine X.callM [(63, 1408)] (PC.lend (M0 := [(63, .obj true 3 1 (v6.map int))]) (w_eqIntS_pc _ _ _ hv7) (.lit _) (by rfl) (.own 63 _ _ _ _ _ _ _ (by rfl) (by first | rfl | simp [setL] | omega) (.same _ _ _ (by rfl) .nil))) (by rfl) (by rfl) (.ownB 63 (by rfl) (by first | rfl | simp [setL] | omega) (by rfl) (.pureB (by rfl) (by repeat (first | trivial | refine ⟨by first | rfl | simp [setL], ?_⟩)) .nil)) (by rfl) ⟨rfl, rfl, ⟨_, by rfl, by constructor⟩, by constructor, trivial⟩ (by rfl) (by rfl) (by rfl) (by rfl) (by rfl) (by rfl) (by rfl) (by rfl) (by rfl) ?_
  refine X.un (by rfl) (by rfl) (by rfl) ?_
  refine X.nil ?_
  refine R.cd (fun hc8 => ?_) (fun hc8 => ?_)
  ·replace h := condT hc8 h
   refine Run.sr ?_
   refine X.an ?_
   cases h
   refine R.f1 Try.results3 ?_
   rfl
  ·replace h := condF hc8 h
   refine Run.skip ?_
   refine Run.seq ?_
   refine Run.seq ?_
   refine Run.draw (footOf [(0, ([320], [], [], [])), (1, ([64], [], [], [])), (2, ([], [1856, 1857], [], [])), (3, ([1280, 1856, 1857], [1280], [], []))]) mixed (by kernel_rfl) (by kernel_rfl) ?_
   refine X.ld shp27 ?_
   refine X.ld shp24 ?_
   obtain ⟨v9, hv9, h⟩ := bindE h
   refine X.callA (PC.ofY (ps := [eTSchedule b0]) (w_toSchedule_pc _ _ hv9) (by rfl) (by rfl)) (by rfl) (by rfl) (by rfl) (by trivial) (by rfl) (by rfl) (by rfl) (by rfl) (by rfl) (by rfl) ?_
   obtain ⟨v10, hv10, h⟩ := bindE h
   refine X.callM [(6463, 1280)] (PC.lend (M0 := [(6463, .yreg false false)]) (w_eqSchedule_pc _ _ _ hv10) (.lit _) (by rfl) (.agg _ _ _ _ (.yng 6463 _ _ _ _ (by rfl) (.yng 6463 _ _ _ _ (by rfl) .nil)) (.agg _ _ _ _ (.same _ _ _ (by rfl) (.same _ _ _ (by rfl) .nil)) .nil))) (by rfl) (by rfl) (.agg _ _ _ _ _ _ (.yngB 6463 (by rfl) (by rfl) (.yngB 6463 (by rfl) (by rfl) .nil)) (.pureB (by rfl) (by repeat (first | trivial | refine ⟨by first | rfl | simp [setL], ?_⟩)) .nil)) (by rfl) ⟨rfl, rfl, ⟨_, by rfl, by constructor⟩, by constructor, trivial⟩ (by rfl) (by rfl) (by rfl) (by rfl) (by rfl) (by rfl) (by rfl) (by rfl) (by rfl) ?_
   refine X.un (by rfl) (by rfl) (by rfl) ?_
   refine X.nil ?_
   refine R.cd (fun hc11 => ?_) (fun hc11 => ?_)
   ·replace h := condT hc11 h
    refine Run.sr ?_
    refine X.an ?_
    cases h
    refine R.f1 Try.results3 ?_
    rfl
   ·replace h := condF hc11 h
    refine Run.skip ?_
    refine Run.sr ?_
    refine X.an ?_
    refine Run.seq ?_
    refine R.demote 1280 (by rfl) (by rfl) (by rfl) (by rfl) (by rfl) (by rfl) ?_
    refine Run.reg ?_
    refine X.ld shp27 ?_
    refine X.mv ?_
    obtain ⟨v12, hv12, h⟩ := bindE h
    refine X.callM [(63, 1280)] (w_markSchedule_k_pc _ _ _ hv12) (by rfl) (by rfl) (.agg _ _ _ _ _ _ (.yskB 63 (by rfl) (by rfl) (.yskB 63 (by rfl) (by rfl) .nil)) (.pureB (by rfl) (by repeat (first | trivial | refine ⟨by first | rfl | simp [setL], ?_⟩)) .nil)) (by rfl) ⟨rfl, rfl, ⟨_, by rfl, by constructor⟩, by constructor, trivial⟩ (by rfl) (by rfl) (by rfl) (by rfl) (by rfl) (by rfl) (by rfl) (by rfl) (by rfl) ?_
    refine X.an ?_
    refine Run.seq ?_
    refine Run.seq ?_
    obtain ⟨e13, he13, h2⟩ := bindE h
    refine R.regG [(1, .lptr 64 0), (4, .slice (v4.map int)), (6, .own 1408 (v6.map int).length), (42, bool e13)] [(64, .blk true [.slice (b0.Starts.map int), .slice (b0.Modes.map int)]), (1408, .obj true 3 1 (v6.map int))] ?_ ?_
    ·clear h; have h := he13; clear he13 h2
     refine X.mv ?_
     refine X.bi ?_
     refine X.mv ?_
     refine X.iG (fun hb14 => ?_) (fun hb14 => ?_)
     ·replace h := condF hb14 h
      refine X.mv ?_
      refine X.gy ?_
      refine X.mv ?_
      refine X.gy ?_
      obtain ⟨v15, hv15, h⟩ := bindE h
      refine X.callM [(63, 1408)] (PC.lend (M0 := [(63, .obj true 3 1 (v6.map int))]) (w_eqIntS_pc _ _ _ hv15) (.lit _) (by rfl) (.own 63 _ _ _ _ _ _ _ (by rfl) (by first | rfl | simp [setL] | omega) (.same _ _ _ (by rfl) .nil))) (by rfl) (by rfl) (.ownB 63 (by rfl) (by first | rfl | simp [setL] | omega) (by rfl) (.pureB (by rfl) (by repeat (first | trivial | refine ⟨by first | rfl | simp [setL], ?_⟩)) .nil)) (by rfl) ⟨rfl, rfl, ⟨_, by rfl, by constructor⟩, by constructor, trivial⟩ (by rfl) (by rfl) (by rfl) (by rfl) (by rfl) (by rfl) (by rfl) (by rfl) (by rfl) ?_
      refine X.gy ?_
      refine X.un (by rfl) (by rfl) (by rfl) ?_
      refine X.pF ?_
      cases h
      exact X.eG
     ·replace h := condT hb14 h
      refine X.gn ?_
      refine X.gn ?_
      refine X.gn ?_
      refine X.pT ?_
      cases h
      exact X.eG
    replace h := h2; clear h2
    refine R.cd (fun hc16 => ?_) (fun hc16 => ?_)
    ·replace h := condT hc16 h
     refine Run.sr ?_
     refine X.an ?_
     cases h
     refine R.f1 Try.results3 ?_
     rfl
    ·replace h := condF hc16 h
     refine Run.skip ?_
     refine Run.sr ?_
     refine X.an ?_
     refine Run.sr ?_
     refine X.mv ?_
     refine X.mv ?_
     obtain ⟨v17, hv17, h⟩ := bindE h
     refine X.callR [(63, 1408)] [(1408, (v6.map int).length)] [(1408, (v17.2.map int).length)] (w_markIntS_pc _ _ _ hv17) (by rfl) (by rfl) (.ownB 63 (by rfl) (by first | rfl | simp [setL] | omega) (by rfl) (.pureB (by rfl) (by repeat (first | trivial | refine ⟨by first | rfl | simp [setL], ?_⟩)) .nil)) (by rfl) ⟨rfl, rfl, ⟨_, by rfl, by constructor⟩, by constructor, trivial⟩ (by rfl) (by rfl) (by rfl) (by rfl) ⟨rfl, ⟨_, _, _, _, by rfl, by rfl⟩, ⟨_, _, _, _, by rfl, by rfl⟩, trivial⟩ (by rfl) (by repeat (first | trivial | refine ⟨by first | rfl | simp [setL], ?_⟩)) (by rfl) (by rfl) (by rfl) (by rfl) (by rfl) ?_
     refine X.an ?_
     refine Run.sr ?_
     refine X.an ?_
     refine Run.sr ?_
     refine X.mv ?_
     refine X.mv ?_
     obtain ⟨v18, hv18, h⟩ := bindE h
     refine X.callM [(63, 1408)] (PC.lend (M0 := [(63, .obj true 3 1 (v17.2.map int))]) (w_heldIntS_pc _ _ _ hv18) (.lit _) (by rfl) (.own 63 _ _ _ _ _ _ _ (by rfl) (by first | rfl | simp [setL] | omega) (.same _ _ _ (by rfl) .nil))) (by rfl) (by rfl) (.ownB 63 (by rfl) (by first | rfl | simp [setL] | omega) (by rfl) (.pureB (by rfl) (by repeat (first | trivial | refine ⟨by first | rfl | simp [setL], ?_⟩)) .nil)) (by rfl) ⟨rfl, rfl, ⟨_, by rfl, by constructor⟩, by constructor, trivial⟩ (by rfl) (by rfl) (by rfl) (by rfl) (by rfl) (by rfl) (by rfl) (by rfl) (by rfl) ?_
     refine X.an ?_
     refine Run.seq ?_
     refine Run.sr ?_
     refine X.mv ?_
     refine X.bi ?_
     refine X.nil ?_
     refine R.cd (fun hc19 => ?_) (fun hc19 => ?_)
     ·replace h := condT hc19 h
      refine Run.sr ?_
      refine X.an ?_
      cases h
      refine R.f1 Try.results3 ?_
      rfl
     ·replace h := condF hc19 h
      refine Run.skip ?_
      refine Run.seq ?_
      refine Run.sr ?_
      refine X.mv ?_
      refine X.mv ?_
      refine X.bi ?_
      refine X.nil ?_
      refine R.cd (fun hc20 => ?_) (fun hc20 => ?_)
      ·replace h := condT hc20 h
       refine Run.sr ?_
       refine X.an ?_
       cases h
       refine R.f1 Try.results3 ?_
       rfl
      ·replace h := condF hc20 h
       refine Run.skip ?_
       refine Run.sr ?_
       refine X.ld shp24 ?_
       obtain ⟨v21, hv21, h⟩ := bindE h
       refine X.callA (PC.ofY (ps := [eTSchedule b0]) (w_toSchedule_pc _ _ hv21) (by rfl) (by rfl)) (by rfl) (by rfl) (by rfl) (by trivial) (by rfl) (by rfl) (by rfl) (by rfl) (by rfl) (by rfl) ?_
       obtain ⟨v22, hv22, h⟩ := bindE h
       refine X.callF (PC.pubF (i_StartOrder_pc _ _ hv22)) (by rfl) (by rfl) (by rfl) (by repeat (first | trivial | refine ⟨by first | rfl | simp [setL], ?_⟩)) (by rfl) (by rfl) (by rfl) (by rfl) ?_
       refine X.an ?_
       refine Run.seq ?_
       refine Run.sr ?_
       refine X.mv ?_
       refine X.mv ?_
       obtain ⟨v23, hv23, h⟩ := bindE h
       refine X.cp (w_eqIntS_pc _ _ _ hv23) ?_
       refine X.un (by rfl) (by rfl) (by rfl) ?_
       refine X.nil ?_
       refine R.cd (fun hc24 => ?_) (fun hc24 => ?_)
       ·replace h := condT hc24 h
        refine Run.sr ?_
        refine X.an ?_
        cases h
        refine R.f1 Try.results3 ?_
        rfl
       ·replace h := condF hc24 h
        refine Run.skip ?_
        refine Run.sr ?_
        refine X.an ?_
        refine Run.sr ?_
        refine X.mv ?_
        refine X.mv ?_
        obtain ⟨v25, hv25, h⟩ := bindE h
        refine X.callM [(63, 1408)] (PC.lend (M0 := [(63, .obj true 3 1 (v17.2.map int))]) (w_heldIntS_pc _ _ _ hv25) (.lit _) (by rfl) (.own 63 _ _ _ _ _ _ _ (by rfl) (by first | rfl | simp [setL] | omega) (.same _ _ _ (by rfl) .nil))) (by rfl) (by rfl) (.ownB 63 (by rfl) (by first | rfl | simp [setL] | omega) (by rfl) (.pureB (by rfl) (by repeat (first | trivial | refine ⟨by first | rfl | simp [setL], ?_⟩)) .nil)) (by rfl) ⟨rfl, rfl, ⟨_, by rfl, by constructor⟩, by constructor, trivial⟩ (by rfl) (by rfl) (by rfl) (by rfl) (by rfl) (by rfl) (by rfl) (by rfl) (by rfl) ?_
        refine X.an ?_
        refine Run.seq ?_
        refine Run.sr ?_
        refine X.mv ?_
        refine X.bi ?_
        refine X.nil ?_
        refine R.cd (fun hc26 => ?_) (fun hc26 => ?_)
        ·replace h := condT hc26 h
         refine Run.sr ?_
         refine X.an ?_
         cases h
         refine R.f1 Try.results3 ?_
         rfl
        ·replace h := condF hc26 h
         refine Run.skip ?_
         refine Run.seq ?_
         refine Run.sr ?_
         refine X.mv ?_
         refine X.mv ?_
         refine X.bi ?_
         refine X.nil ?_
         refine R.cd (fun hc27 => ?_) (fun hc27 => ?_)
         ·replace h := condT hc27 h
          refine Run.sr ?_
          refine X.an ?_
          cases h
          refine R.f1 Try.results3 ?_
          rfl
         ·replace h := condF hc27 h
          refine Run.skip ?_
          refine Run.sr ?_
          refine X.an ?_
          cases h
          refine R.f1 Try.results3 ?_
          rfl
end Go.Px.Ytiopmcdngjlgbaa
