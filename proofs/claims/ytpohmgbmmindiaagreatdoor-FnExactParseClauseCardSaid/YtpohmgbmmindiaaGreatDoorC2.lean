/-
  PROVED: contracts of functions of the program over pure values. No condition beyond those that each theorem names.
-/
import Derived.Test.YtpohmgbmmindiaaGreatDoorProg
import Derived.Test.YtpohmgbmmindiaaGreatDoorD1
import Derived.Test.YtpohmgbmmindiaaGreatDoorS
import Derived.Test.YtpohmgbmmindiaaGreatDoorC1
namespace Go.Px.YtpohmgbmmindiaaGreatDoor
set_option linter.unusedSimpArgs false
set_option linter.unusedVariables false
open Go.Px Go.Proofs
theorem w_eqLiteralS_pc (b0 : List TLiteral) (b1 : List TLiteral) (r : Bool) (h : w_eqLiteralS b0 b1 = some r) : PC Tryz.prog 22 [.slice (b0.map eTLiteral), .slice (b1.map eTLiteral)] (bool r) := by
 unfold w_eqLiteralS at h
 refine PC.start Tryz.func22 Tryz.ntmps22 rfl ok22 rfl ?_
 refine Run.sr ?_
 refine X.an ?_
 refine Run.seq ?_
 refine Run.sr ?_
 refine X.mv ?_
 refine X.ls elt43 ?_
 refine X.mv ?_
 refine X.ls elt43 ?_
 refine X.bi ?_
 refine X.nil ?_
 refine R.cd (fun hc1 => ?_) (fun hc1 => ?_)
 ·replace h := condT hc1 h
  refine Run.sr ?_
  refine X.an ?_
  cases h
  refine R.f1 Tryz.results22 ?_
  rfl
 ·replace h := condF hc1 h
  refine Run.skip ?_
  refine Run.seq ?_
  refine Run.sr ?_
  refine X.an ?_
  obtain ⟨o2, ho2, h⟩ := bindE h
  refine R.join2 (β := Unit) [] [] (fun p16 S => S) (fun p16 M => M) (fun p16 => (Sum.inl p16) = o2) ?_ ?_
  ·intro JJ5 hmeet4
   have hup3 := h; clear h; have h := ho2; clear ho2
   refine Run.block ?_
   refine R.bndS (t := 0) (by rfl) (fun hbd8 => ?_)
   replace hbd8 : b0.length ≤ 9223372036854775807 := by first | (rw [List.length_map] at hbd8; exact hbd8) | simp
   refine R.lp (β := Int) [(0, .slice (b0.map eTLiteral)), (1, .slice (b1.map eTLiteral))] [] (fun bb S => (5, int bb) :: S) (fun bb M => M) (fun n bb => 0 ≤ bb ∧ bb + n = (b0.length : Int) ∧ w_eqLiteralS_L1 b1 (b0.drop bb.toNat) bb = some o2) b0.length (0 : Int) ⟨Int.le_refl _, by simp, h⟩ ?_
   clear h
   rintro JJ8 n8 z9 hag8 ⟨hza8, hzb8, h⟩
   refine Run.seq ?_
   refine Run.sr ?_
   refine X.mv ?_
   refine X.mv ?_
   refine X.ls elt43 ?_
   refine X.bi ?_
   refine X.nil ?_
   refine R.cd (fun hc12 => ?_) (fun hc12 => ?_)
   ·obtain ⟨x10, xs11, hd8, hx8, hds8, hlt8⟩ := drop_atI hza8 hc12
    rw [hd8] at h
    rw [w_eqLiteralS_L1] at h
    refine Run.skip ?_
    refine Run.seq ?_
    refine Run.block ?_
    refine Run.seq ?_
    refine Run.draw (footOf []) mixed (by kernel_rfl) (by kernel_rfl) ?_
    refine X.mv ?_
    refine X.mv ?_
    refine X.ix elt43 (idxL_spec hx8).1 (idxL_map eTLiteral hx8) ?_
    refine X.lc shp91 ?_
    refine X.mv ?_
    refine X.mv ?_
    obtain ⟨v13, hv13, h⟩ := bindE h
    refine X.ix elt43 (idxL_spec hv13).1 (idxL_map eTLiteral hv13) ?_
    refine X.lc shp91 ?_
    obtain ⟨v14, hv14, h⟩ := bindE h
    refine X.cp (w_eqLiteral_pc _ _ _ hv14) ?_
    refine X.un (by rfl) (by rfl) (by rfl) ?_
    refine X.nil ?_
    refine R.cd (fun hc15 => ?_) (fun hc15 => ?_)
    ·replace h := condT hc15 h
     refine Run.sr ?_
     refine X.an ?_
     cases h
     have h := hup3
     replace h := elimR h
     cases h
     refine R.f1 Tryz.results22 ?_
     rfl
    ·replace h := condF hc15 h
     refine Run.skip ?_
     refine Run.blk ?_
     refine Run.reg ?_
     refine X.mv ?_
     refine X.ad ?_
     refine X.an ?_
     exact R.ag hag8 (n8 - 1) (z9 + 1) (R.n3 (by first | (rw [hds8]; exact h) | (dsimp only; rw [hds8]; exact h)))
   ·rw [drop_endI hza8 hc12] at h
    rw [w_eqLiteralS_L1] at h
    refine Run.exit (by rfl) ?_
    exact R.mt hmeet4 () (Option.some.inj h)
  rintro p16 rfl
  replace h := elimL h
  refine Run.sr ?_
  refine X.an ?_
  cases h
  refine R.f1 Tryz.results22 ?_
  rfl
theorem s_SplitAny_pc (b0 : ByteArray) (b1 : ByteArray) (r : List ByteArray) (h : s_SplitAny b0 b1 = some r) : PC Tryz.prog 54 [str b0, str b1] (.fresh false 9 1 (r.map str)) := by
 unfold s_SplitAny at h
 refine PC.start Tryz.func54 Tryz.ntmps54 rfl ok54 rfl ?_
 refine Run.sr ?_
 refine X.an ?_
 refine Run.sr ?_
 refine X.buildSlice false elt88 zer9 (by rfl) (by rfl) (by rfl) (by rfl) (by rfl) (by rfl) (by repeat (first | trivial | refine ⟨by first | rfl | simp [setL], ?_⟩)) (allSz_spec (by rfl)) (by rfl) (by rfl) (by rfl) ?_
 refine X.an ?_
 refine Run.sr ?_
 refine X.an ?_
 refine Run.seq ?_
 refine Run.sr ?_
 refine X.an ?_
 obtain ⟨o1, ho1, h⟩ := bindE h
 refine R.join2 (β := Int × (List ByteArray)) [(0, str b0)] [] (fun p29 S => (5, .own 576 (p29.2.map str).length) :: (6, int p29.1) :: S) (fun p29 M => (576, .obj false 9 1 (p29.2.map str)) :: M) (fun p29 => p29 = o1) ?_ ?_
 ·intro JJ4 hmeet3
  have hup2 := h; clear h; have h := ho1; clear ho1
  refine Run.block ?_
  refine R.lp (β := Int × Int × (List ByteArray)) [(0, str b0), (1, str b1)] [] (fun bb S => (5, .own 576 (bb.2.2.map str).length) :: (6, int bb.1) :: (7, int bb.2.1) :: S) (fun bb M => (576, .obj false 9 1 (bb.2.2.map str)) :: M) (fun n bb => s_SplitAny_L1 b0 b1 n bb.1 bb.2.1 bb.2.2 = some o1) F0 (0, 0, ([] : List ByteArray)) h ?_
  clear h
  rintro JJ5 n5 ⟨a7, a8, a9⟩ hag5 h
  dsimp only at h
  obtain _ | n5 := n5
  ·exact absurd h (by simp [s_SplitAny_L1])
  rw [s_SplitAny_L1] at h
  refine Run.seq ?_
  refine Run.sr ?_
  refine X.mv ?_
  refine X.mv ?_
  refine X.lenStr Tryz.underlying9 (by rfl) (by rfl) ?_
  refine X.bi ?_
  refine X.nil ?_
  refine R.cd (fun hc12 => ?_) (fun hc12 => ?_)
  ·replace h := condT hc12 h
   refine Run.skip ?_
   refine Run.seq ?_
   refine Run.block ?_
   refine Run.sr ?_
   refine X.an ?_
   obtain ⟨o13, ho13, h⟩ := bindE h
   refine R.join2 (β := Int × (List ByteArray)) [(0, str b0), (1, str b1), (7, int a8)] [] (fun p28 S => (5, .own 576 (p28.2.map str).length) :: (6, int p28.1) :: S) (fun p28 M => (576, .obj false 9 1 (p28.2.map str)) :: M) (fun p28 => p28 = o13) ?_ ?_
   ·intro JJ16 hmeet15
    have hup14 := h; clear h; have h := ho13; clear ho13
    refine Run.block ?_
    refine R.lp (β := Int) [(0, str b0), (1, str b1), (6, int a7), (7, int a8)] [(576, .obj false 9 1 (a9.map str))] (fun bb S => (5, .own 576 (a9.map str).length) :: (8, int bb) :: S) (fun bb M => M) (fun n bb => s_SplitAny_L2 b0 b1 a7 a8 a9 n bb = some o13) F0 0 h ?_
    clear h
    rintro JJ17 n17 a19 hag17 h
    obtain _ | n17 := n17
    ·exact absurd h (by simp [s_SplitAny_L2])
    rw [s_SplitAny_L2] at h
    refine Run.seq ?_
    refine Run.sr ?_
    refine X.mv ?_
    refine X.mv ?_
    refine X.lenStr Tryz.underlying9 (by rfl) (by rfl) ?_
    refine X.bi ?_
    refine X.nil ?_
    refine R.cd (fun hc22 => ?_) (fun hc22 => ?_)
    ·replace h := condT hc22 h
     refine Run.skip ?_
     refine Run.seq ?_
     refine Run.block ?_
     refine Run.seq ?_
     refine Run.draw (footOf []) mixed (by kernel_rfl) (by kernel_rfl) ?_
     refine X.mv ?_
     refine X.mv ?_
     obtain ⟨v23, hv23, h⟩ := bindE h
     refine X.indexStr2 hv23 Tryz.underlying9 (by rfl) (by rfl) (by rfl) ?_
     refine X.mv ?_
     refine X.mv ?_
     obtain ⟨v24, hv24, h⟩ := bindE h
     refine X.indexStr2 hv24 Tryz.underlying9 (by rfl) (by rfl) (by rfl) ?_
     refine X.bi ?_
     refine X.nil ?_
     refine R.cd (fun hc25 => ?_) (fun hc25 => ?_)
     ·replace h := condT hc25 h
      refine Run.sr ?_
      refine X.mv ?_
      refine X.mv ?_
      refine X.mv ?_
      refine X.mv ?_
      obtain ⟨v26, hv26, h⟩ := bindE h
      refine X.sliceStr2 hv26 Tryz.underlying9 (by rfl) ⟨_, by rfl⟩ ⟨_, by rfl⟩ (by rfl) ?_
      refine X.buildSlice false elt88 zer9 (by rfl) (by rfl) (by rfl) (by rfl) (by rfl) (by rfl) (by repeat (first | trivial | refine ⟨by first | rfl | simp [setL], ?_⟩)) (allSz_spec (by rfl)) (by rfl) (by rfl) (by rfl) ?_
      obtain ⟨v27, hv27, h⟩ := bindE h
      refine X.append elt88 zer9 (by rfl) (by rfl) (by first | rfl | simp [setL] | omega) (by rfl) (.own _ _ _ _ _ _ (look_mem (by rfl)) (by first | rfl | simp [setL] | omega)) (allSz_spec (by rfl)) (appL_len str hv27) (appL_map str hv27) (by rfl) (by rfl) (by rfl) (by rfl) ?_
      refine X.an ?_
      refine Run.sr ?_
      refine X.mv ?_
      refine X.addW (by rfl) (by rfl) (by rfl) ?_
      refine X.an ?_
      refine Run.exit (by rfl) ?_
      exact R.mt hmeet15 ((W (a8 + 1)), v27) (Option.some.inj h)
     ·replace h := condF hc25 h
      refine Run.skip ?_
      refine Run.blk ?_
      refine Run.reg ?_
      refine X.mv ?_
      refine X.addW (by rfl) (by rfl) (by rfl) ?_
      refine X.an ?_
      exact hag17 n17 (W (a19 + 1)) _ _ (by omega) h (by repeat (first | trivial | refine ⟨by first | rfl | simp [setL], ?_⟩)) (by repeat (first | trivial | refine ⟨by first | rfl | simp [setL], ?_⟩)) (by rfl) (by rfl)
    ·replace h := condF hc22 h
     refine Run.exit (by rfl) ?_
     exact R.mt hmeet15 (a7, a9) (Option.some.inj h)
   rintro p28 rfl
   refine Run.blk ?_
   refine Run.reg ?_
   refine X.mv ?_
   refine X.addW (by rfl) (by rfl) (by rfl) ?_
   refine X.an ?_
   exact hag5 n5 (p28.1, (W (a8 + 1)), p28.2) _ _ (by omega) h (by repeat (first | trivial | refine ⟨by first | rfl | simp [setL], ?_⟩)) (by repeat (first | trivial | refine ⟨by first | rfl | simp [setL], ?_⟩)) (by rfl) (by rfl)
  ·replace h := condF hc12 h
   refine Run.exit (by rfl) ?_
   exact R.mt hmeet3 (a7, a9) (Option.some.inj h)
 rintro p29 rfl
 refine Run.sr ?_
 refine X.mv ?_
 refine X.mv ?_
 refine X.mv ?_
 obtain ⟨v30, hv30, h⟩ := bindE h
 refine X.sliceStr2 hv30 Tryz.underlying9 (by rfl) ⟨_, by rfl⟩ (by rfl) (by rfl) ?_
 refine X.buildSlice false elt88 zer9 (by rfl) (by rfl) (by rfl) (by rfl) (by rfl) (by rfl) (by repeat (first | trivial | refine ⟨by first | rfl | simp [setL], ?_⟩)) (allSz_spec (by rfl)) (by rfl) (by rfl) (by rfl) ?_
 obtain ⟨v31, hv31, h⟩ := bindE h
 refine X.append elt88 zer9 (by rfl) (by rfl) (by first | rfl | simp [setL] | omega) (by rfl) (.own _ _ _ _ _ _ (look_mem (by rfl)) (by first | rfl | simp [setL] | omega)) (allSz_spec (by rfl)) (appL_len str hv31) (appL_map str hv31) (by rfl) (by rfl) (by rfl) (by rfl) ?_
 refine X.an ?_
 cases h
 refine R.fin1o Tryz.results54 (by rfl) (by rfl) (by first | rfl | simp [setL] | omega) ?_
 rfl
theorem s_ParseInt_pc (b0 : ByteArray) (r : Int × Bool) (h : s_ParseInt b0 = some r) : PC Tryz.prog 99 [str b0] (.tuple [int r.1, bool r.2]) := by
 unfold s_ParseInt at h
 refine PC.start Tryz.func99 Tryz.ntmps99 rfl ok99 rfl ?_
 refine Run.sr ?_
 refine X.as ?_
 refine X.an ?_
 refine Run.sr ?_
 refine X.an ?_
 refine Run.seq ?_
 obtain ⟨e1, he1, h2⟩ := bindE h
 refine R.regG [(0, str b0), (4, int 0), (5, bool e1)] [] ?_ ?_
 ·clear h; have h := he1; clear he1 h2
  refine X.mv ?_
  refine X.lenStr Tryz.underlying9 (by rfl) (by rfl) ?_
  refine X.bi ?_
  refine X.mv ?_
  refine X.iG (fun hb2 => ?_) (fun hb2 => ?_)
  ·replace h := condT hb2 h
   refine X.mv ?_
   refine X.gy ?_
   obtain ⟨v3, hv3, h⟩ := bindE h
   refine X.indexStr2 hv3 Tryz.underlying9 (by rfl) (by rfl) (by rfl) ?_
   refine X.gy ?_
   refine X.bi ?_
   refine X.pT ?_
   refine X.as ?_
   cases h
   exact X.eG
  ·replace h := condF hb2 h
   refine X.gn ?_
   refine X.gn ?_
   refine X.pF ?_
   refine X.as ?_
   cases h
   exact X.eG
 replace h := h2; clear h2
 refine Run.seq ?_
 refine Run.sr ?_
 refine X.an ?_
 obtain ⟨o4, ho4, h⟩ := bindE h
 refine R.join2 (β := Int) [(0, str b0), (5, bool e1)] [] (fun p23 S => (4, int p23) :: S) (fun p23 M => M) (fun p23 => (Sum.inl p23) = o4) ?_ ?_
 ·intro JJ7 hmeet6
  have hup5 := h; clear h; have h := ho4; clear ho4
  refine Run.block ?_
  refine R.lp (β := Int × Int) [(0, str b0), (5, bool e1)] [] (fun bb S => (4, int bb.1) :: (6, int bb.2) :: S) (fun bb M => M) (fun n bb => s_ParseInt_L1 b0 e1 n bb.1 bb.2 = some o4) F0 (0, 0) h ?_
  clear h
  rintro JJ8 n8 ⟨a10, a11⟩ hag8 h
  dsimp only at h
  obtain _ | n8 := n8
  ·exact absurd h (by simp [s_ParseInt_L1])
  rw [s_ParseInt_L1] at h
  refine Run.seq ?_
  refine Run.sr ?_
  refine X.mv ?_
  refine X.mv ?_
  refine X.lenStr Tryz.underlying9 (by rfl) (by rfl) ?_
  refine X.bi ?_
  refine X.nil ?_
  refine R.cd (fun hc14 => ?_) (fun hc14 => ?_)
  ·replace h := condT hc14 h
   refine Run.skip ?_
   refine Run.seq ?_
   refine Run.block ?_
   refine Run.sr ?_
   refine X.mv ?_
   refine X.mv ?_
   obtain ⟨v15, hv15, h⟩ := bindE h
   refine X.indexStr2 hv15 Tryz.underlying9 (by rfl) (by rfl) (by rfl) ?_
   refine X.conv Tryz.underlying3 (by rw [Tryz.underlying5]; rfl) (by rfl) (by rfl) ?_
   refine X.subW (by rfl) (by rfl) (by rfl) ?_
   refine X.an ?_
   refine Run.seq ?_
   refine Run.seq ?_
   obtain ⟨e16, he16, h2⟩ := bindE h
   refine R.regG [(0, str b0), (4, int a10), (5, bool e1), (6, int a11), (7, int (W ((IntKind.i64.wrap v15) - 48))), (31, bool e16)] [] ?_ ?_
   ·clear h; have h := he16; clear he16 h2
    refine X.mv ?_
    refine X.bi ?_
    refine X.mv ?_
    refine X.iG (fun hb17 => ?_) (fun hb17 => ?_)
    ·replace h := condT hb17 h
     refine X.mv ?_
     refine X.pT ?_
     cases h
     exact X.eG
    ·replace h := condF hb17 h
     refine X.pF ?_
     cases h
     exact X.eG
   replace h := h2; clear h2
   refine R.cd (fun hc18 => ?_) (fun hc18 => ?_)
   ·replace h := condT hc18 h
    refine Run.exit (by rfl) ?_
    refine Run.reg ?_
    refine X.mv ?_
    refine X.addW (by rfl) (by rfl) (by rfl) ?_
    refine X.an ?_
    exact hag8 n8 (a10, (W (a11 + 1))) _ _ (by omega) h (by trivial) (by trivial) (by rfl) (by rfl)
   ·replace h := condF hc18 h
    refine Run.skip ?_
    refine Run.seq ?_
    refine Run.seq ?_
    obtain ⟨e19, he19, h2⟩ := bindE h
    refine R.regG [(0, str b0), (4, int a10), (5, bool e1), (6, int a11), (7, int (W ((IntKind.i64.wrap v15) - 48))), (42, bool e19)] [] ?_ ?_
    ·clear h; have h := he19; clear he19 h2
     refine X.mv ?_
     refine X.bi ?_
     refine X.mv ?_
     refine X.iG (fun hb20 => ?_) (fun hb20 => ?_)
     ·replace h := condF hb20 h
      refine X.mv ?_
      refine X.gy ?_
      refine X.bi ?_
      refine X.pF ?_
      refine X.mv ?_
      refine X.iG (fun hb21 => ?_) (fun hb21 => ?_)
      ·replace h := condF hb21 h
       refine X.mv ?_
       refine X.gy ?_
       refine X.lenStr Tryz.underlying9 (by rfl) (by rfl) ?_
       refine X.gy ?_
       refine X.bi ?_
       refine X.pF ?_
       cases h
       exact X.eG
      ·replace h := condT hb21 h
       refine X.gn ?_
       refine X.gn ?_
       refine X.pT ?_
       cases h
       exact X.eG
     ·replace h := condT hb20 h
      refine X.gn ?_
      refine X.pT ?_
      refine X.mv ?_
      refine X.gn ?_
      refine X.gn ?_
      refine X.gn ?_
      refine X.pT ?_
      cases h
      exact X.eG
    replace h := h2; clear h2
    refine R.cd (fun hc22 => ?_) (fun hc22 => ?_)
    ·replace h := condT hc22 h
     refine Run.sr ?_
     refine X.as ?_
     refine X.an ?_
     cases h
     have h := hup5
     replace h := elimR h
     cases h
     refine R.fin2 Tryz.results99 (by rfl) (by rfl) (by rfl) (by repeat (first | trivial | refine ⟨by first | rfl | simp [setL], ?_⟩)) ?_
     rfl
    ·replace h := condF hc22 h
     refine Run.skip ?_
     refine Run.reg ?_
     refine X.mv ?_
     refine X.mulW (by rfl) (by rfl) (by rfl) ?_
     refine X.mv ?_
     refine X.addW (by rfl) (by rfl) (by rfl) ?_
     refine X.an ?_
     refine Run.blk ?_
     refine Run.reg ?_
     refine X.mv ?_
     refine X.addW (by rfl) (by rfl) (by rfl) ?_
     refine X.an ?_
     exact hag8 n8 ((W ((W (a10 * 10)) + (W ((IntKind.i64.wrap v15) - 48)))), (W (a11 + 1))) _ _ (by omega) h (by trivial) (by trivial) (by rfl) (by rfl)
  ·replace h := condF hc14 h
   refine Run.exit (by rfl) ?_
   exact R.mt hmeet6 a10 (Option.some.inj h)
 rintro p23 rfl
 replace h := elimL h
 refine Run.seq ?_
 refine Run.sr ?_
 refine X.mn ?_
 obtain ⟨o25, ho25, h⟩ := bindE h
 refine R.join2 (β := Int) [(0, str b0)] [] (fun p30 S => (4, int p30) :: S) (fun p30 M => M) (fun p30 => p30 = o25) ?_ ?_
 ·intro JJ28 hmeet27
  have hup26 := h; clear h; have h := ho25; clear ho25
  refine R.cd (fun hc29 => ?_) (fun hc29 => ?_)
  ·replace h := condT hc29 h
   refine Run.reg ?_
   refine X.mv ?_
   refine X.un (by rfl) (by rfl) (by rfl) ?_
   refine X.an ?_
   exact R.mt hmeet27 (W (0 - p23)) (Option.some.inj h)
  ·replace h := condF hc29 h
   refine Run.skip ?_
   exact R.mt hmeet27 p23 (Option.some.inj h)
 rintro p30 rfl
 refine Run.seq ?_
 refine Run.seq ?_
 obtain ⟨e31, he31, h2⟩ := bindE h
 refine R.regG [(4, int p30), (57, bool e31)] [] ?_ ?_
 ·clear h; have h := he31; clear he31 h2
  refine X.mv ?_
  refine X.bi ?_
  refine X.mv ?_
  refine X.iG (fun hb32 => ?_) (fun hb32 => ?_)
  ·replace h := condF hb32 h
   refine X.mv ?_
   refine X.gy ?_
   obtain ⟨v33, hv33, h⟩ := bindE h
   refine X.cp (s_FormatInt_pc _ _ hv33) ?_
   refine X.gy ?_
   refine X.mv ?_
   refine X.gy ?_
   refine X.bi ?_
   refine X.pF ?_
   cases h
   exact X.eG
  ·replace h := condT hb32 h
   refine X.gn ?_
   refine X.gn ?_
   refine X.gn ?_
   refine X.pT ?_
   cases h
   exact X.eG
 replace h := h2; clear h2
 refine R.cd (fun hc34 => ?_) (fun hc34 => ?_)
 ·replace h := condT hc34 h
  refine Run.sr ?_
  refine X.as ?_
  refine X.an ?_
  cases h
  refine R.fin2 Tryz.results99 (by rfl) (by rfl) (by rfl) (by repeat (first | trivial | refine ⟨by first | rfl | simp [setL], ?_⟩)) ?_
  rfl
 ·replace h := condF hc34 h
  refine Run.skip ?_
  refine Run.sr ?_
  refine X.mv ?_
  refine X.as ?_
  refine X.an ?_
  cases h
  refine R.fin2 Tryz.results99 (by rfl) (by rfl) (by rfl) (by repeat (first | trivial | refine ⟨by first | rfl | simp [setL], ?_⟩)) ?_
  rfl
theorem s_ParseLiteral_pc (b0 : TProject) (b1 : ByteArray) (r : TLiteral × Bool) (h : s_ParseLiteral b0 b1 = some r) : PC Tryz.prog 55 [eTProject b0, str b1] (.tuple [eTLiteral r.1, bool r.2]) := by
 unfold s_ParseLiteral at h
 refine PC.start Tryz.func55 Tryz.ntmps55 rfl ok55 rfl ?_
 refine Run.sr ?_
 refine X.bx ?_
 refine X.alloc zer91 (by rfl) (by rfl) (by rfl) ?_
 refine X.an ?_
 refine Run.sr ?_
 refine X.mv ?_
 obtain ⟨v1, hv1, h⟩ := bindE h
 refine X.callF (s_SplitAny_pc _ _ _ hv1) (by rfl) (by rfl) (by rfl) (by trivial) (by rfl) (by rfl) (by rfl) (by rfl) ?_
 refine X.an ?_
 refine Run.sr ?_
 refine X.mv ?_
 refine X.mv ?_
 refine X.len_o elt88 (by rfl) (by rfl) (by first | rfl | simp [setL] | omega) (by first | exact List.length_map .. | rfl) (by rfl) (by rfl) ?_
 refine X.subW (by rfl) (by rfl) (by rfl) ?_
 obtain ⟨v2, hv2, h⟩ := bindE h
 refine X.index_o elt88 (by rfl) (by rfl) (by first | rfl | simp [setL] | omega) (by rfl) (idxL_spec hv2).1 (idxL_map str hv2) (by rfl) (by rfl) (by rfl) ?_
 refine X.lc shp9 ?_
 obtain ⟨v3, hv3, h⟩ := bindE h
 refine X.callT (s_ParseInt_pc _ _ hv3) (by rfl) (by rfl) (by rfl) (by trivial) (by rfl) (by rfl) (by rfl) (by rfl) (by rfl) (by rfl) ?_
 refine X.mv ?_
 refine X.extract (by rfl) (by rfl) (by rfl) ?_
 refine X.extract (by rfl) (by rfl) (by rfl) ?_
 refine X.as ?_
 refine X.an ?_
 refine Run.seq ?_
 refine Run.sr ?_
 refine X.an ?_
 obtain ⟨o4, ho4, h⟩ := bindE h
 refine R.join2 (β := Unit) [(4, .lptr 256 0)] [(256, .blk true [int 0, int 0, int 0])] (fun p19 S => S) (fun p19 M => M) (fun p19 => (Sum.inl p19) = o4) ?_ ?_
 ·intro JJ7 hmeet6
  have hup5 := h; clear h; have h := ho4; clear ho4
  refine Run.block ?_
  refine R.lp (β := Int) [(1, str b1), (2, .lptr 128 0), (4, .lptr 256 0), (7, int v3.1)] [(128, .blk true [int b0.Deadline, .slice (b0.Activities.map eTActivity), .slice (b0.Links.map eTLink), .slice (b0.Resources.map eTResource), .slice (b0.Stocks.map int)]), (256, .blk true [int 0, int 0, int 0]), (768, .obj false 9 1 (v1.map str))] (fun bb S => (6, .own 768 (v1.map str).length) :: (9, int bb) :: S) (fun bb M => M) (fun n bb => s_ParseLiteral_L1 b0 b1 v1 v3 n bb = some o4) F0 1 h ?_
  clear h
  rintro JJ7 n7 a9 hag7 h
  obtain _ | n7 := n7
  ·exact absurd h (by simp [s_ParseLiteral_L1])
  rw [s_ParseLiteral_L1] at h
  refine Run.seq ?_
  refine Run.sr ?_
  refine X.mv ?_
  refine X.bi ?_
  refine X.nil ?_
  refine R.cd (fun hc12 => ?_) (fun hc12 => ?_)
  ·replace h := condT hc12 h
   refine Run.skip ?_
   refine Run.seq ?_
   refine Run.block ?_
   refine Run.seq ?_
   refine Run.draw (footOf [(1, ([128], [], [], [])), (3, ([768], [], [], [])), (8, ([640], [640], [], [])), (9, ([640], [640], [], []))]) mixed (by kernel_rfl) (by kernel_rfl) ?_
   refine X.mv ?_
   refine X.ld shp40 ?_
   refine X.mv ?_
   obtain ⟨v13, hv13, h⟩ := bindE h
   refine X.index_o elt88 (by rfl) (by rfl) (by first | rfl | simp [setL] | omega) (by rfl) (idxL_spec hv13).1 (idxL_map str hv13) (by rfl) (by rfl) (by rfl) ?_
   refine X.lc shp9 ?_
   obtain ⟨v14, hv14, h⟩ := bindE h
   refine X.cp (s_ActivityIndex_pc _ _ _ hv14) ?_
   refine X.mv ?_
   refine X.build zer91 pl91 (by rfl) (by rfl) (by repeat (first | trivial | refine ⟨by first | rfl | simp [setL], ?_⟩)) (by rfl) (by rfl) (by rfl) ?_
   refine X.alloc zer91 (by rfl) (by rfl) (by rfl) ?_
   refine X.sl shp91 ?_
   refine X.nil ?_
   refine Run.seq ?_
   obtain ⟨v15, hv15, h⟩ := bindE h
   obtain ⟨e16, he16, h2⟩ := bindE h
   refine R.regG [(1, str b1), (2, .lptr 128 0), (4, .lptr 256 0), (6, .own 768 (v1.map str).length), (7, int v3.1), (9, int a9), (10, .lptr 640 0), (43, bool e16)] [(128, .blk true [int b0.Deadline, .slice (b0.Activities.map eTActivity), .slice (b0.Links.map eTLink), .slice (b0.Resources.map eTResource), .slice (b0.Stocks.map int)]), (256, .blk true [int 0, int 0, int 0]), (768, .obj false 9 1 (v1.map str)), (640, .blk true [int a9, int v14, int v3.1])] ?_ ?_
   ·clear h; have h := he16; clear he16 h2
    refine X.ld shp40 ?_
    refine X.ld shp91 ?_
    refine X.cp (s_FormatLiteral_pc _ _ _ hv15) ?_
    refine X.mv ?_
    refine X.bi ?_
    refine X.mv ?_
    refine X.iG (fun hb17 => ?_) (fun hb17 => ?_)
    ·replace h := condT hb17 h
     refine X.mv ?_
     refine X.gy ?_
     refine X.bi ?_
     refine X.pT ?_
     cases h
     exact X.eG
    ·replace h := condF hb17 h
     refine X.gn ?_
     refine X.pF ?_
     cases h
     exact X.eG
   replace h := h2; clear h2
   refine R.cd (fun hc18 => ?_) (fun hc18 => ?_)
   ·replace h := condT hc18 h
    refine Run.sr ?_
    refine X.ld shp91 ?_
    refine X.sl shp91 ?_
    refine X.an ?_
    cases h
    have h := hup5
    replace h := elimR h
    cases h
    refine R.finC2 Tryz.results55 shp91 (by rfl) (by rfl) (by rfl) (by rfl) (by rfl) (by rfl) (by repeat (first | trivial | refine ⟨by first | rfl | simp [setL], ?_⟩)) ?_
    rfl
   ·replace h := condF hc18 h
    refine Run.skip ?_
    refine Run.blk ?_
    refine Run.reg ?_
    refine X.mv ?_
    refine X.addW (by rfl) (by rfl) (by rfl) ?_
    refine X.an ?_
    exact hag7 n7 (W (a9 + 1)) _ _ (by omega) h (by repeat (first | trivial | refine ⟨by first | rfl | simp [setL], ?_⟩)) (by repeat (first | trivial | refine ⟨by first | rfl | simp [setL], ?_⟩)) (by rfl) (by rfl)
  ·replace h := condF hc12 h
   refine Run.exit (by rfl) ?_
   exact R.mt hmeet6 () (Option.some.inj h)
 rintro p19 rfl
 replace h := elimL h
 refine Run.sr ?_
 refine X.build zer91 pl91 (by rfl) (by rfl) (by repeat (first | trivial | refine ⟨by first | rfl | simp [setL], ?_⟩)) (by rfl) (by rfl) (by rfl) ?_
 refine X.sl shp91 ?_
 refine X.an ?_
 cases h
 refine R.finC2 Tryz.results55 shp91 (by rfl) (by rfl) (by rfl) (by rfl) (by rfl) (by rfl) (by repeat (first | trivial | refine ⟨by first | rfl | simp [setL], ?_⟩)) ?_
 rfl
theorem s_ParseClause_pc (b0 : TProject) (b1 : ByteArray) (r : (List TLiteral) × Bool) (h : s_ParseClause b0 b1 = some r) : PC Tryz.prog 20 [eTProject b0, str b1] (.tuple [.fresh false 91 3 (r.1.map eTLiteral), bool r.2]) := by
 unfold s_ParseClause at h
 refine PC.start Tryz.func20 Tryz.ntmps20 rfl ok20 rfl ?_
 refine Run.sr ?_
 refine X.bx ?_
 refine X.as ?_
 refine X.an ?_
 refine Run.sr ?_
 refine X.buildSlice false elt43 zer91 (by rfl) (by rfl) (by rfl) (by rfl) (by rfl) (by rfl) (by repeat (first | trivial | refine ⟨by first | rfl | simp [setL], ?_⟩)) (allSz_spec (by rfl)) (by rfl) (by rfl) (by rfl) ?_
 refine X.an ?_
 refine Run.seq ?_
 refine Run.sr ?_
 refine X.mv ?_
 refine X.bi ?_
 refine X.nil ?_
 refine R.cd (fun hc1 => ?_) (fun hc1 => ?_)
 ·replace h := condT hc1 h
  refine Run.sr ?_
  refine X.mv ?_
  refine X.as ?_
  refine X.an ?_
  cases h
  refine R.fin2 Tryz.results20 (by rfl) (by rfl) (by rfl) (by repeat (first | trivial | refine ⟨by first | rfl | simp [setL], ?_⟩)) ?_
  rfl
 ·replace h := condF hc1 h
  refine Run.skip ?_
  refine Run.seq ?_
  refine Run.sr ?_
  refine X.mv ?_
  obtain ⟨v2, hv2, h⟩ := bindE h
  refine X.callF (s_SplitAny_pc _ _ _ hv2) (by rfl) (by rfl) (by rfl) (by trivial) (by rfl) (by rfl) (by rfl) (by rfl) ?_
  refine X.len_o elt88 (by rfl) (by rfl) (by first | rfl | simp [setL] | omega) (by first | exact List.length_map .. | rfl) (by rfl) (by rfl) ?_
  refine X.mn ?_
  obtain ⟨o3, ho3, h⟩ := bindE h
  refine R.join2 (β := (List TLiteral)) [(1, str b1), (2, .lptr 128 0)] [(128, .blk true [int b0.Deadline, .slice (b0.Activities.map eTActivity), .slice (b0.Links.map eTLink), .slice (b0.Resources.map eTResource), .slice (b0.Stocks.map int)])] (fun p18 S => (6, .own 704 (p18.map eTLiteral).length) :: S) (fun p18 M => (704, .obj false 91 3 (p18.map eTLiteral)) :: M) (fun p18 => (Sum.inl p18) = o3) ?_ ?_
  ·intro JJ6 hmeet5
   have hup4 := h; clear h; have h := ho3; clear ho3
   refine Run.block ?_
   refine R.bndO (n := 1024) (by rfl) (fun hbd9 => ?_)
   replace hbd9 : v2.length ≤ 9223372036854775807 := by first | (rw [List.length_map] at hbd9; exact hbd9) | simp
   refine R.lp (β := Int × (List TLiteral)) [(1, str b1), (2, .lptr 128 0), (17, int (v2.length : Int))] [(128, .blk true [int b0.Deadline, .slice (b0.Activities.map eTActivity), .slice (b0.Links.map eTLink), .slice (b0.Resources.map eTResource), .slice (b0.Stocks.map int)]), (1024, .obj false 9 1 (v2.map str))] (fun bb S => (6, .own 704 (bb.2.map eTLiteral).length) :: (16, .own 1024 (v2.map str).length) :: (18, int bb.1) :: S) (fun bb M => (704, .obj false 91 3 (bb.2.map eTLiteral)) :: M) (fun n bb => 0 ≤ bb.1 ∧ bb.1 + n = (v2.length : Int) ∧ s_ParseClause_L1 b0 (v2.drop bb.1.toNat) bb.1 bb.2 = some o3) v2.length (0, ([] : List TLiteral)) ⟨Int.le_refl _, by simp, h⟩ ?_
   clear h
   rintro JJ9 n9 ⟨z10, a11⟩ hag9 ⟨hza9, hzb9, h⟩
   dsimp only at hza9 hzb9 h
   refine Run.sr ?_
   refine X.bi ?_
   refine X.nil ?_
   refine Run.seq ?_
   refine R.cd (fun hc14 => ?_) (fun hc14 => ?_)
   ·obtain ⟨x12, xs13, hd9, hx9, hds9, hlt9⟩ := drop_atI hza9 hc14
    rw [hd9] at h
    rw [s_ParseClause_L1] at h
    refine Run.skip ?_
    refine Run.seq ?_
    refine Run.block ?_
    refine Run.sr ?_
    refine X.index_o elt88 (by rfl) (by rfl) (by first | rfl | simp [setL] | omega) (by rfl) (idxL_spec hx9).1 (idxL_map str hx9) (by rfl) (by rfl) (by rfl) ?_
    refine X.lc shp9 ?_
    refine X.an ?_
    refine Run.sr ?_
    refine X.ld shp40 ?_
    refine X.mv ?_
    obtain ⟨v15, hv15, h⟩ := bindE h
    refine X.callT2 (s_ParseLiteral_pc _ _ _ hv15) (by rfl) (by rfl) (by rfl) (by trivial) (by rfl) (by rfl) (by rfl) (by rfl) (by rfl) (by rfl) ?_
    refine X.mv ?_
    refine X.extract (by rfl) (by rfl) (by rfl) ?_
    refine X.extract (by rfl) (by rfl) (by rfl) ?_
    refine X.alloc zer91 (by rfl) (by rfl) (by rfl) ?_
    refine X.sl shp91 ?_
    refine X.an ?_
    refine Run.seq ?_
    refine Run.sr ?_
    refine X.mv ?_
    refine X.un (by rfl) (by rfl) (by rfl) ?_
    refine X.nil ?_
    refine R.cd (fun hc16 => ?_) (fun hc16 => ?_)
    ·replace h := condT hc16 h
     refine Run.sr ?_
     refine X.as ?_
     refine X.an ?_
     cases h
     have h := hup4
     replace h := elimR h
     cases h
     refine R.nilOwnS (t := 4) 296 false 91 3 (by rfl) (by rfl) (by rfl) ?_
     refine R.fin2 Tryz.results20 (by rfl) (by rfl) (by rfl) (by repeat (first | trivial | refine ⟨by first | rfl | simp [setL], ?_⟩)) ?_
     rfl
    ·replace h := condF hc16 h
     refine Run.skip ?_
     refine Run.reg ?_
     refine X.mv ?_
     refine X.ld shp91 ?_
     refine X.buildSlice false elt43 zer91 (by rfl) (by rfl) (by rfl) (by rfl) (by rfl) (by rfl) (by repeat (first | trivial | refine ⟨by first | rfl | simp [setL], ?_⟩)) (allSz_spec (by rfl)) (by rfl) (by rfl) (by rfl) ?_
     obtain ⟨v17, hv17, h⟩ := bindE h
     refine X.append elt43 zer91 (by rfl) (by rfl) (by first | rfl | simp [setL] | omega) (by rfl) (.own _ _ _ _ _ _ (look_mem (by rfl)) (by first | rfl | simp [setL] | omega)) (allSz_spec (by rfl)) (appL_len eTLiteral hv17) (appL_map eTLiteral hv17) (by rfl) (by rfl) (by rfl) (by rfl) ?_
     refine X.an ?_
     refine Run.blk ?_
     refine Run.reg ?_
     refine X.ad ?_
     refine X.mn ?_
     exact R.ag hag9 (n9 - 1) (z10 + 1, v17) (R.n3 (by first | (rw [hds9]; exact h) | (dsimp only; rw [hds9]; exact h)))
   ·rw [drop_endI hza9 hc14] at h
    rw [s_ParseClause_L1] at h
    refine Run.exit (by rfl) ?_
    exact R.mt hmeet5 a11 (Option.some.inj h)
  rintro p18 rfl
  replace h := elimL h
  refine Run.seq ?_
  refine Run.sr ?_
  refine X.ld shp40 ?_
  refine X.mv ?_
  obtain ⟨v20, hv20, h⟩ := bindE h
  refine X.cp (s_FormatClause_pc _ _ _ hv20) ?_
  refine X.mv ?_
  refine X.bi ?_
  refine X.nil ?_
  refine R.cd (fun hc21 => ?_) (fun hc21 => ?_)
  ·replace h := condT hc21 h
   refine Run.sr ?_
   refine X.as ?_
   refine X.an ?_
   cases h
   refine R.nilOwnS (t := 4) 296 false 91 3 (by rfl) (by rfl) (by rfl) ?_
   refine R.fin2 Tryz.results20 (by rfl) (by rfl) (by rfl) (by repeat (first | trivial | refine ⟨by first | rfl | simp [setL], ?_⟩)) ?_
   rfl
  ·replace h := condF hc21 h
   refine Run.skip ?_
   refine Run.sr ?_
   refine X.mv ?_
   refine X.as ?_
   refine X.an ?_
   cases h
   refine R.fin2 Tryz.results20 (by rfl) (by rfl) (by rfl) (by repeat (first | trivial | refine ⟨by first | rfl | simp [setL], ?_⟩)) ?_
   rfl
theorem strings_IndexByte_pc (b0 : ByteArray) (b1 : Int) (r : Int) (h : strings_IndexByte b0 b1 = some r) : PC Tryz.prog 100 [str b0, e_u8 b1] (int r) := PC.indexByte ok100 (fun s c w => Tryz.strings_IndexByte s c w) b0 b1 r h
theorem i_SplitAny_pc (b0 : ByteArray) (b1 : ByteArray) (r : List ByteArray) (h : i_SplitAny b0 b1 = some r) : PC Tryz.prog 56 [str b0, str b1] (.fresh false 9 1 (r.map str)) := by
 unfold i_SplitAny at h
 refine PC.start Tryz.func56 Tryz.ntmps56 rfl ok56 rfl ?_
 refine Run.sr ?_
 refine X.an ?_
 refine Run.sr ?_
 refine X.buildSlice false elt88 zer9 (by rfl) (by rfl) (by rfl) (by rfl) (by rfl) (by rfl) (by repeat (first | trivial | refine ⟨by first | rfl | simp [setL], ?_⟩)) (allSz_spec (by rfl)) (by rfl) (by rfl) (by rfl) ?_
 refine X.as ?_
 refine X.an ?_
 refine Run.seq ?_
 refine Run.sr ?_
 refine X.mv ?_
 refine X.lenStr Tryz.underlying9 (by rfl) (by rfl) ?_
 refine X.mn ?_
 obtain ⟨o1, ho1, h⟩ := bindE h
 refine R.join2 (β := Int × (List ByteArray)) [(0, str b0)] [] (fun p18 S => (5, .own 512 (p18.2.map str).length) :: (6, int p18.1) :: S) (fun p18 M => (512, .obj false 9 1 (p18.2.map str)) :: M) (fun p18 => p18 = o1) ?_ ?_
 ·intro JJ4 hmeet3
  have hup2 := h; clear h; have h := ho1; clear ho1
  refine Run.block ?_
  refine R.lp (β := Int × Int × (List ByteArray)) [(0, str b0), (1, str b1), (10, int (b0.size : Int))] [] (fun bb S => (5, .own 512 (bb.2.2.map str).length) :: (6, int bb.1) :: (11, int bb.2.1) :: S) (fun bb M => (512, .obj false 9 1 (bb.2.2.map str)) :: M) (fun n bb => i_SplitAny_L1 b0 b1 n bb.1 bb.2.1 bb.2.2 = some o1) F0 (0, 0, ([] : List ByteArray)) h ?_
  clear h
  rintro JJ5 n5 ⟨a7, a8, a9⟩ hag5 h
  dsimp only at h
  obtain _ | n5 := n5
  ·exact absurd h (by simp [i_SplitAny_L1])
  rw [i_SplitAny_L1] at h
  refine Run.sr ?_
  refine X.bi ?_
  refine X.nil ?_
  refine Run.seq ?_
  refine R.cd (fun hc12 => ?_) (fun hc12 => ?_)
  ·replace h := condT hc12 h
   refine Run.skip ?_
   refine Run.seq ?_
   refine Run.block ?_
   refine Run.sr ?_
   refine X.mv ?_
   refine X.an ?_
   refine Run.sr ?_
   refine X.mv ?_
   refine X.mv ?_
   refine X.mv ?_
   obtain ⟨v13, hv13, h⟩ := bindE h
   refine X.indexStr2 hv13 Tryz.underlying9 (by rfl) (by rfl) (by rfl) ?_
   obtain ⟨v14, hv14, h⟩ := bindE h
   refine X.cp (strings_IndexByte_pc _ _ _ hv14) ?_
   refine X.bi ?_
   refine X.nil ?_
   refine R.cd (fun hc15 => ?_) (fun hc15 => ?_)
   ·replace h := condT hc15 h
    refine Run.sr ?_
    refine X.mv ?_
    refine X.mv ?_
    refine X.mv ?_
    refine X.mv ?_
    obtain ⟨v16, hv16, h⟩ := bindE h
    refine X.sliceStr2 hv16 Tryz.underlying9 (by rfl) ⟨_, by rfl⟩ ⟨_, by rfl⟩ (by rfl) ?_
    refine X.buildSlice false elt88 zer9 (by rfl) (by rfl) (by rfl) (by rfl) (by rfl) (by rfl) (by repeat (first | trivial | refine ⟨by first | rfl | simp [setL], ?_⟩)) (allSz_spec (by rfl)) (by rfl) (by rfl) (by rfl) ?_
    obtain ⟨v17, hv17, h⟩ := bindE h
    refine X.append elt88 zer9 (by rfl) (by rfl) (by first | rfl | simp [setL] | omega) (by rfl) (.own _ _ _ _ _ _ (look_mem (by rfl)) (by first | rfl | simp [setL] | omega)) (allSz_spec (by rfl)) (appL_len str hv17) (appL_map str hv17) (by rfl) (by rfl) (by rfl) (by rfl) ?_
    refine X.an ?_
    refine Run.reg ?_
    refine X.mv ?_
    refine X.addW (by rfl) (by rfl) (by rfl) ?_
    refine X.an ?_
    refine Run.blk ?_
    refine Run.reg ?_
    refine X.addW (by rfl) (by rfl) (by rfl) ?_
    refine X.mn ?_
    exact hag5 n5 ((W (a8 + 1)), (W (a8 + 1)), v17) _ _ (by omega) h (by repeat (first | trivial | refine ⟨by first | rfl | simp [setL], ?_⟩)) (by repeat (first | trivial | refine ⟨by first | rfl | simp [setL], ?_⟩)) (by rfl) (by rfl)
   ·replace h := condF hc15 h
    refine Run.skip ?_
    refine Run.blk ?_
    refine Run.reg ?_
    refine X.addW (by rfl) (by rfl) (by rfl) ?_
    refine X.mn ?_
    exact hag5 n5 (a7, (W (a8 + 1)), a9) _ _ (by omega) h (by repeat (first | trivial | refine ⟨by first | rfl | simp [setL], ?_⟩)) (by repeat (first | trivial | refine ⟨by first | rfl | simp [setL], ?_⟩)) (by rfl) (by rfl)
  ·replace h := condF hc12 h
   refine Run.exit (by rfl) ?_
   exact R.mt hmeet3 (a7, a9) (Option.some.inj h)
 rintro p18 rfl
 refine Run.sr ?_
 refine X.mv ?_
 refine X.mv ?_
 refine X.mv ?_
 obtain ⟨v19, hv19, h⟩ := bindE h
 refine X.sliceStr2 hv19 Tryz.underlying9 (by rfl) ⟨_, by rfl⟩ (by rfl) (by rfl) ?_
 refine X.buildSlice false elt88 zer9 (by rfl) (by rfl) (by rfl) (by rfl) (by rfl) (by rfl) (by repeat (first | trivial | refine ⟨by first | rfl | simp [setL], ?_⟩)) (allSz_spec (by rfl)) (by rfl) (by rfl) (by rfl) ?_
 obtain ⟨v20, hv20, h⟩ := bindE h
 refine X.append elt88 zer9 (by rfl) (by rfl) (by first | rfl | simp [setL] | omega) (by rfl) (.own _ _ _ _ _ _ (look_mem (by rfl)) (by first | rfl | simp [setL] | omega)) (allSz_spec (by rfl)) (appL_len str hv20) (appL_map str hv20) (by rfl) (by rfl) (by rfl) (by rfl) ?_
 refine X.an ?_
 cases h
 refine R.fin1o Tryz.results56 (by rfl) (by rfl) (by first | rfl | simp [setL] | omega) ?_
 rfl
theorem strconv_Atoi_pc (b0 : ByteArray) (r : Int × Bool) (h : strconv_Atoi b0 = some r) : PC Tryz.prog 139 [str b0] (.tuple [int r.1, .err r.2]) := PC.atoi ok139 (by rfl) (by rfl) (fun s v w h1 h2 => Tryz.strconv_Atoi_ok s h1 v h2 w) (fun s tp p w h1 h2 h3 => Tryz.strconv_Atoi_syntax_var s h1 h2 tp p w h3) (fun s tp p w h1 h2 h3 => Tryz.strconv_Atoi_range_var s h1 h2 tp p w h3) b0 r h
theorem i_ParseInt_pc (b0 : ByteArray) (r : Int × Bool) (h : i_ParseInt b0 = some r) : PC Tryz.prog 102 [str b0] (.tuple [int r.1, bool r.2]) := by
 unfold i_ParseInt at h
 refine PC.start Tryz.func102 Tryz.ntmps102 rfl ok102 rfl ?_
 refine Run.sr ?_
 refine X.as ?_
 refine X.an ?_
 refine Run.sr ?_
 refine X.mv ?_
 obtain ⟨v1, hv1, h⟩ := bindE h
 refine X.callT (strconv_Atoi_pc _ _ hv1) (by rfl) (by rfl) (by rfl) (by trivial) (by rfl) (by rfl) (by rfl) (by rfl) (by rfl) (by rfl) ?_
 refine X.mv ?_
 refine X.extract (by rfl) (by rfl) (by rfl) ?_
 refine X.extract (by rfl) (by rfl) (by rfl) ?_
 refine X.as ?_
 refine X.an ?_
 refine Run.seq ?_
 refine Run.seq ?_
 obtain ⟨e2, he2, h2⟩ := bindE h
 refine R.regG [(4, int v1.1), (22, bool e2)] [] ?_ ?_
 ·clear h; have h := he2; clear he2 h2
  refine X.mv ?_
  refine X.neqErr Tryz.underlying150 (by rfl) (by rfl) ?_
  refine X.mv ?_
  refine X.iG (fun hb3 => ?_) (fun hb3 => ?_)
  ·replace h := condF hb3 h
   refine X.mv ?_
   refine X.gy ?_
   refine X.bi ?_
   refine X.pF ?_
   refine X.mv ?_
   refine X.iG (fun hb4 => ?_) (fun hb4 => ?_)
   ·replace h := condF hb4 h
    refine X.mv ?_
    refine X.gy ?_
    obtain ⟨v5, hv5, h⟩ := bindE h
    refine X.cp (i_FormatInt_pc _ _ hv5) ?_
    refine X.gy ?_
    refine X.mv ?_
    refine X.gy ?_
    refine X.bi ?_
    refine X.pF ?_
    cases h
    exact X.eG
   ·replace h := condT hb4 h
    refine X.gn ?_
    refine X.gn ?_
    refine X.gn ?_
    refine X.pT ?_
    cases h
    exact X.eG
  ·replace h := condT hb3 h
   refine X.gn ?_
   refine X.pT ?_
   refine X.mv ?_
   refine X.gn ?_
   refine X.gn ?_
   refine X.gn ?_
   refine X.gn ?_
   refine X.pT ?_
   cases h
   exact X.eG
 replace h := h2; clear h2
 refine R.cd (fun hc6 => ?_) (fun hc6 => ?_)
 ·replace h := condT hc6 h
  refine Run.sr ?_
  refine X.as ?_
  refine X.an ?_
  cases h
  refine R.fin2 Tryz.results102 (by rfl) (by rfl) (by rfl) (by repeat (first | trivial | refine ⟨by first | rfl | simp [setL], ?_⟩)) ?_
  rfl
 ·replace h := condF hc6 h
  refine Run.skip ?_
  refine Run.sr ?_
  refine X.mv ?_
  refine X.as ?_
  refine X.an ?_
  cases h
  refine R.fin2 Tryz.results102 (by rfl) (by rfl) (by rfl) (by repeat (first | trivial | refine ⟨by first | rfl | simp [setL], ?_⟩)) ?_
  rfl
theorem i_ParseLiteral_pc (b0 : TProject) (b1 : ByteArray) (r : TLiteral × Bool) (h : i_ParseLiteral b0 b1 = some r) : PC Tryz.prog 57 [eTProject b0, str b1] (.tuple [eTLiteral r.1, bool r.2]) := by
 unfold i_ParseLiteral at h
 refine PC.start Tryz.func57 Tryz.ntmps57 rfl ok57 rfl ?_
 refine Run.sr ?_
 refine X.bx ?_
 refine X.alloc zer91 (by rfl) (by rfl) (by rfl) ?_
 refine X.an ?_
 refine Run.sr ?_
 refine X.an ?_
 refine Run.seq ?_
 obtain ⟨o1, ho1, h⟩ := bindE h
 refine R.join2 (β := Int) [(1, str b1), (2, .lptr 128 0), (4, .lptr 256 0)] [(128, .blk true [int b0.Deadline, .slice (b0.Activities.map eTActivity), .slice (b0.Links.map eTLink), .slice (b0.Resources.map eTResource), .slice (b0.Stocks.map int)]), (256, .blk true [int 0, int 0, int 0])] (fun p17 S => (6, int p17) :: S) (fun p17 M => M) (fun p17 => p17 = o1) ?_ ?_
 ·intro JJ4 hmeet3
  have hup2 := h; clear h; have h := ho1; clear ho1
  refine Run.block ?_
  refine R.lp (β := Int) [(1, str b1), (2, .lptr 128 0), (4, .lptr 256 0)] [(128, .blk true [int b0.Deadline, .slice (b0.Activities.map eTActivity), .slice (b0.Links.map eTLink), .slice (b0.Resources.map eTResource), .slice (b0.Stocks.map int)]), (256, .blk true [int 0, int 0, int 0])] (fun bb S => (6, int bb) :: S) (fun bb M => M) (fun n bb => i_ParseLiteral_L1 b1 n bb = some o1) F0 0 h ?_
  clear h
  rintro JJ4 n4 a6 hag4 h
  obtain _ | n4 := n4
  ·exact absurd h (by simp [i_ParseLiteral_L1])
  rw [i_ParseLiteral_L1] at h
  refine Run.seq ?_
  refine Run.seq ?_
  obtain ⟨e9, he9, h2⟩ := bindE h
  refine R.regG [(1, str b1), (2, .lptr 128 0), (4, .lptr 256 0), (6, int a6), (39, bool e9)] [(128, .blk true [int b0.Deadline, .slice (b0.Activities.map eTActivity), .slice (b0.Links.map eTLink), .slice (b0.Resources.map eTResource), .slice (b0.Stocks.map int)]), (256, .blk true [int 0, int 0, int 0])] ?_ ?_
  ·clear h; have h := he9; clear he9 h2
   refine X.mv ?_
   refine X.mv ?_
   refine X.lenStr Tryz.underlying9 (by rfl) (by rfl) ?_
   refine X.bi ?_
   refine X.mv ?_
   refine X.iG (fun hb10 => ?_) (fun hb10 => ?_)
   ·replace h := condT hb10 h
    refine X.mv ?_
    refine X.gy ?_
    refine X.mv ?_
    refine X.gy ?_
    obtain ⟨v11, hv11, h⟩ := bindE h
    refine X.indexStr2 hv11 Tryz.underlying9 (by rfl) (by rfl) (by rfl) ?_
    refine X.gy ?_
    refine X.bi ?_
    refine X.gy ?_
    refine X.mv ?_
    refine X.iG (fun hb12 => ?_) (fun hb12 => ?_)
    ·replace h := condT hb12 h
     refine X.mv ?_
     refine X.gy ?_
     refine X.mv ?_
     refine X.gy ?_
     refine X.indexStr2 hv11 Tryz.underlying9 (by rfl) (by rfl) (by rfl) ?_
     refine X.gy ?_
     refine X.bi ?_
     refine X.gy ?_
     refine X.pT ?_
     refine X.gy ?_
     refine X.mv ?_
     refine X.iG (fun hb13 => ?_) (fun hb13 => ?_)
     ·replace h := condF hb13 h
      refine X.mv ?_
      refine X.gy ?_
      refine X.mv ?_
      refine X.gy ?_
      refine X.indexStr2 hv11 Tryz.underlying9 (by rfl) (by rfl) (by rfl) ?_
      refine X.gy ?_
      refine X.bi ?_
      refine X.gy ?_
      refine X.mv ?_
      refine X.iG (fun hb14 => ?_) (fun hb14 => ?_)
      ·replace h := condT hb14 h
       refine X.mv ?_
       refine X.gy ?_
       refine X.mv ?_
       refine X.gy ?_
       refine X.indexStr2 hv11 Tryz.underlying9 (by rfl) (by rfl) (by rfl) ?_
       refine X.gy ?_
       refine X.bi ?_
       refine X.gy ?_
       refine X.pT ?_
       refine X.gy ?_
       refine X.pF ?_
       refine X.pT ?_
       cases h
       exact X.eG
      ·replace h := condF hb14 h
       refine X.gn ?_
       refine X.gn ?_
       refine X.gn ?_
       refine X.gy ?_
       refine X.pF ?_
       refine X.gy ?_
       refine X.pF ?_
       refine X.pT ?_
       cases h
       exact X.eG
     ·replace h := condT hb13 h
      refine X.gn ?_
      refine X.gn ?_
      refine X.gn ?_
      refine X.gn ?_
      refine X.gU (by rfl) (by rfl) (by rfl) ?_
      refine X.gU (by rfl) (by rfl) (by rfl) ?_
      refine X.gU (by rfl) (by rfl) (by rfl) ?_
      refine X.gU (by rfl) (by rfl) (by rfl) ?_
      refine X.gn ?_
      refine X.gy ?_
      refine X.pT ?_
      refine X.pT ?_
      cases h
      exact X.eG
    ·replace h := condF hb12 h
     refine X.gn ?_
     refine X.gn ?_
     refine X.gn ?_
     refine X.gy ?_
     refine X.pF ?_
     refine X.gy ?_
     refine X.mv ?_
     refine X.gy ?_
     refine X.mv ?_
     refine X.gy ?_
     refine X.mv ?_
     refine X.gy ?_
     refine X.indexStr2 hv11 Tryz.underlying9 (by rfl) (by rfl) (by rfl) ?_
     refine X.gy ?_
     refine X.bi ?_
     refine X.gy ?_
     refine X.mv ?_
     refine X.iG (fun hb15 => ?_) (fun hb15 => ?_)
     ·replace h := condT hb15 h
      refine X.mv ?_
      refine X.gy ?_
      refine X.mv ?_
      refine X.gy ?_
      refine X.indexStr2 hv11 Tryz.underlying9 (by rfl) (by rfl) (by rfl) ?_
      refine X.gy ?_
      refine X.bi ?_
      refine X.gy ?_
      refine X.pT ?_
      refine X.gy ?_
      refine X.pF ?_
      refine X.pT ?_
      cases h
      exact X.eG
     ·replace h := condF hb15 h
      refine X.gn ?_
      refine X.gn ?_
      refine X.gn ?_
      refine X.gy ?_
      refine X.pF ?_
      refine X.gy ?_
      refine X.pF ?_
      refine X.pT ?_
      cases h
      exact X.eG
   ·replace h := condF hb10 h
    refine X.gn ?_
    refine X.gn ?_
    refine X.gn ?_
    refine X.gn ?_
    refine X.gU (by rfl) (by rfl) (by rfl) ?_
    refine X.gU (by rfl) (by rfl) (by rfl) ?_
    refine X.gU (by rfl) (by rfl) (by rfl) ?_
    refine X.gU (by rfl) (by rfl) (by rfl) ?_
    refine X.gn ?_
    refine X.gn ?_
    refine X.gU (by rfl) (by rfl) (by rfl) ?_
    refine X.gU (by rfl) (by rfl) (by rfl) ?_
    refine X.gU (by rfl) (by rfl) (by rfl) ?_
    refine X.gU (by rfl) (by rfl) (by rfl) ?_
    refine X.gU (by rfl) (by rfl) (by rfl) ?_
    refine X.gU (by rfl) (by rfl) (by rfl) ?_
    refine X.gU (by rfl) (by rfl) (by rfl) ?_
    refine X.gU (by rfl) (by rfl) (by rfl) ?_
    refine X.gU (by rfl) (by rfl) (by rfl) ?_
    refine X.gU (by rfl) (by rfl) (by rfl) ?_
    refine X.gn ?_
    refine X.pF ?_
    cases h
    exact X.eG
  replace h := h2; clear h2
  refine R.cd (fun hc16 => ?_) (fun hc16 => ?_)
  ·replace h := condT hc16 h
   refine Run.skip ?_
   refine Run.block ?_
   refine Run.reg ?_
   refine X.mv ?_
   refine X.addW (by rfl) (by rfl) (by rfl) ?_
   refine X.an ?_
   refine Run.blk ?_
   exact hag4 n4 (W (a6 + 1)) _ _ (by omega) h (by trivial) (by trivial) (by rfl) (by rfl)
  ·replace h := condF hc16 h
   refine Run.exit (by rfl) ?_
   exact R.mt hmeet3 a6 (Option.some.inj h)
 rintro p17 rfl
 refine Run.seq ?_
 refine Run.sr ?_
 refine X.an ?_
 obtain ⟨o18, ho18, h⟩ := bindE h
 refine R.join2 (β := Unit) [(4, .lptr 256 0)] [(256, .blk true [int 0, int 0, int 0])] (fun p40 S => S) (fun p40 M => M) (fun p40 => (Sum.inl p40) = o18) ?_ ?_
 ·intro JJ21 hmeet20
  have hup19 := h; clear h; have h := ho18; clear ho18
  refine Run.block ?_
  refine R.lp (β := Int) [(1, str b1), (2, .lptr 128 0), (4, .lptr 256 0), (6, int p17)] [(128, .blk true [int b0.Deadline, .slice (b0.Activities.map eTActivity), .slice (b0.Links.map eTLink), .slice (b0.Resources.map eTResource), .slice (b0.Stocks.map int)]), (256, .blk true [int 0, int 0, int 0])] (fun bb S => (7, int bb) :: S) (fun bb M => M) (fun n bb => i_ParseLiteral_L2 b0 b1 p17 n bb = some o18) F0 1 h ?_
  clear h
  rintro JJ21 n21 a23 hag21 h
  obtain _ | n21 := n21
  ·exact absurd h (by simp [i_ParseLiteral_L2])
  rw [i_ParseLiteral_L2] at h
  refine Run.seq ?_
  refine Run.sr ?_
  refine X.mv ?_
  refine X.bi ?_
  refine X.nil ?_
  refine R.cd (fun hc26 => ?_) (fun hc26 => ?_)
  ·replace h := condT hc26 h
   refine Run.skip ?_
   refine Run.seq ?_
   refine Run.block ?_
   refine Run.sr ?_
   refine X.mv ?_
   obtain ⟨v27, hv27, h⟩ := bindE h
   refine X.cp (i_LiteralSign_pc _ _ hv27) ?_
   refine X.an ?_
   refine Run.seq ?_
   refine Run.seq ?_
   obtain ⟨e28, he28, h2⟩ := bindE h
   refine R.regG [(1, str b1), (2, .lptr 128 0), (4, .lptr 256 0), (6, int p17), (7, int a23), (8, str v27), (65, bool e28)] [(128, .blk true [int b0.Deadline, .slice (b0.Activities.map eTActivity), .slice (b0.Links.map eTLink), .slice (b0.Resources.map eTResource), .slice (b0.Stocks.map int)]), (256, .blk true [int 0, int 0, int 0])] ?_ ?_
   ·clear h; have h := he28; clear he28 h2
    refine X.mv ?_
    refine X.lenStr Tryz.underlying9 (by rfl) (by rfl) ?_
    refine X.mv ?_
    refine X.mv ?_
    refine X.lenStr Tryz.underlying9 (by rfl) (by rfl) ?_
    refine X.addW (by rfl) (by rfl) (by rfl) ?_
    refine X.bi ?_
    refine X.mv ?_
    refine X.iG (fun hb29 => ?_) (fun hb29 => ?_)
    ·replace h := condF hb29 h
     refine X.mv ?_
     refine X.gy ?_
     refine X.mv ?_
     refine X.gy ?_
     refine X.mv ?_
     refine X.gy ?_
     refine X.mv ?_
     refine X.gy ?_
     refine X.lenStr Tryz.underlying9 (by rfl) (by rfl) ?_
     refine X.gy ?_
     refine X.addW (by rfl) (by rfl) (by rfl) ?_
     refine X.gy ?_
     obtain ⟨v30, hv30, h⟩ := bindE h
     refine X.sliceStr2 hv30 Tryz.underlying9 (by rfl) ⟨_, by rfl⟩ ⟨_, by rfl⟩ (by rfl) ?_
     refine X.gy ?_
     refine X.mv ?_
     refine X.gy ?_
     refine X.bi ?_
     refine X.pF ?_
     cases h
     exact X.eG
    ·replace h := condT hb29 h
     refine X.gn ?_
     refine X.gn ?_
     refine X.gn ?_
     refine X.gn ?_
     refine X.gn ?_
     refine X.gn ?_
     refine X.gn ?_
     refine X.gn ?_
     refine X.pT ?_
     cases h
     exact X.eG
   replace h := h2; clear h2
   refine R.cd (fun hc31 => ?_) (fun hc31 => ?_)
   ·replace h := condT hc31 h
    refine Run.exit (by rfl) ?_
    refine Run.reg ?_
    refine X.mv ?_
    refine X.addW (by rfl) (by rfl) (by rfl) ?_
    refine X.an ?_
    exact hag21 n21 (W (a23 + 1)) _ _ (by omega) h (by trivial) (by trivial) (by rfl) (by rfl)
   ·replace h := condF hc31 h
    refine Run.skip ?_
    refine Run.sr ?_
    refine X.mv ?_
    refine X.mv ?_
    refine X.mv ?_
    refine X.lenStr Tryz.underlying9 (by rfl) (by rfl) ?_
    refine X.addW (by rfl) (by rfl) (by rfl) ?_
    obtain ⟨v32, hv32, h⟩ := bindE h
    refine X.sliceStr2 hv32 Tryz.underlying9 (by rfl) ⟨_, by rfl⟩ (by rfl) (by rfl) ?_
    obtain ⟨v33, hv33, h⟩ := bindE h
    refine X.callT (i_ParseInt_pc _ _ hv33) (by rfl) (by rfl) (by rfl) (by trivial) (by rfl) (by rfl) (by rfl) (by rfl) (by rfl) (by rfl) ?_
    refine X.mv ?_
    refine X.extract (by rfl) (by rfl) (by rfl) ?_
    refine X.extract (by rfl) (by rfl) (by rfl) ?_
    refine X.as ?_
    refine X.an ?_
    refine Run.seq ?_
    refine Run.draw (footOf [(1, ([128], [], [], [])), (8, ([704], [704], [], [])), (9, ([704], [704], [], []))]) mixed (by kernel_rfl) (by kernel_rfl) ?_
    refine X.mv ?_
    refine X.ld shp40 ?_
    refine X.mv ?_
    refine X.mv ?_
    obtain ⟨v34, hv34, h⟩ := bindE h
    refine X.sliceStr2 hv34 Tryz.underlying9 (by rfl) (by rfl) ⟨_, by rfl⟩ (by rfl) ?_
    obtain ⟨v35, hv35, h⟩ := bindE h
    refine X.cp (i_ActivityIndex_pc _ _ _ hv35) ?_
    refine X.mv ?_
    refine X.build zer91 pl91 (by rfl) (by rfl) (by repeat (first | trivial | refine ⟨by first | rfl | simp [setL], ?_⟩)) (by rfl) (by rfl) (by rfl) ?_
    refine X.alloc zer91 (by rfl) (by rfl) (by rfl) ?_
    refine X.sl shp91 ?_
    refine X.nil ?_
    refine Run.seq ?_
    obtain ⟨e36, he36, h2⟩ := bindE h
    refine R.regG [(1, str b1), (2, .lptr 128 0), (4, .lptr 256 0), (6, int p17), (7, int a23), (11, .lptr 704 0), (91, bool e36)] [(128, .blk true [int b0.Deadline, .slice (b0.Activities.map eTActivity), .slice (b0.Links.map eTLink), .slice (b0.Resources.map eTResource), .slice (b0.Stocks.map int)]), (256, .blk true [int 0, int 0, int 0]), (704, .blk true [int a23, int v35, int v33.1])] ?_ ?_
    ·clear h; have h := he36; clear he36 h2
     refine X.mv ?_
     refine X.mv ?_
     refine X.iG (fun hb37 => ?_) (fun hb37 => ?_)
     ·replace h := condT hb37 h
      refine X.ld shp40 ?_
      refine X.gy ?_
      refine X.ld shp91 ?_
      refine X.gy ?_
      obtain ⟨v38, hv38, h⟩ := bindE h
      refine X.cp (i_FormatLiteral_pc _ _ _ hv38) ?_
      refine X.gy ?_
      refine X.mv ?_
      refine X.gy ?_
      refine X.bi ?_
      refine X.pT ?_
      cases h
      exact X.eG
     ·replace h := condF hb37 h
      refine X.gn ?_
      refine X.gn ?_
      refine X.gn ?_
      refine X.gn ?_
      refine X.pF ?_
      cases h
      exact X.eG
    replace h := h2; clear h2
    refine R.cd (fun hc39 => ?_) (fun hc39 => ?_)
    ·replace h := condT hc39 h
     refine Run.sr ?_
     refine X.ld shp91 ?_
     refine X.sl shp91 ?_
     refine X.an ?_
     cases h
     have h := hup19
     replace h := elimR h
     cases h
     refine R.finC2 Tryz.results57 shp91 (by rfl) (by rfl) (by rfl) (by rfl) (by rfl) (by rfl) (by repeat (first | trivial | refine ⟨by first | rfl | simp [setL], ?_⟩)) ?_
     rfl
    ·replace h := condF hc39 h
     refine Run.skip ?_
     refine Run.blk ?_
     refine Run.reg ?_
     refine X.mv ?_
     refine X.addW (by rfl) (by rfl) (by rfl) ?_
     refine X.an ?_
     exact hag21 n21 (W (a23 + 1)) _ _ (by omega) h (by trivial) (by trivial) (by rfl) (by rfl)
  ·replace h := condF hc26 h
   refine Run.exit (by rfl) ?_
   exact R.mt hmeet20 () (Option.some.inj h)
 rintro p40 rfl
 replace h := elimL h
 refine Run.sr ?_
 refine X.build zer91 pl91 (by rfl) (by rfl) (by repeat (first | trivial | refine ⟨by first | rfl | simp [setL], ?_⟩)) (by rfl) (by rfl) (by rfl) ?_
 refine X.sl shp91 ?_
 refine X.an ?_
 cases h
 refine R.finC2 Tryz.results57 shp91 (by rfl) (by rfl) (by rfl) (by rfl) (by rfl) (by rfl) (by repeat (first | trivial | refine ⟨by first | rfl | simp [setL], ?_⟩)) ?_
 rfl
theorem i_ParseClause_pc (b0 : TProject) (b1 : ByteArray) (r : (List TLiteral) × Bool) (h : i_ParseClause b0 b1 = some r) : PC Tryz.prog 21 [eTProject b0, str b1] (.tuple [.fresh true 91 3 (r.1.map eTLiteral), bool r.2]) := by
 unfold i_ParseClause at h
 refine PC.start Tryz.func21 Tryz.ntmps21 rfl ok21 rfl ?_
 refine Run.sr ?_
 refine X.bx ?_
 refine X.as ?_
 refine X.an ?_
 refine Run.sr ?_
 refine X.buildSlice true elt43 zer91 (by rfl) (by rfl) (by rfl) (by rfl) (by rfl) (by rfl) (by repeat (first | trivial | refine ⟨by first | rfl | simp [setL], ?_⟩)) (allSz_spec (by rfl)) (by rfl) (by rfl) (by rfl) ?_
 refine X.an ?_
 refine Run.seq ?_
 refine Run.sr ?_
 refine X.mv ?_
 refine X.bi ?_
 refine X.nil ?_
 obtain ⟨o1, ho1, h⟩ := bindE h
 refine R.join2 (β := (List TLiteral)) [(1, str b1), (2, .lptr 128 0)] [(128, .blk true [int b0.Deadline, .slice (b0.Activities.map eTActivity), .slice (b0.Links.map eTLink), .slice (b0.Resources.map eTResource), .slice (b0.Stocks.map int)])] (fun p24 S => (6, .own 704 (p24.map eTLiteral).length) :: S) (fun p24 M => (704, .obj true 91 3 (p24.map eTLiteral)) :: M) (fun p24 => (Sum.inl p24) = o1) ?_ ?_
 ·intro JJ4 hmeet3
  have hup2 := h; clear h; have h := ho1; clear ho1
  refine R.cd (fun hc5 => ?_) (fun hc5 => ?_)
  ·replace h := condT hc5 h
   refine Run.sr ?_
   refine X.mv ?_
   obtain ⟨v6, hv6, h⟩ := bindE h
   refine X.callF (i_SplitAny_pc _ _ _ hv6) (by rfl) (by rfl) (by rfl) (by trivial) (by rfl) (by rfl) (by rfl) (by rfl) ?_
   refine X.len_o elt88 (by rfl) (by rfl) (by first | rfl | simp [setL] | omega) (by first | exact List.length_map .. | rfl) (by rfl) (by rfl) ?_
   refine X.mn ?_
   obtain ⟨o7, ho7, h⟩ := bindE h
   refine R.join2 (β := (List TLiteral)) [(1, str b1), (2, .lptr 128 0)] [(128, .blk true [int b0.Deadline, .slice (b0.Activities.map eTActivity), .slice (b0.Links.map eTLink), .slice (b0.Resources.map eTResource), .slice (b0.Stocks.map int)])] (fun p22 S => (6, .own 704 (p22.map eTLiteral).length) :: S) (fun p22 M => (704, .obj true 91 3 (p22.map eTLiteral)) :: M) (fun p22 => (Sum.inl p22) = o7) ?_ ?_
   ·intro JJ10 hmeet9
    have hup8 := h; clear h; have h := ho7; clear ho7
    refine Run.block ?_
    refine R.bndO (n := 960) (by rfl) (fun hbd13 => ?_)
    replace hbd13 : v6.length ≤ 9223372036854775807 := by first | (rw [List.length_map] at hbd13; exact hbd13) | simp
    refine R.lp (β := Int × (List TLiteral)) [(1, str b1), (2, .lptr 128 0), (16, int (v6.length : Int))] [(128, .blk true [int b0.Deadline, .slice (b0.Activities.map eTActivity), .slice (b0.Links.map eTLink), .slice (b0.Resources.map eTResource), .slice (b0.Stocks.map int)]), (960, .obj false 9 1 (v6.map str))] (fun bb S => (6, .own 704 (bb.2.map eTLiteral).length) :: (15, .own 960 (v6.map str).length) :: (17, int bb.1) :: S) (fun bb M => (704, .obj true 91 3 (bb.2.map eTLiteral)) :: M) (fun n bb => 0 ≤ bb.1 ∧ bb.1 + n = (v6.length : Int) ∧ i_ParseClause_L1 b0 (v6.drop bb.1.toNat) bb.1 bb.2 = some o7) v6.length (0, ([] : List TLiteral)) ⟨Int.le_refl _, by simp, h⟩ ?_
    clear h
    rintro JJ13 n13 ⟨z14, a15⟩ hag13 ⟨hza13, hzb13, h⟩
    dsimp only at hza13 hzb13 h
    refine Run.sr ?_
    refine X.bi ?_
    refine X.nil ?_
    refine Run.seq ?_
    refine R.cd (fun hc18 => ?_) (fun hc18 => ?_)
    ·obtain ⟨x16, xs17, hd13, hx13, hds13, hlt13⟩ := drop_atI hza13 hc18
     rw [hd13] at h
     rw [i_ParseClause_L1] at h
     refine Run.skip ?_
     refine Run.seq ?_
     refine Run.block ?_
     refine Run.sr ?_
     refine X.index_o elt88 (by rfl) (by rfl) (by first | rfl | simp [setL] | omega) (by rfl) (idxL_spec hx13).1 (idxL_map str hx13) (by rfl) (by rfl) (by rfl) ?_
     refine X.lc shp9 ?_
     refine X.an ?_
     refine Run.sr ?_
     refine X.ld shp40 ?_
     refine X.mv ?_
     obtain ⟨v19, hv19, h⟩ := bindE h
     refine X.callT2 (i_ParseLiteral_pc _ _ _ hv19) (by rfl) (by rfl) (by rfl) (by trivial) (by rfl) (by rfl) (by rfl) (by rfl) (by rfl) (by rfl) ?_
     refine X.mv ?_
     refine X.extract (by rfl) (by rfl) (by rfl) ?_
     refine X.extract (by rfl) (by rfl) (by rfl) ?_
     refine X.alloc zer91 (by rfl) (by rfl) (by rfl) ?_
     refine X.sl shp91 ?_
     refine X.an ?_
     refine Run.seq ?_
     refine Run.sr ?_
     refine X.mv ?_
     refine X.un (by rfl) (by rfl) (by rfl) ?_
     refine X.nil ?_
     refine R.cd (fun hc20 => ?_) (fun hc20 => ?_)
     ·replace h := condT hc20 h
      refine Run.sr ?_
      refine X.as ?_
      refine X.an ?_
      cases h
      have h := hup8
      replace h := elimR h
      cases h
      have h := hup2
      replace h := elimR h
      cases h
      refine R.nilOwnS (t := 4) 296 true 91 3 (by rfl) (by rfl) (by rfl) ?_
      refine R.fin2 Tryz.results21 (by rfl) (by rfl) (by rfl) (by repeat (first | trivial | refine ⟨by first | rfl | simp [setL], ?_⟩)) ?_
      rfl
     ·replace h := condF hc20 h
      refine Run.skip ?_
      refine Run.reg ?_
      refine X.mv ?_
      refine X.ld shp91 ?_
      refine X.buildSlice true elt43 zer91 (by rfl) (by rfl) (by rfl) (by rfl) (by rfl) (by rfl) (by repeat (first | trivial | refine ⟨by first | rfl | simp [setL], ?_⟩)) (allSz_spec (by rfl)) (by rfl) (by rfl) (by rfl) ?_
      obtain ⟨v21, hv21, h⟩ := bindE h
      refine X.append elt43 zer91 (by rfl) (by rfl) (by first | rfl | simp [setL] | omega) (by rfl) (.own _ _ _ _ _ _ (look_mem (by rfl)) (by first | rfl | simp [setL] | omega)) (allSz_spec (by rfl)) (appL_len eTLiteral hv21) (appL_map eTLiteral hv21) (by rfl) (by rfl) (by rfl) (by rfl) ?_
      refine X.an ?_
      refine Run.blk ?_
      refine Run.reg ?_
      refine X.ad ?_
      refine X.mn ?_
      exact R.ag hag13 (n13 - 1) (z14 + 1, v21) (R.n3 (by first | (rw [hds13]; exact h) | (dsimp only; rw [hds13]; exact h)))
    ·rw [drop_endI hza13 hc18] at h
     rw [i_ParseClause_L1] at h
     refine Run.exit (by rfl) ?_
     exact R.mt hmeet9 a15 (Option.some.inj h)
   rintro p22 rfl
   replace h := elimL h
   exact R.mt hmeet3 p22 (Option.some.inj h)
  ·replace h := condF hc5 h
   refine Run.skip ?_
   exact R.mt hmeet3 ([] : List TLiteral) (Option.some.inj h)
 rintro p24 rfl
 replace h := elimL h
 refine Run.seq ?_
 refine Run.sr ?_
 refine X.ld shp40 ?_
 refine X.mv ?_
 obtain ⟨v26, hv26, h⟩ := bindE h
 refine X.callM [(127, 704)] (PC.lend (M0 := [(127, .obj true 91 3 (p24.map eTLiteral))]) (i_FormatClause_pc _ _ _ hv26) (.lit _) (by rfl) (.agg _ _ _ _ (.same _ _ _ (by rfl) (.same _ _ _ (by rfl) (.same _ _ _ (by rfl) (.same _ _ _ (by rfl) (.same _ _ _ (by rfl) .nil))))) (.own 127 _ _ _ _ _ _ _ (by rfl) (by first | rfl | simp [setL] | omega) .nil))) (by rfl) (by rfl) (.pureB (by rfl) (by repeat (first | trivial | refine ⟨by first | rfl | simp [setL], ?_⟩)) (.ownB 127 (by rfl) (by first | rfl | simp [setL] | omega) (by rfl) .nil)) (by rfl) ⟨rfl, rfl, ⟨_, by rfl, by constructor⟩, by constructor, trivial⟩ (by rfl) (by rfl) (by rfl) (by rfl) (by rfl) (by rfl) (by rfl) (by rfl) (by rfl) ?_
 refine X.mv ?_
 refine X.bi ?_
 refine X.nil ?_
 refine R.cd (fun hc27 => ?_) (fun hc27 => ?_)
 ·replace h := condT hc27 h
  refine Run.sr ?_
  refine X.as ?_
  refine X.an ?_
  cases h
  refine R.nilOwnS (t := 4) 296 true 91 3 (by rfl) (by rfl) (by rfl) ?_
  refine R.fin2 Tryz.results21 (by rfl) (by rfl) (by rfl) (by repeat (first | trivial | refine ⟨by first | rfl | simp [setL], ?_⟩)) ?_
  rfl
 ·replace h := condF hc27 h
  refine Run.skip ?_
  refine Run.sr ?_
  refine X.mv ?_
  refine X.as ?_
  refine X.an ?_
  cases h
  refine R.fin2 Tryz.results21 (by rfl) (by rfl) (by rfl) (by repeat (first | trivial | refine ⟨by first | rfl | simp [setL], ?_⟩)) ?_
  rfl
theorem w_markText_pc (b0 : Int) (r : ByteArray) (h : w_markText b0 = some r) : PC Tryz.prog 103 [int b0] (str r) := by
 unfold w_markText at h
 refine PC.start Tryz.func103 Tryz.ntmps103 rfl ok103 rfl ?_
 refine Run.sr ?_
 refine X.an ?_
 refine Run.seq ?_
 refine Run.sr ?_
 refine X.mv ?_
 refine X.bi ?_
 refine X.nil ?_
 refine R.cd (fun hc1 => ?_) (fun hc1 => ?_)
 ·replace h := condT hc1 h
  refine Run.sr ?_
  refine X.an ?_
  cases h
  refine R.f1 Tryz.results103 ?_
  rfl
 ·replace h := condF hc1 h
  refine Run.skip ?_
  refine Run.sr ?_
  refine X.an ?_
  refine Run.seq ?_
  obtain ⟨o2, ho2, h⟩ := bindE h
  refine R.join2 (β := ByteArray) [] [] (fun p13 S => (3, str p13) :: S) (fun p13 M => M) (fun p13 => p13 = o2) ?_ ?_
  ·intro JJ5 hmeet4
   have hup3 := h; clear h; have h := ho2; clear ho2
   refine Run.block ?_
   refine R.lp (β := Int × ByteArray) [] [] (fun bb S => (0, int bb.1) :: (3, str bb.2) :: S) (fun bb M => M) (fun n bb => w_markText_L1 n bb.1 bb.2 = some o2) F0 (b0, ByteArray.empty) h ?_
   clear h
   rintro JJ5 n5 ⟨a7, a8⟩ hag5 h
   dsimp only at h
   obtain _ | n5 := n5
   ·exact absurd h (by simp [w_markText_L1])
   rw [w_markText_L1] at h
   refine Run.seq ?_
   refine Run.sr ?_
   refine X.mv ?_
   refine X.bi ?_
   refine X.nil ?_
   refine R.cd (fun hc11 => ?_) (fun hc11 => ?_)
   ·replace h := condT hc11 h
    refine Run.skip ?_
    refine Run.block ?_
    refine Run.sr ?_
    refine X.mv ?_
    refine X.bi ?_
    refine X.addW (by rfl) (by rfl) (by rfl) ?_
    refine X.conv Tryz.underlying5 (by rw [Tryz.underlying3]; rfl) (by rfl) (by rfl) ?_
    refine X.buildSlice false elt124 zer5 (by rfl) (by rfl) (by rfl) (by rfl) (by rfl) (by rfl) (by repeat (first | trivial | refine ⟨by first | rfl | simp [setL], ?_⟩)) (allSz_spec (by rfl)) (by rfl) (by rfl) (by rfl) ?_
    refine X.convBS ([(IntKind.u8.wrap (W (48 + (a7.tmod 10))))] : List Int) Tryz.underlying124 Tryz.underlying5 Tryz.underlying9 (by rfl) (.own _ _ _ _ _ _ (look_mem (by rfl)) (by first | rfl | simp [setL] | omega)) (by rfl) (by rfl) (by rfl) ?_
    refine X.mv ?_
    obtain ⟨v12, hv12, h⟩ := bindE h
    refine X.cat2 hv12 (by rfl) (by rfl) (by rfl) ?_
    refine X.an ?_
    refine Run.reg ?_
    refine X.mv ?_
    refine X.bi ?_
    refine X.an ?_
    refine Run.blk ?_
    exact hag5 n5 ((W (a7.tdiv 10)), v12) _ _ (by omega) h (by repeat (first | trivial | refine ⟨by first | rfl | simp [setL], ?_⟩)) (by repeat (first | trivial | refine ⟨by first | rfl | simp [setL], ?_⟩)) (by rfl) (by rfl)
   ·replace h := condF hc11 h
    refine Run.exit (by rfl) ?_
    exact R.mt hmeet4 a8 (Option.some.inj h)
  rintro p13 rfl
  refine Run.sr ?_
  refine X.mv ?_
  obtain ⟨v14, hv14, h⟩ := bindE h
  refine X.cat2 hv14 (by rfl) (by rfl) (by rfl) ?_
  refine X.an ?_
  cases h
  refine R.f1 Tryz.results103 ?_
  rfl
theorem w_markIntS_k_pc (b0 : List Int) (b1 : Int) (r : Int) (h : w_markIntS_k b0 b1 = some r) : PCM Tryz.prog 62 [.ysk 63 (.slice (b0.map int)), int b1] [(63, .yreg true true)] (int r) [(63, .yreg true true)] := by
 unfold w_markIntS_k at h
 refine PCM.start Tryz.func62 Tryz.ntmps62 rfl ok62 rfl (by rfl) (by rfl) (by rfl) (by rfl) (by rfl) ?_
 refine Run.sr ?_
 refine X.an ?_
 refine Run.seq ?_
 refine Run.sr ?_
 refine X.an ?_
 obtain ⟨o1, ho1, h⟩ := bindE h
 refine R.join2 (β := Int) [] [(63, .yreg true true)] (fun p13 S => (1, int p13) :: S) (fun p13 M => M) (fun p13 => p13 = o1) ?_ ?_
 ·intro JJ4 hmeet3
  have hup2 := h; clear h; have h := ho1; clear ho1
  refine Run.block ?_
  refine R.bndY true 63 (t := 0) (by rfl) (fun hbd7 => ?_)
  replace hbd7 : b0.length ≤ 9223372036854775807 := by first | (rw [List.length_map] at hbd7; exact hbd7) | simp
  refine R.lp (β := Int × Int) [(0, .ysk 63 (.slice (b0.map int)))] [(63, .yreg true true)] (fun bb S => (1, int bb.2) :: (5, int bb.1) :: S) (fun bb M => M) (fun n bb => 0 ≤ bb.1 ∧ bb.1 + n = (b0.length : Int) ∧ w_markIntS_k_L1 (b0.drop bb.1.toNat) bb.1 bb.2 = some o1) b0.length (0, b1) ⟨Int.le_refl _, by simp, h⟩ ?_
  clear h
  rintro JJ7 n7 ⟨z8, a9⟩ hag7 ⟨hza7, hzb7, h⟩
  dsimp only at hza7 hzb7 h
  refine Run.seq ?_
  refine Run.sr ?_
  refine X.mv ?_
  refine X.mv ?_
  refine X.lenY true 63 elt25 (by rfl) (by exact List.length_map ..) (by rfl) ?_
  refine X.bi ?_
  refine X.nil ?_
  refine R.cd (fun hc12 => ?_) (fun hc12 => ?_)
  ·obtain ⟨x10, xs11, hd7, hx7, hds7, hlt7⟩ := drop_atI hza7 hc12
   rw [hd7] at h
   rw [w_markIntS_k_L1] at h
   refine Run.skip ?_
   refine Run.seq ?_
   refine Run.block ?_
   refine Run.sr ?_
   refine X.mv ?_
   refine X.mv ?_
   refine X.mv ?_
   refine X.indexY true 63 elt25 (by rfl) (by rfl) (idxL_spec hx7).1 (idxL_map int hx7) (by rfl) (by rfl) ?_
   refine X.storeY 63 shp3 (by rfl) (by rfl) (by rfl) (by rfl) (by rfl) (by rfl) (by rfl) ?_
   refine X.nil ?_
   refine Run.reg ?_
   refine X.mv ?_
   refine X.addW (by rfl) (by rfl) (by rfl) ?_
   refine X.an ?_
   refine Run.blk ?_
   refine Run.reg ?_
   refine X.mv ?_
   refine X.ad ?_
   refine X.an ?_
   exact R.ag hag7 (n7 - 1) (z8 + 1, (W (a9 + 1))) (R.n3 (by first | (rw [hds7]; exact h) | (dsimp only; rw [hds7]; exact h)))
  ·rw [drop_endI hza7 hc12] at h
   rw [w_markIntS_k_L1] at h
   refine Run.exit (by rfl) ?_
   exact R.mt hmeet3 a9 (Option.some.inj h)
 rintro p13 rfl
 refine Run.sr ?_
 refine X.mv ?_
 refine X.an ?_
 cases h
 exact R.finM1 Tryz.results62 (by rfl) (by rfl) (by repeat (first | exact trivial | refine ⟨by rfl, ?_⟩)) rfl
theorem w_markModeS_k_pc (b0 : List TMode) (b1 : Int) (r : Int) (h : w_markModeS_k b0 b1 = some r) : PCM Tryz.prog 104 [.ysk 63 (.slice (b0.map eTMode)), int b1] [(63, .yreg true true)] (int r) [(63, .yreg true true)] := by
 unfold w_markModeS_k at h
 refine PCM.start Tryz.func104 Tryz.ntmps104 rfl ok104 rfl (by rfl) (by rfl) (by rfl) (by rfl) (by rfl) ?_
 refine Run.sr ?_
 refine X.an ?_
 refine Run.seq ?_
 refine Run.sr ?_
 refine X.an ?_
 obtain ⟨o1, ho1, h⟩ := bindE h
 refine R.join2 (β := Int) [] [(63, .yreg true true)] (fun p15 S => (1, int p15) :: S) (fun p15 M => M) (fun p15 => p15 = o1) ?_ ?_
 ·intro JJ4 hmeet3
  have hup2 := h; clear h; have h := ho1; clear ho1
  refine Run.block ?_
  refine R.bndY true 63 (t := 0) (by rfl) (fun hbd7 => ?_)
  replace hbd7 : b0.length ≤ 9223372036854775807 := by first | (rw [List.length_map] at hbd7; exact hbd7) | simp
  refine R.lp (β := Int × Int) [(0, .ysk 63 (.slice (b0.map eTMode)))] [(63, .yreg true true)] (fun bb S => (1, int bb.2) :: (5, int bb.1) :: S) (fun bb M => M) (fun n bb => 0 ≤ bb.1 ∧ bb.1 + n = (b0.length : Int) ∧ w_markModeS_k_L1 (b0.drop bb.1.toNat) bb.1 bb.2 = some o1) b0.length (0, b1) ⟨Int.le_refl _, by simp, h⟩ ?_
  clear h
  rintro JJ7 n7 ⟨z8, a9⟩ hag7 ⟨hza7, hzb7, h⟩
  dsimp only at hza7 hzb7 h
  refine Run.seq ?_
  refine Run.sr ?_
  refine X.mv ?_
  refine X.mv ?_
  refine X.lenY true 63 elt113 (by rfl) (by exact List.length_map ..) (by rfl) ?_
  refine X.bi ?_
  refine X.nil ?_
  refine R.cd (fun hc12 => ?_) (fun hc12 => ?_)
  ·obtain ⟨x10, xs11, hd7, hx7, hds7, hlt7⟩ := drop_atI hza7 hc12
   rw [hd7] at h
   rw [w_markModeS_k_L1] at h
   refine Run.skip ?_
   refine Run.seq ?_
   refine Run.block ?_
   refine Run.sr ?_
   refine X.mv ?_
   refine X.mv ?_
   refine X.mv ?_
   refine X.indexY true 63 elt113 (by rfl) (by rfl) (idxL_spec hx7).1 (idxL_map eTMode hx7) (by rfl) (by rfl) ?_
   refine X.fieldY true 63 fld157_0 (by rfl) (by rfl) ?_
   refine X.storeY 63 shp3 (by rfl) (by rfl) (by rfl) (by rfl) (by rfl) (by rfl) (by rfl) ?_
   refine X.nil ?_
   refine Run.sr ?_
   refine X.mv ?_
   refine X.addW (by rfl) (by rfl) (by rfl) ?_
   refine X.an ?_
   refine Run.sr ?_
   refine X.mv ?_
   refine X.mv ?_
   refine X.indexY true 63 elt113 (by rfl) (by rfl) (idxL_spec hx7).1 (idxL_map eTMode hx7) (by rfl) (by rfl) ?_
   refine X.fieldY true 63 fld157_1 (by rfl) (by rfl) ?_
   refine X.loadY true 63 shp25 (by rfl) (by rfl) (by rfl) (by rfl) ?_
   refine X.mv ?_
   obtain ⟨v13, hv13, h⟩ := bindE h
   refine X.callM [(63, 63)] (w_markIntS_k_pc _ _ _ hv13) (by rfl) (by rfl) (.yskB 63 (by rfl) (by rfl) (.pureB (by rfl) (by repeat (first | trivial | refine ⟨by first | rfl | simp [setL], ?_⟩)) .nil)) (by rfl) ⟨rfl, rfl, ⟨_, by rfl, by constructor⟩, by constructor, trivial⟩ (by rfl) (by rfl) (by rfl) (by rfl) (by rfl) (by rfl) (by rfl) (by rfl) (by rfl) ?_
   refine X.an ?_
   refine Run.reg ?_
   refine X.mv ?_
   refine X.mv ?_
   refine X.indexY true 63 elt113 (by rfl) (by rfl) (idxL_spec hx7).1 (idxL_map eTMode hx7) (by rfl) (by rfl) ?_
   refine X.fieldY true 63 fld157_2 (by rfl) (by rfl) ?_
   refine X.loadY true 63 shp25 (by rfl) (by rfl) (by rfl) (by rfl) ?_
   refine X.mv ?_
   obtain ⟨v14, hv14, h⟩ := bindE h
   refine X.callM [(63, 63)] (w_markIntS_k_pc _ _ _ hv14) (by rfl) (by rfl) (.yskB 63 (by rfl) (by rfl) (.pureB (by rfl) (by repeat (first | trivial | refine ⟨by first | rfl | simp [setL], ?_⟩)) .nil)) (by rfl) ⟨rfl, rfl, ⟨_, by rfl, by constructor⟩, by constructor, trivial⟩ (by rfl) (by rfl) (by rfl) (by rfl) (by rfl) (by rfl) (by rfl) (by rfl) (by rfl) ?_
   refine X.an ?_
   refine Run.blk ?_
   refine Run.reg ?_
   refine X.mv ?_
   refine X.ad ?_
   refine X.an ?_
   exact R.ag hag7 (n7 - 1) (z8 + 1, v14) (R.n3 (by first | (rw [hds7]; exact h) | (dsimp only; rw [hds7]; exact h)))
  ·rw [drop_endI hza7 hc12] at h
   rw [w_markModeS_k_L1] at h
   refine Run.exit (by rfl) ?_
   exact R.mt hmeet3 a9 (Option.some.inj h)
 rintro p15 rfl
 refine Run.sr ?_
 refine X.mv ?_
 refine X.an ?_
 cases h
 exact R.finM1 Tryz.results104 (by rfl) (by rfl) (by repeat (first | exact trivial | refine ⟨by rfl, ?_⟩)) rfl
theorem w_markActivityS_k_pc (b0 : List TActivity) (b1 : Int) (r : Int) (h : w_markActivityS_k b0 b1 = some r) : PCM Tryz.prog 59 [.ysk 63 (.slice (b0.map eTActivity)), int b1] [(63, .yreg true true)] (int r) [(63, .yreg true true)] := by
 unfold w_markActivityS_k at h
 refine PCM.start Tryz.func59 Tryz.ntmps59 rfl ok59 rfl (by rfl) (by rfl) (by rfl) (by rfl) (by rfl) ?_
 refine Run.sr ?_
 refine X.an ?_
 refine Run.seq ?_
 refine Run.sr ?_
 refine X.an ?_
 obtain ⟨o1, ho1, h⟩ := bindE h
 refine R.join2 (β := Int) [] [(63, .yreg true true)] (fun p15 S => (1, int p15) :: S) (fun p15 M => M) (fun p15 => p15 = o1) ?_ ?_
 ·intro JJ4 hmeet3
  have hup2 := h; clear h; have h := ho1; clear ho1
  refine Run.block ?_
  refine R.bndY true 63 (t := 0) (by rfl) (fun hbd7 => ?_)
  replace hbd7 : b0.length ≤ 9223372036854775807 := by first | (rw [List.length_map] at hbd7; exact hbd7) | simp
  refine R.lp (β := Int × Int) [(0, .ysk 63 (.slice (b0.map eTActivity)))] [(63, .yreg true true)] (fun bb S => (1, int bb.2) :: (5, int bb.1) :: S) (fun bb M => M) (fun n bb => 0 ≤ bb.1 ∧ bb.1 + n = (b0.length : Int) ∧ w_markActivityS_k_L1 (b0.drop bb.1.toNat) bb.1 bb.2 = some o1) b0.length (0, b1) ⟨Int.le_refl _, by simp, h⟩ ?_
  clear h
  rintro JJ7 n7 ⟨z8, a9⟩ hag7 ⟨hza7, hzb7, h⟩
  dsimp only at hza7 hzb7 h
  refine Run.seq ?_
  refine Run.sr ?_
  refine X.mv ?_
  refine X.mv ?_
  refine X.lenY true 63 elt36 (by rfl) (by exact List.length_map ..) (by rfl) ?_
  refine X.bi ?_
  refine X.nil ?_
  refine R.cd (fun hc12 => ?_) (fun hc12 => ?_)
  ·obtain ⟨x10, xs11, hd7, hx7, hds7, hlt7⟩ := drop_atI hza7 hc12
   rw [hd7] at h
   rw [w_markActivityS_k_L1] at h
   refine Run.skip ?_
   refine Run.seq ?_
   refine Run.block ?_
   refine Run.sr ?_
   refine X.mv ?_
   refine X.mv ?_
   refine X.mv ?_
   obtain ⟨v13, hv13, h⟩ := bindE h
   refine X.cp (w_markText_pc _ _ hv13) ?_
   refine X.indexY true 63 elt36 (by rfl) (by rfl) (idxL_spec hx7).1 (idxL_map eTActivity hx7) (by rfl) (by rfl) ?_
   refine X.fieldY true 63 fld115_0 (by rfl) (by rfl) ?_
   refine X.storeY 63 shp9 (by rfl) (by rfl) (by rfl) (by rfl) (by rfl) (by rfl) (by rfl) ?_
   refine X.nil ?_
   refine Run.sr ?_
   refine X.mv ?_
   refine X.addW (by rfl) (by rfl) (by rfl) ?_
   refine X.an ?_
   refine Run.sr ?_
   refine X.mv ?_
   refine X.mv ?_
   refine X.mv ?_
   refine X.indexY true 63 elt36 (by rfl) (by rfl) (idxL_spec hx7).1 (idxL_map eTActivity hx7) (by rfl) (by rfl) ?_
   refine X.fieldY true 63 fld115_1 (by rfl) (by rfl) ?_
   refine X.storeY 63 shp3 (by rfl) (by rfl) (by rfl) (by rfl) (by rfl) (by rfl) (by rfl) ?_
   refine X.nil ?_
   refine Run.sr ?_
   refine X.mv ?_
   refine X.addW (by rfl) (by rfl) (by rfl) ?_
   refine X.an ?_
   refine Run.reg ?_
   refine X.mv ?_
   refine X.mv ?_
   refine X.indexY true 63 elt36 (by rfl) (by rfl) (idxL_spec hx7).1 (idxL_map eTActivity hx7) (by rfl) (by rfl) ?_
   refine X.fieldY true 63 fld115_2 (by rfl) (by rfl) ?_
   refine X.loadY true 63 shp113 (by rfl) (by rfl) (by rfl) (by rfl) ?_
   refine X.mv ?_
   obtain ⟨v14, hv14, h⟩ := bindE h
   refine X.callM [(63, 63)] (w_markModeS_k_pc _ _ _ hv14) (by rfl) (by rfl) (.yskB 63 (by rfl) (by rfl) (.pureB (by rfl) (by repeat (first | trivial | refine ⟨by first | rfl | simp [setL], ?_⟩)) .nil)) (by rfl) ⟨rfl, rfl, ⟨_, by rfl, by constructor⟩, by constructor, trivial⟩ (by rfl) (by rfl) (by rfl) (by rfl) (by rfl) (by rfl) (by rfl) (by rfl) (by rfl) ?_
   refine X.an ?_
   refine Run.blk ?_
   refine Run.reg ?_
   refine X.mv ?_
   refine X.ad ?_
   refine X.an ?_
   exact R.ag hag7 (n7 - 1) (z8 + 1, v14) (R.n3 (by first | (rw [hds7]; exact h) | (dsimp only; rw [hds7]; exact h)))
  ·rw [drop_endI hza7 hc12] at h
   rw [w_markActivityS_k_L1] at h
   refine Run.exit (by rfl) ?_
   exact R.mt hmeet3 a9 (Option.some.inj h)
 rintro p15 rfl
 refine Run.sr ?_
 refine X.mv ?_
 refine X.an ?_
 cases h
 exact R.finM1 Tryz.results59 (by rfl) (by rfl) (by repeat (first | exact trivial | refine ⟨by rfl, ?_⟩)) rfl
theorem w_markLinkS_k_pc (b0 : List TLink) (b1 : Int) (r : Int) (h : w_markLinkS_k b0 b1 = some r) : PCM Tryz.prog 60 [.ysk 63 (.slice (b0.map eTLink)), int b1] [(63, .yreg true true)] (int r) [(63, .yreg true true)] := by
 unfold w_markLinkS_k at h
 refine PCM.start Tryz.func60 Tryz.ntmps60 rfl ok60 rfl (by rfl) (by rfl) (by rfl) (by rfl) (by rfl) ?_
 refine Run.sr ?_
 refine X.an ?_
 refine Run.seq ?_
 refine Run.sr ?_
 refine X.an ?_
 obtain ⟨o1, ho1, h⟩ := bindE h
 refine R.join2 (β := Int) [] [(63, .yreg true true)] (fun p13 S => (1, int p13) :: S) (fun p13 M => M) (fun p13 => p13 = o1) ?_ ?_
 ·intro JJ4 hmeet3
  have hup2 := h; clear h; have h := ho1; clear ho1
  refine Run.block ?_
  refine R.bndY true 63 (t := 0) (by rfl) (fun hbd7 => ?_)
  replace hbd7 : b0.length ≤ 9223372036854775807 := by first | (rw [List.length_map] at hbd7; exact hbd7) | simp
  refine R.lp (β := Int × Int) [(0, .ysk 63 (.slice (b0.map eTLink)))] [(63, .yreg true true)] (fun bb S => (1, int bb.2) :: (5, int bb.1) :: S) (fun bb M => M) (fun n bb => 0 ≤ bb.1 ∧ bb.1 + n = (b0.length : Int) ∧ w_markLinkS_k_L1 (b0.drop bb.1.toNat) bb.1 bb.2 = some o1) b0.length (0, b1) ⟨Int.le_refl _, by simp, h⟩ ?_
  clear h
  rintro JJ7 n7 ⟨z8, a9⟩ hag7 ⟨hza7, hzb7, h⟩
  dsimp only at hza7 hzb7 h
  refine Run.seq ?_
  refine Run.sr ?_
  refine X.mv ?_
  refine X.mv ?_
  refine X.lenY true 63 elt37 (by rfl) (by exact List.length_map ..) (by rfl) ?_
  refine X.bi ?_
  refine X.nil ?_
  refine R.cd (fun hc12 => ?_) (fun hc12 => ?_)
  ·obtain ⟨x10, xs11, hd7, hx7, hds7, hlt7⟩ := drop_atI hza7 hc12
   rw [hd7] at h
   rw [w_markLinkS_k_L1] at h
   refine Run.skip ?_
   refine Run.seq ?_
   refine Run.block ?_
   refine Run.sr ?_
   refine X.mv ?_
   refine X.mv ?_
   refine X.mv ?_
   refine X.indexY true 63 elt37 (by rfl) (by rfl) (idxL_spec hx7).1 (idxL_map eTLink hx7) (by rfl) (by rfl) ?_
   refine X.fieldY true 63 fld123_0 (by rfl) (by rfl) ?_
   refine X.storeY 63 shp3 (by rfl) (by rfl) (by rfl) (by rfl) (by rfl) (by rfl) (by rfl) ?_
   refine X.nil ?_
   refine Run.sr ?_
   refine X.mv ?_
   refine X.addW (by rfl) (by rfl) (by rfl) ?_
   refine X.an ?_
   refine Run.sr ?_
   refine X.mv ?_
   refine X.mv ?_
   refine X.mv ?_
   refine X.indexY true 63 elt37 (by rfl) (by rfl) (idxL_spec hx7).1 (idxL_map eTLink hx7) (by rfl) (by rfl) ?_
   refine X.fieldY true 63 fld123_1 (by rfl) (by rfl) ?_
   refine X.storeY 63 shp3 (by rfl) (by rfl) (by rfl) (by rfl) (by rfl) (by rfl) (by rfl) ?_
   refine X.nil ?_
   refine Run.sr ?_
   refine X.mv ?_
   refine X.addW (by rfl) (by rfl) (by rfl) ?_
   refine X.an ?_
   refine Run.sr ?_
   refine X.mv ?_
   refine X.mv ?_
   refine X.mv ?_
   refine X.bi ?_
   refine X.bi ?_
   refine X.indexY true 63 elt37 (by rfl) (by rfl) (idxL_spec hx7).1 (idxL_map eTLink hx7) (by rfl) (by rfl) ?_
   refine X.fieldY true 63 fld123_2 (by rfl) (by rfl) ?_
   refine X.storeY 63 shp4 (by rfl) (by rfl) (by rfl) (by rfl) (by rfl) (by rfl) (by rfl) ?_
   refine X.nil ?_
   refine Run.sr ?_
   refine X.mv ?_
   refine X.addW (by rfl) (by rfl) (by rfl) ?_
   refine X.an ?_
   refine Run.sr ?_
   refine X.mv ?_
   refine X.mv ?_
   refine X.mv ?_
   refine X.indexY true 63 elt37 (by rfl) (by rfl) (idxL_spec hx7).1 (idxL_map eTLink hx7) (by rfl) (by rfl) ?_
   refine X.fieldY true 63 fld123_3 (by rfl) (by rfl) ?_
   refine X.storeY 63 shp3 (by rfl) (by rfl) (by rfl) (by rfl) (by rfl) (by rfl) (by rfl) ?_
   refine X.nil ?_
   refine Run.reg ?_
   refine X.mv ?_
   refine X.addW (by rfl) (by rfl) (by rfl) ?_
   refine X.an ?_
   refine Run.blk ?_
   refine Run.reg ?_
   refine X.mv ?_
   refine X.ad ?_
   refine X.an ?_
   exact R.ag hag7 (n7 - 1) (z8 + 1, (W ((W ((W ((W (a9 + 1)) + 1)) + 1)) + 1))) (R.n3 (by first | (rw [hds7]; exact h) | (dsimp only; rw [hds7]; exact h)))
  ·rw [drop_endI hza7 hc12] at h
   rw [w_markLinkS_k_L1] at h
   refine Run.exit (by rfl) ?_
   exact R.mt hmeet3 a9 (Option.some.inj h)
 rintro p13 rfl
 refine Run.sr ?_
 refine X.mv ?_
 refine X.an ?_
 cases h
 exact R.finM1 Tryz.results60 (by rfl) (by rfl) (by repeat (first | exact trivial | refine ⟨by rfl, ?_⟩)) rfl
theorem w_markStepS_k_pc (b0 : List TStep) (b1 : Int) (r : Int) (h : w_markStepS_k b0 b1 = some r) : PCM Tryz.prog 105 [.ysk 63 (.slice (b0.map eTStep)), int b1] [(63, .yreg true true)] (int r) [(63, .yreg true true)] := by
 unfold w_markStepS_k at h
 refine PCM.start Tryz.func105 Tryz.ntmps105 rfl ok105 rfl (by rfl) (by rfl) (by rfl) (by rfl) (by rfl) ?_
 refine Run.sr ?_
 refine X.an ?_
 refine Run.seq ?_
 refine Run.sr ?_
 refine X.an ?_
 obtain ⟨o1, ho1, h⟩ := bindE h
 refine R.join2 (β := Int) [] [(63, .yreg true true)] (fun p13 S => (1, int p13) :: S) (fun p13 M => M) (fun p13 => p13 = o1) ?_ ?_
 ·intro JJ4 hmeet3
  have hup2 := h; clear h; have h := ho1; clear ho1
  refine Run.block ?_
  refine R.bndY true 63 (t := 0) (by rfl) (fun hbd7 => ?_)
  replace hbd7 : b0.length ≤ 9223372036854775807 := by first | (rw [List.length_map] at hbd7; exact hbd7) | simp
  refine R.lp (β := Int × Int) [(0, .ysk 63 (.slice (b0.map eTStep)))] [(63, .yreg true true)] (fun bb S => (1, int bb.2) :: (5, int bb.1) :: S) (fun bb M => M) (fun n bb => 0 ≤ bb.1 ∧ bb.1 + n = (b0.length : Int) ∧ w_markStepS_k_L1 (b0.drop bb.1.toNat) bb.1 bb.2 = some o1) b0.length (0, b1) ⟨Int.le_refl _, by simp, h⟩ ?_
  clear h
  rintro JJ7 n7 ⟨z8, a9⟩ hag7 ⟨hza7, hzb7, h⟩
  dsimp only at hza7 hzb7 h
  refine Run.seq ?_
  refine Run.sr ?_
  refine X.mv ?_
  refine X.mv ?_
  refine X.lenY true 63 elt118 (by rfl) (by exact List.length_map ..) (by rfl) ?_
  refine X.bi ?_
  refine X.nil ?_
  refine R.cd (fun hc12 => ?_) (fun hc12 => ?_)
  ·obtain ⟨x10, xs11, hd7, hx7, hds7, hlt7⟩ := drop_atI hza7 hc12
   rw [hd7] at h
   rw [w_markStepS_k_L1] at h
   refine Run.skip ?_
   refine Run.seq ?_
   refine Run.block ?_
   refine Run.sr ?_
   refine X.mv ?_
   refine X.mv ?_
   refine X.mv ?_
   refine X.indexY true 63 elt118 (by rfl) (by rfl) (idxL_spec hx7).1 (idxL_map eTStep hx7) (by rfl) (by rfl) ?_
   refine X.fieldY true 63 fld175_0 (by rfl) (by rfl) ?_
   refine X.storeY 63 shp3 (by rfl) (by rfl) (by rfl) (by rfl) (by rfl) (by rfl) (by rfl) ?_
   refine X.nil ?_
   refine Run.sr ?_
   refine X.mv ?_
   refine X.addW (by rfl) (by rfl) (by rfl) ?_
   refine X.an ?_
   refine Run.sr ?_
   refine X.mv ?_
   refine X.mv ?_
   refine X.mv ?_
   refine X.indexY true 63 elt118 (by rfl) (by rfl) (idxL_spec hx7).1 (idxL_map eTStep hx7) (by rfl) (by rfl) ?_
   refine X.fieldY true 63 fld175_1 (by rfl) (by rfl) ?_
   refine X.storeY 63 shp3 (by rfl) (by rfl) (by rfl) (by rfl) (by rfl) (by rfl) (by rfl) ?_
   refine X.nil ?_
   refine Run.reg ?_
   refine X.mv ?_
   refine X.addW (by rfl) (by rfl) (by rfl) ?_
   refine X.an ?_
   refine Run.blk ?_
   refine Run.reg ?_
   refine X.mv ?_
   refine X.ad ?_
   refine X.an ?_
   exact R.ag hag7 (n7 - 1) (z8 + 1, (W ((W (a9 + 1)) + 1))) (R.n3 (by first | (rw [hds7]; exact h) | (dsimp only; rw [hds7]; exact h)))
  ·rw [drop_endI hza7 hc12] at h
   rw [w_markStepS_k_L1] at h
   refine Run.exit (by rfl) ?_
   exact R.mt hmeet3 a9 (Option.some.inj h)
 rintro p13 rfl
 refine Run.sr ?_
 refine X.mv ?_
 refine X.an ?_
 cases h
 exact R.finM1 Tryz.results105 (by rfl) (by rfl) (by repeat (first | exact trivial | refine ⟨by rfl, ?_⟩)) rfl
theorem w_markIntSS_k_pc (b0 : List (List Int)) (b1 : Int) (r : Int) (h : w_markIntSS_k b0 b1 = some r) : PCM Tryz.prog 106 [.ysk 63 (.slice (b0.map l_int)), int b1] [(63, .yreg true true)] (int r) [(63, .yreg true true)] := by
 unfold w_markIntSS_k at h
 refine PCM.start Tryz.func106 Tryz.ntmps106 rfl ok106 rfl (by rfl) (by rfl) (by rfl) (by rfl) (by rfl) ?_
 refine Run.sr ?_
 refine X.an ?_
 refine Run.seq ?_
 refine Run.sr ?_
 refine X.an ?_
 obtain ⟨o1, ho1, h⟩ := bindE h
 refine R.join2 (β := Int) [] [(63, .yreg true true)] (fun p14 S => (1, int p14) :: S) (fun p14 M => M) (fun p14 => p14 = o1) ?_ ?_
 ·intro JJ4 hmeet3
  have hup2 := h; clear h; have h := ho1; clear ho1
  refine Run.block ?_
  refine R.bndY true 63 (t := 0) (by rfl) (fun hbd7 => ?_)
  replace hbd7 : b0.length ≤ 9223372036854775807 := by first | (rw [List.length_map] at hbd7; exact hbd7) | simp
  refine R.lp (β := Int × Int) [(0, .ysk 63 (.slice (b0.map l_int)))] [(63, .yreg true true)] (fun bb S => (1, int bb.2) :: (5, int bb.1) :: S) (fun bb M => M) (fun n bb => 0 ≤ bb.1 ∧ bb.1 + n = (b0.length : Int) ∧ w_markIntSS_k_L1 (b0.drop bb.1.toNat) bb.1 bb.2 = some o1) b0.length (0, b1) ⟨Int.le_refl _, by simp, h⟩ ?_
  clear h
  rintro JJ7 n7 ⟨z8, a9⟩ hag7 ⟨hza7, hzb7, h⟩
  dsimp only at hza7 hzb7 h
  refine Run.seq ?_
  refine Run.sr ?_
  refine X.mv ?_
  refine X.mv ?_
  refine X.lenY true 63 elt109 (by rfl) (by exact List.length_map ..) (by rfl) ?_
  refine X.bi ?_
  refine X.nil ?_
  refine R.cd (fun hc12 => ?_) (fun hc12 => ?_)
  ·obtain ⟨x10, xs11, hd7, hx7, hds7, hlt7⟩ := drop_atI hza7 hc12
   rw [hd7] at h
   rw [w_markIntSS_k_L1] at h
   refine Run.skip ?_
   refine Run.seq ?_
   refine Run.block ?_
   refine Run.reg ?_
   refine X.mv ?_
   refine X.mv ?_
   refine X.indexY true 63 elt109 (by rfl) (by rfl) (idxL_spec hx7).1 (idxL_map l_int hx7) (by rfl) (by rfl) ?_
   refine X.loadY true 63 shp25 (by rfl) (by rfl) (by rfl) (by rfl) ?_
   refine X.mv ?_
   obtain ⟨v13, hv13, h⟩ := bindE h
   refine X.callM [(63, 63)] (w_markIntS_k_pc _ _ _ hv13) (by rfl) (by rfl) (.yskB 63 (by rfl) (by rfl) (.pureB (by rfl) (by repeat (first | trivial | refine ⟨by first | rfl | simp [setL], ?_⟩)) .nil)) (by rfl) ⟨rfl, rfl, ⟨_, by rfl, by constructor⟩, by constructor, trivial⟩ (by rfl) (by rfl) (by rfl) (by rfl) (by rfl) (by rfl) (by rfl) (by rfl) (by rfl) ?_
   refine X.an ?_
   refine Run.blk ?_
   refine Run.reg ?_
   refine X.mv ?_
   refine X.ad ?_
   refine X.an ?_
   exact R.ag hag7 (n7 - 1) (z8 + 1, v13) (R.n3 (by first | (rw [hds7]; exact h) | (dsimp only; rw [hds7]; exact h)))
  ·rw [drop_endI hza7 hc12] at h
   rw [w_markIntSS_k_L1] at h
   refine Run.exit (by rfl) ?_
   exact R.mt hmeet3 a9 (Option.some.inj h)
 rintro p14 rfl
 refine Run.sr ?_
 refine X.mv ?_
 refine X.an ?_
 cases h
 exact R.finM1 Tryz.results106 (by rfl) (by rfl) (by repeat (first | exact trivial | refine ⟨by rfl, ?_⟩)) rfl
theorem w_markResourceS_k_pc (b0 : List TResource) (b1 : Int) (r : Int) (h : w_markResourceS_k b0 b1 = some r) : PCM Tryz.prog 61 [.ysk 63 (.slice (b0.map eTResource)), int b1] [(63, .yreg true true)] (int r) [(63, .yreg true true)] := by
 unfold w_markResourceS_k at h
 refine PCM.start Tryz.func61 Tryz.ntmps61 rfl ok61 rfl (by rfl) (by rfl) (by rfl) (by rfl) (by rfl) ?_
 refine Run.sr ?_
 refine X.an ?_
 refine Run.seq ?_
 refine Run.sr ?_
 refine X.an ?_
 obtain ⟨o1, ho1, h⟩ := bindE h
 refine R.join2 (β := Int) [] [(63, .yreg true true)] (fun p15 S => (1, int p15) :: S) (fun p15 M => M) (fun p15 => p15 = o1) ?_ ?_
 ·intro JJ4 hmeet3
  have hup2 := h; clear h; have h := ho1; clear ho1
  refine Run.block ?_
  refine R.bndY true 63 (t := 0) (by rfl) (fun hbd7 => ?_)
  replace hbd7 : b0.length ≤ 9223372036854775807 := by first | (rw [List.length_map] at hbd7; exact hbd7) | simp
  refine R.lp (β := Int × Int) [(0, .ysk 63 (.slice (b0.map eTResource)))] [(63, .yreg true true)] (fun bb S => (1, int bb.2) :: (5, int bb.1) :: S) (fun bb M => M) (fun n bb => 0 ≤ bb.1 ∧ bb.1 + n = (b0.length : Int) ∧ w_markResourceS_k_L1 (b0.drop bb.1.toNat) bb.1 bb.2 = some o1) b0.length (0, b1) ⟨Int.le_refl _, by simp, h⟩ ?_
  clear h
  rintro JJ7 n7 ⟨z8, a9⟩ hag7 ⟨hza7, hzb7, h⟩
  dsimp only at hza7 hzb7 h
  refine Run.seq ?_
  refine Run.sr ?_
  refine X.mv ?_
  refine X.mv ?_
  refine X.lenY true 63 elt38 (by rfl) (by exact List.length_map ..) (by rfl) ?_
  refine X.bi ?_
  refine X.nil ?_
  refine R.cd (fun hc12 => ?_) (fun hc12 => ?_)
  ·obtain ⟨x10, xs11, hd7, hx7, hds7, hlt7⟩ := drop_atI hza7 hc12
   rw [hd7] at h
   rw [w_markResourceS_k_L1] at h
   refine Run.skip ?_
   refine Run.seq ?_
   refine Run.block ?_
   refine Run.sr ?_
   refine X.mv ?_
   refine X.mv ?_
   refine X.indexY true 63 elt38 (by rfl) (by rfl) (idxL_spec hx7).1 (idxL_map eTResource hx7) (by rfl) (by rfl) ?_
   refine X.fieldY true 63 fld120_0 (by rfl) (by rfl) ?_
   refine X.loadY true 63 shp118 (by rfl) (by rfl) (by rfl) (by rfl) ?_
   refine X.mv ?_
   obtain ⟨v13, hv13, h⟩ := bindE h
   refine X.callM [(63, 63)] (w_markStepS_k_pc _ _ _ hv13) (by rfl) (by rfl) (.yskB 63 (by rfl) (by rfl) (.pureB (by rfl) (by repeat (first | trivial | refine ⟨by first | rfl | simp [setL], ?_⟩)) .nil)) (by rfl) ⟨rfl, rfl, ⟨_, by rfl, by constructor⟩, by constructor, trivial⟩ (by rfl) (by rfl) (by rfl) (by rfl) (by rfl) (by rfl) (by rfl) (by rfl) (by rfl) ?_
   refine X.an ?_
   refine Run.reg ?_
   refine X.mv ?_
   refine X.mv ?_
   refine X.indexY true 63 elt38 (by rfl) (by rfl) (idxL_spec hx7).1 (idxL_map eTResource hx7) (by rfl) (by rfl) ?_
   refine X.fieldY true 63 fld120_1 (by rfl) (by rfl) ?_
   refine X.loadY true 63 shp109 (by rfl) (by rfl) (by rfl) (by rfl) ?_
   refine X.mv ?_
   obtain ⟨v14, hv14, h⟩ := bindE h
   refine X.callM [(63, 63)] (w_markIntSS_k_pc _ _ _ hv14) (by rfl) (by rfl) (.yskB 63 (by rfl) (by rfl) (.pureB (by rfl) (by repeat (first | trivial | refine ⟨by first | rfl | simp [setL], ?_⟩)) .nil)) (by rfl) ⟨rfl, rfl, ⟨_, by rfl, by constructor⟩, by constructor, trivial⟩ (by rfl) (by rfl) (by rfl) (by rfl) (by rfl) (by rfl) (by rfl) (by rfl) (by rfl) ?_
   refine X.an ?_
   refine Run.blk ?_
   refine Run.reg ?_
   refine X.mv ?_
   refine X.ad ?_
   refine X.an ?_
   exact R.ag hag7 (n7 - 1) (z8 + 1, v14) (R.n3 (by first | (rw [hds7]; exact h) | (dsimp only; rw [hds7]; exact h)))
  ·rw [drop_endI hza7 hc12] at h
   rw [w_markResourceS_k_L1] at h
   refine Run.exit (by rfl) ?_
   exact R.mt hmeet3 a9 (Option.some.inj h)
 rintro p15 rfl
 refine Run.sr ?_
 refine X.mv ?_
 refine X.an ?_
 cases h
 exact R.finM1 Tryz.results61 (by rfl) (by rfl) (by repeat (first | exact trivial | refine ⟨by rfl, ?_⟩)) rfl
theorem w_markProject_k_pc (b0 : TProject) (b1 : Int) (r : Int) (h : w_markProject_k b0 b1 = some r) : PCM Tryz.prog 23 [.agg [int b0.Deadline, .ysk 63 (.slice (b0.Activities.map eTActivity)), .ysk 63 (.slice (b0.Links.map eTLink)), .ysk 63 (.slice (b0.Resources.map eTResource)), .ysk 63 (.slice (b0.Stocks.map int))], int b1] [(63, .yreg true true)] (int r) [(63, .yreg true true)] := by
 unfold w_markProject_k at h
 refine PCM.start Tryz.func23 Tryz.ntmps23 rfl ok23 rfl (by rfl) (by rfl) (by rfl) (by rfl) (by rfl) ?_
 refine Run.sr ?_
 refine X.bx ?_
 refine X.an ?_
 refine Run.sr ?_
 refine X.fl fld40_1 ?_
 refine X.ld shp36 ?_
 refine X.mv ?_
 obtain ⟨v1, hv1, h⟩ := bindE h
 refine X.callM [(63, 63)] (w_markActivityS_k_pc _ _ _ hv1) (by rfl) (by rfl) (.yskB 63 (by rfl) (by rfl) (.pureB (by rfl) (by repeat (first | trivial | refine ⟨by first | rfl | simp [setL], ?_⟩)) .nil)) (by rfl) ⟨rfl, rfl, ⟨_, by rfl, by constructor⟩, by constructor, trivial⟩ (by rfl) (by rfl) (by rfl) (by rfl) (by rfl) (by rfl) (by rfl) (by rfl) (by rfl) ?_
 refine X.an ?_
 refine Run.sr ?_
 refine X.fl fld40_2 ?_
 refine X.ld shp37 ?_
 refine X.mv ?_
 obtain ⟨v2, hv2, h⟩ := bindE h
 refine X.callM [(63, 63)] (w_markLinkS_k_pc _ _ _ hv2) (by rfl) (by rfl) (.yskB 63 (by rfl) (by rfl) (.pureB (by rfl) (by repeat (first | trivial | refine ⟨by first | rfl | simp [setL], ?_⟩)) .nil)) (by rfl) ⟨rfl, rfl, ⟨_, by rfl, by constructor⟩, by constructor, trivial⟩ (by rfl) (by rfl) (by rfl) (by rfl) (by rfl) (by rfl) (by rfl) (by rfl) (by rfl) ?_
 refine X.an ?_
 refine Run.sr ?_
 refine X.fl fld40_3 ?_
 refine X.ld shp38 ?_
 refine X.mv ?_
 obtain ⟨v3, hv3, h⟩ := bindE h
 refine X.callM [(63, 63)] (w_markResourceS_k_pc _ _ _ hv3) (by rfl) (by rfl) (.yskB 63 (by rfl) (by rfl) (.pureB (by rfl) (by repeat (first | trivial | refine ⟨by first | rfl | simp [setL], ?_⟩)) .nil)) (by rfl) ⟨rfl, rfl, ⟨_, by rfl, by constructor⟩, by constructor, trivial⟩ (by rfl) (by rfl) (by rfl) (by rfl) (by rfl) (by rfl) (by rfl) (by rfl) (by rfl) ?_
 refine X.an ?_
 refine Run.sr ?_
 refine X.fl fld40_4 ?_
 refine X.ld shp25 ?_
 refine X.mv ?_
 obtain ⟨v4, hv4, h⟩ := bindE h
 refine X.callM [(63, 63)] (w_markIntS_k_pc _ _ _ hv4) (by rfl) (by rfl) (.yskB 63 (by rfl) (by rfl) (.pureB (by rfl) (by repeat (first | trivial | refine ⟨by first | rfl | simp [setL], ?_⟩)) .nil)) (by rfl) ⟨rfl, rfl, ⟨_, by rfl, by constructor⟩, by constructor, trivial⟩ (by rfl) (by rfl) (by rfl) (by rfl) (by rfl) (by rfl) (by rfl) (by rfl) (by rfl) ?_
 refine X.an ?_
 refine Run.sr ?_
 refine X.mv ?_
 refine X.an ?_
 cases h
 exact R.finM1 Tryz.results23 (by rfl) (by rfl) (by repeat (first | exact trivial | refine ⟨by rfl, ?_⟩)) rfl
theorem w_markLiteralS_pc (b0 : List TLiteral) (b1 : Int) (r : Int × (List TLiteral)) (h : w_markLiteralS b0 b1 = some r) : PCM Tryz.prog 24 [.own 63 (b0.map eTLiteral).length, int b1] [(63, .obj true 91 3 (b0.map eTLiteral))] (int r.1) [(63, .obj true 91 3 (r.2.map eTLiteral))] := by
 unfold w_markLiteralS at h
 refine PCM.start Tryz.func24 Tryz.ntmps24 rfl ok24 rfl (by rfl) (by rfl) (by rfl) (by rfl) (by rfl) ?_
 refine Run.sr ?_
 refine X.an ?_
 refine Run.seq ?_
 refine Run.sr ?_
 refine X.an ?_
 obtain ⟨o1, ho1, h⟩ := bindE h
 refine R.join2 (β := Int × (List TLiteral)) [] [] (fun p16 S => (1, int p16.1) :: S) (fun p16 M => (63, .obj true 91 3 (p16.2.map eTLiteral)) :: M) (fun p16 => p16 = o1) ?_ ?_
 ·intro JJ4 hmeet3
  have hup2 := h; clear h; have h := ho1; clear ho1
  refine Run.block ?_
  refine R.lp (β := Int × Int × (List TLiteral)) [] [] (fun bb S => (0, .own 63 (bb.2.2.map eTLiteral).length) :: (1, int bb.1) :: (5, int bb.2.1) :: S) (fun bb M => (63, .obj true 91 3 (bb.2.2.map eTLiteral)) :: M) (fun n bb => w_markLiteralS_L1 n bb.1 bb.2.1 bb.2.2 = some o1) F0 (b1, 0, b0) h ?_
  clear h
  rintro JJ5 n5 ⟨a7, a8, a9⟩ hag5 h
  dsimp only at h
  obtain _ | n5 := n5
  ·exact absurd h (by simp [w_markLiteralS_L1])
  rw [w_markLiteralS_L1] at h
  refine Run.seq ?_
  refine Run.sr ?_
  refine X.mv ?_
  refine X.mv ?_
  refine X.len_o elt43 (by rfl) (by rfl) (by first | rfl | simp [setL] | omega) (by first | exact List.length_map .. | rfl) (by rfl) (by rfl) ?_
  refine X.bi ?_
  refine X.nil ?_
  refine R.cd (fun hc12 => ?_) (fun hc12 => ?_)
  ·replace h := condT hc12 h
   refine Run.skip ?_
   refine Run.seq ?_
   refine Run.block ?_
   refine Run.sr ?_
   refine X.mv ?_
   refine X.mv ?_
   refine X.mv ?_
   obtain ⟨v13, hv13, h⟩ := bindE h
   refine X.index_xs elt43 (by rfl) (by rfl) (by first | rfl | simp [setL] | omega) (by rfl) (by exact (Int.toNat_of_nonneg (idxL_spec hv13).1).symm) (by have := idxL_lt hv13; first | exact this | (rw [List.length_map]; exact this)) (by rfl) (by rfl) ?_
   refine X.fieldAddr_es fld91_0 (by rfl) (by rfl) (by first | rfl | simp [setL] | omega) (by rfl) (by rfl) ?_
   refine X.store_es shp3 (by rfl) (by rfl) (by first | rfl | simp [setL] | omega) (idxL_map _ hv13) (by rfl) (by rfl) (by repeat (first | trivial | refine ⟨by first | rfl | simp [setL], ?_⟩)) (by rfl) (by rfl) (by rfl) (by rfl) (by exact setL_map _ _ _ (TLiteral.mk a7 v13.Activity v13.Value)) ?_
   refine X.nil ?_
   refine Run.sr ?_
   refine X.mv ?_
   refine X.addW (by rfl) (by rfl) (by rfl) ?_
   refine X.an ?_
   refine Run.sr ?_
   refine X.mv ?_
   refine X.mv ?_
   refine X.mv ?_
   obtain ⟨v14, hv14, h⟩ := bindE h
   refine X.index_xs elt43 (by rfl) (by rfl) (by first | rfl | simp [setL] | omega) (by rfl) (by exact (Int.toNat_of_nonneg (idxL_spec hv14).1).symm) (by have := idxL_lt hv14; first | exact this | (rw [List.length_map]; exact this)) (by rfl) (by rfl) ?_
   refine X.fieldAddr_es fld91_1 (by rfl) (by rfl) (by first | rfl | simp [setL] | omega) (by rfl) (by rfl) ?_
   refine X.store_es shp3 (by rfl) (by rfl) (by first | rfl | simp [setL] | omega) (idxL_map _ hv14) (by rfl) (by rfl) (by repeat (first | trivial | refine ⟨by first | rfl | simp [setL], ?_⟩)) (by rfl) (by rfl) (by rfl) (by rfl) (by exact setL_map _ _ _ (TLiteral.mk v14.Kind (W (a7 + 1)) v14.Value)) ?_
   refine X.nil ?_
   refine Run.sr ?_
   refine X.mv ?_
   refine X.addW (by rfl) (by rfl) (by rfl) ?_
   refine X.an ?_
   refine Run.sr ?_
   refine X.mv ?_
   refine X.mv ?_
   refine X.mv ?_
   obtain ⟨v15, hv15, h⟩ := bindE h
   refine X.index_xs elt43 (by rfl) (by rfl) (by first | rfl | simp [setL] | omega) (by rfl) (by exact (Int.toNat_of_nonneg (idxL_spec hv15).1).symm) (by have := idxL_lt hv15; first | exact this | (rw [List.length_map]; exact this)) (by rfl) (by rfl) ?_
   refine X.fieldAddr_es fld91_2 (by rfl) (by rfl) (by first | rfl | simp [setL] | omega) (by rfl) (by rfl) ?_
   refine X.store_es shp3 (by rfl) (by rfl) (by first | rfl | simp [setL] | omega) (idxL_map _ hv15) (by rfl) (by rfl) (by repeat (first | trivial | refine ⟨by first | rfl | simp [setL], ?_⟩)) (by rfl) (by rfl) (by rfl) (by rfl) (by exact setL_map _ _ _ (TLiteral.mk v15.Kind v15.Activity (W ((W (a7 + 1)) + 1)))) ?_
   refine X.nil ?_
   refine Run.reg ?_
   refine X.mv ?_
   refine X.addW (by rfl) (by rfl) (by rfl) ?_
   refine X.an ?_
   refine Run.blk ?_
   refine Run.reg ?_
   refine X.mv ?_
   refine X.addW (by rfl) (by rfl) (by rfl) ?_
   refine X.an ?_
   refine R.castS (t := 0) (.own 63 ((setL (setL (setL a9 a8 (TLiteral.mk a7 v13.Activity v13.Value)) a8 (TLiteral.mk v14.Kind (W (a7 + 1)) v14.Value)) a8 (TLiteral.mk v15.Kind v15.Activity (W ((W (a7 + 1)) + 1)))).map eTLiteral).length) (by rfl) (.inl (by first | rfl | simp [setL])) ?_
   exact hag5 n5 ((W ((W ((W (a7 + 1)) + 1)) + 1)), (W (a8 + 1)), (setL (setL (setL a9 a8 (TLiteral.mk a7 v13.Activity v13.Value)) a8 (TLiteral.mk v14.Kind (W (a7 + 1)) v14.Value)) a8 (TLiteral.mk v15.Kind v15.Activity (W ((W (a7 + 1)) + 1))))) _ _ (by omega) h (by repeat (first | trivial | refine ⟨by first | rfl | simp [setL], ?_⟩)) (by repeat (first | trivial | refine ⟨by first | rfl | simp [setL], ?_⟩)) (by rfl) (by rfl)
  ·replace h := condF hc12 h
   refine Run.exit (by rfl) ?_
   exact R.mt hmeet3 (a7, a9) (Option.some.inj h)
 rintro p16 rfl
 refine Run.sr ?_
 refine X.mv ?_
 refine X.an ?_
 cases h
 exact R.finM1 Tryz.results24 (by rfl) (by rfl) (by repeat (first | exact trivial | refine ⟨by rfl, ?_⟩)) rfl
theorem w_heldLiteralS_pc (b0 : List TLiteral) (b1 : Int) (r : Int) (h : w_heldLiteralS b0 b1 = some r) : PC Tryz.prog 25 [.slice (b0.map eTLiteral), int b1] (int r) := by
 unfold w_heldLiteralS at h
 refine PC.start Tryz.func25 Tryz.ntmps25 rfl ok25 rfl ?_
 refine Run.sr ?_
 refine X.an ?_
 refine Run.seq ?_
 refine Run.sr ?_
 refine X.an ?_
 obtain ⟨o1, ho1, h⟩ := bindE h
 refine R.join2 (β := Int) [] [] (fun p16 S => (1, int p16) :: S) (fun p16 M => M) (fun p16 => (Sum.inl p16) = o1) ?_ ?_
 ·intro JJ4 hmeet3
  have hup2 := h; clear h; have h := ho1; clear ho1
  refine Run.block ?_
  refine R.bndS (t := 0) (by rfl) (fun hbd7 => ?_)
  replace hbd7 : b0.length ≤ 9223372036854775807 := by first | (rw [List.length_map] at hbd7; exact hbd7) | simp
  refine R.lp (β := Int × Int) [(0, .slice (b0.map eTLiteral))] [] (fun bb S => (1, int bb.2) :: (5, int bb.1) :: S) (fun bb M => M) (fun n bb => 0 ≤ bb.1 ∧ bb.1 + n = (b0.length : Int) ∧ w_heldLiteralS_L1 (b0.drop bb.1.toNat) bb.1 bb.2 = some o1) b0.length (0, b1) ⟨Int.le_refl _, by simp, h⟩ ?_
  clear h
  rintro JJ7 n7 ⟨z8, a9⟩ hag7 ⟨hza7, hzb7, h⟩
  dsimp only at hza7 hzb7 h
  refine Run.seq ?_
  refine Run.sr ?_
  refine X.mv ?_
  refine X.mv ?_
  refine X.ls elt43 ?_
  refine X.bi ?_
  refine X.nil ?_
  refine R.cd (fun hc12 => ?_) (fun hc12 => ?_)
  ·obtain ⟨x10, xs11, hd7, hx7, hds7, hlt7⟩ := drop_atI hza7 hc12
   rw [hd7] at h
   rw [w_heldLiteralS_L1] at h
   refine Run.skip ?_
   refine Run.seq ?_
   refine Run.block ?_
   refine Run.seq ?_
   refine Run.sr ?_
   refine X.mv ?_
   refine X.mv ?_
   refine X.ix elt43 (idxL_spec hx7).1 (idxL_map eTLiteral hx7) ?_
   refine X.fieldAddr_c fld91_0 (by rfl) (by rfl) ?_
   refine X.lc shp3 ?_
   refine X.mv ?_
   refine X.bi ?_
   refine X.nil ?_
   refine R.cd (fun hc13 => ?_) (fun hc13 => ?_)
   ·replace h := condT hc13 h
    refine Run.sr ?_
    refine X.an ?_
    cases h
    have h := hup2
    replace h := elimR h
    cases h
    refine R.f1 Tryz.results25 ?_
    rfl
   ·replace h := condF hc13 h
    refine Run.skip ?_
    refine Run.sr ?_
    refine X.mv ?_
    refine X.addW (by rfl) (by rfl) (by rfl) ?_
    refine X.an ?_
    refine Run.seq ?_
    refine Run.sr ?_
    refine X.mv ?_
    refine X.mv ?_
    refine X.ix elt43 (idxL_spec hx7).1 (idxL_map eTLiteral hx7) ?_
    refine X.fieldAddr_c fld91_1 (by rfl) (by rfl) ?_
    refine X.lc shp3 ?_
    refine X.mv ?_
    refine X.bi ?_
    refine X.nil ?_
    refine R.cd (fun hc14 => ?_) (fun hc14 => ?_)
    ·replace h := condT hc14 h
     refine Run.sr ?_
     refine X.an ?_
     cases h
     have h := hup2
     replace h := elimR h
     cases h
     refine R.f1 Tryz.results25 ?_
     rfl
    ·replace h := condF hc14 h
     refine Run.skip ?_
     refine Run.sr ?_
     refine X.mv ?_
     refine X.addW (by rfl) (by rfl) (by rfl) ?_
     refine X.an ?_
     refine Run.seq ?_
     refine Run.sr ?_
     refine X.mv ?_
     refine X.mv ?_
     refine X.ix elt43 (idxL_spec hx7).1 (idxL_map eTLiteral hx7) ?_
     refine X.fieldAddr_c fld91_2 (by rfl) (by rfl) ?_
     refine X.lc shp3 ?_
     refine X.mv ?_
     refine X.bi ?_
     refine X.nil ?_
     refine R.cd (fun hc15 => ?_) (fun hc15 => ?_)
     ·replace h := condT hc15 h
      refine Run.sr ?_
      refine X.an ?_
      cases h
      have h := hup2
      replace h := elimR h
      cases h
      refine R.f1 Tryz.results25 ?_
      rfl
     ·replace h := condF hc15 h
      refine Run.skip ?_
      refine Run.reg ?_
      refine X.mv ?_
      refine X.addW (by rfl) (by rfl) (by rfl) ?_
      refine X.an ?_
      refine Run.blk ?_
      refine Run.reg ?_
      refine X.mv ?_
      refine X.ad ?_
      refine X.an ?_
      exact R.ag hag7 (n7 - 1) (z8 + 1, (W ((W ((W (a9 + 1)) + 1)) + 1))) (R.n3 (by first | (rw [hds7]; exact h) | (dsimp only; rw [hds7]; exact h)))
  ·rw [drop_endI hza7 hc12] at h
   rw [w_heldLiteralS_L1] at h
   refine Run.exit (by rfl) ?_
   exact R.mt hmeet3 a9 (Option.some.inj h)
 rintro p16 rfl
 replace h := elimL h
 refine Run.sr ?_
 refine X.mv ?_
 refine X.an ?_
 cases h
 refine R.f1 Tryz.results25 ?_
 rfl
theorem w_FnExactParseClause_pc (b0 : TProject) (b1 : ByteArray) (r : Bool) (h : w_FnExactParseClause b0 b1 = some r) : PC Tryz.prog 5 [eTProject b0, str b1] (bool r) := by
 unfold w_FnExactParseClause at h
 refine PC.start Tryz.func5 Tryz.ntmps5 rfl ok5 rfl ?_
 refine Run.sr ?_
 refine X.bx ?_
 refine X.an ?_
 refine Run.seq ?_
 refine Run.sr ?_
 refine X.mv ?_
 refine X.lenStr Tryz.underlying9 (by rfl) (by rfl) ?_
 refine X.bi ?_
 refine X.nil ?_
 refine R.cd (fun hc1 => ?_) (fun hc1 => ?_)
 ·replace h := condT hc1 h
  refine Run.sr ?_
  refine X.an ?_
  cases h
  refine R.f1 Tryz.results5 ?_
  rfl
 ·replace h := condF hc1 h
  refine Run.skip ?_
  refine Run.sr ?_
  refine X.an ?_
  refine Run.sr ?_
  refine X.ld shp27 ?_
  refine X.mv ?_
  obtain ⟨v2, hv2, h⟩ := bindE h
  refine X.cp (w_szProject_pc _ _ _ hv2) ?_
  refine X.an ?_
  refine Run.seq ?_
  refine Run.sr ?_
  refine X.mv ?_
  refine X.bi ?_
  refine X.nil ?_
  refine R.cd (fun hc3 => ?_) (fun hc3 => ?_)
  ·replace h := condT hc3 h
   refine Run.sr ?_
   refine X.an ?_
   cases h
   refine R.f1 Tryz.results5 ?_
   rfl
  ·replace h := condF hc3 h
   refine Run.skip ?_
   refine Run.sr ?_
   refine X.ld shp27 ?_
   obtain ⟨v4, hv4, h⟩ := bindE h
   refine X.callA (PC.ofY (ps := [eTProject b0]) (w_toProject_pc _ _ hv4) (by rfl) (by rfl)) (by rfl) (by rfl) (by rfl) (by trivial) (by rfl) (by rfl) (by rfl) (by rfl) (by rfl) (by rfl) ?_
   refine X.mv ?_
   obtain ⟨v5, hv5, h⟩ := bindE h
   refine X.callT (s_ParseClause_pc _ _ _ hv5) (by rfl) (by rfl) (by rfl) (by repeat (first | trivial | refine ⟨by first | rfl | simp [setL], ?_⟩)) (by rfl) (by rfl) (by rfl) (by rfl) (by rfl) (by rfl) ?_
   refine X.mv ?_
   refine X.extract (by rfl) (by rfl) (by rfl) ?_
   refine X.extract (by rfl) (by rfl) (by rfl) ?_
   refine X.as ?_
   refine X.an ?_
   refine Run.sr ?_
   refine X.ld shp27 ?_
   obtain ⟨v6, hv6, h⟩ := bindE h
   refine X.callY (w_toProject_pc _ _ hv6) (by rfl) (by rfl) (by rfl) (by trivial) (by rfl) (by rfl) (by rfl) (by rfl) (by rfl) (by rfl) (by rfl) ?_
   refine X.alloc zer40 (by rfl) (by rfl) (by rfl) ?_
   refine X.sl shp40 ?_
   refine X.nil ?_
   refine Run.sr ?_
   refine X.ld shp40 ?_
   refine X.mv ?_
   obtain ⟨v7, hv7, h⟩ := bindE h
   refine X.callM [(6527, 2048)] (PC.lend (M0 := [(6527, .yreg false false)]) (i_ParseClause_pc _ _ _ hv7) (FlatR.tupleL ⟨(FlatR.freshM (fun _ => (by repeat (first | exact trivial | refine ⟨trivial, ?_⟩)))), (.lit _), trivial⟩) (by rfl) (.agg _ _ _ _ (.same _ _ _ (by rfl) (.yng 6527 _ _ _ _ (by rfl) (.yng 6527 _ _ _ _ (by rfl) (.yng 6527 _ _ _ _ (by rfl) (.yng 6527 _ _ _ _ (by rfl) .nil))))) (.same _ _ _ (by rfl) .nil))) (by rfl) (by rfl) (.agg _ _ _ _ _ _ (.pureB (by rfl) (by repeat (first | trivial | refine ⟨by first | rfl | simp [setL], ?_⟩)) (.yngB 6527 (by rfl) (by rfl) (.yngB 6527 (by rfl) (by rfl) (.yngB 6527 (by rfl) (by rfl) (.yngB 6527 (by rfl) (by rfl) .nil))))) (.pureB (by rfl) (by repeat (first | trivial | refine ⟨by first | rfl | simp [setL], ?_⟩)) .nil)) (by rfl) ⟨rfl, rfl, ⟨_, by rfl, by constructor⟩, by constructor, trivial⟩ (by rfl) (by rfl) (by rfl) (by rfl) (by rfl) (by rfl) (by rfl) (by rfl) (by rfl) ?_
   refine X.mv ?_
   refine X.extract (by rfl) (by rfl) (by rfl) ?_
   refine X.extract (by rfl) (by rfl) (by rfl) ?_
   refine X.as ?_
   refine X.an ?_
   refine Run.seq ?_
   refine Run.seq ?_
   obtain ⟨v8, hv8, h⟩ := bindE h
   obtain ⟨e9, he9, h2⟩ := bindE h
   refine R.regG [(1, str b1), (2, .lptr 128 0), (6, .own 1792 (v5.1.map eTLiteral).length), (7, bool v5.2), (8, .lptr 512 0), (9, .own 2304 (v7.1.map eTLiteral).length), (10, bool v7.2), (47, bool e9)] [(128, .blk true [int b0.Deadline, .slice (b0.Activities.map eTActivity), .slice (b0.Links.map eTLink), .slice (b0.Resources.map eTResource), .slice (b0.Stocks.map int)]), (1792, .obj false 91 3 (v5.1.map eTLiteral)), (512, .blk true [int v6.Deadline, .yng 2048 (.slice (v6.Activities.map eTActivity)), .yng 2048 (.slice (v6.Links.map eTLink)), .yng 2048 (.slice (v6.Resources.map eTResource)), .yng 2048 (.slice (v6.Stocks.map int))]), (2048, .yreg false true), (2304, .obj true 91 3 (v7.1.map eTLiteral))] ?_ ?_
   ·clear h; have h := he9; clear he9 h2
    refine X.mv ?_
    refine X.mv ?_
    refine X.callM [(63, 2304)] (PC.lend (M0 := [(63, .obj true 91 3 (v7.1.map eTLiteral))]) (w_eqLiteralS_pc _ _ _ hv8) (.lit _) (by rfl) (.own 63 _ _ _ _ _ _ _ (by rfl) (by first | rfl | simp [setL] | omega) (.same _ _ _ (by rfl) .nil))) (by rfl) (by rfl) (.ownB 63 (by rfl) (by first | rfl | simp [setL] | omega) (by rfl) (.pureB (by rfl) (by repeat (first | trivial | refine ⟨by first | rfl | simp [setL], ?_⟩)) .nil)) (by rfl) ⟨rfl, rfl, ⟨_, by rfl, by constructor⟩, by constructor, trivial⟩ (by rfl) (by rfl) (by rfl) (by rfl) (by rfl) (by rfl) (by rfl) (by rfl) (by rfl) ?_
    refine X.un (by rfl) (by rfl) (by rfl) ?_
    refine X.mv ?_
    refine X.iG (fun hb10 => ?_) (fun hb10 => ?_)
    ·replace h := condF hb10 h
     refine X.mv ?_
     refine X.gy ?_
     refine X.mv ?_
     refine X.gy ?_
     refine X.neqBool Tryz.underlying4 (by rfl) (by rfl) (by rfl) ?_
     refine X.pF ?_
     cases h
     exact X.eG
    ·replace h := condT hb10 h
     refine X.gn ?_
     refine X.gn ?_
     refine X.pT ?_
     cases h
     exact X.eG
   replace h := h2; clear h2
   refine R.cd (fun hc11 => ?_) (fun hc11 => ?_)
   ·replace h := condT hc11 h
    refine Run.sr ?_
    refine X.an ?_
    cases h
    refine R.f1 Tryz.results5 ?_
    rfl
   ·replace h := condF hc11 h
    refine Run.skip ?_
    refine Run.seq ?_
    refine Run.seq ?_
    refine Run.draw (footOf [(0, ([512], [], [], [])), (1, ([128], [], [], [])), (2, ([], [3200, 3201, 3202, 3203], [], [])), (3, ([2048, 3200, 3201, 3202, 3203], [2048], [], []))]) mixed (by kernel_rfl) (by kernel_rfl) ?_
    refine X.ld shp40 ?_
    refine X.ld shp27 ?_
    obtain ⟨v12, hv12, h⟩ := bindE h
    refine X.callA (PC.ofY (ps := [eTProject b0]) (w_toProject_pc _ _ hv12) (by rfl) (by rfl)) (by rfl) (by rfl) (by rfl) (by trivial) (by rfl) (by rfl) (by rfl) (by rfl) (by rfl) (by rfl) ?_
    obtain ⟨v13, hv13, h⟩ := bindE h
    refine X.callM [(6527, 2048)] (PC.lend (M0 := [(6527, .yreg false false)]) (w_eqProject_pc _ _ _ hv13) (.lit _) (by rfl) (.agg _ _ _ _ (.same _ _ _ (by rfl) (.yng 6527 _ _ _ _ (by rfl) (.yng 6527 _ _ _ _ (by rfl) (.yng 6527 _ _ _ _ (by rfl) (.yng 6527 _ _ _ _ (by rfl) .nil))))) (.agg _ _ _ _ (.same _ _ _ (by rfl) (.same _ _ _ (by rfl) (.same _ _ _ (by rfl) (.same _ _ _ (by rfl) (.same _ _ _ (by rfl) .nil))))) .nil))) (by rfl) (by rfl) (.agg _ _ _ _ _ _ (.pureB (by rfl) (by repeat (first | trivial | refine ⟨by first | rfl | simp [setL], ?_⟩)) (.yngB 6527 (by rfl) (by rfl) (.yngB 6527 (by rfl) (by rfl) (.yngB 6527 (by rfl) (by rfl) (.yngB 6527 (by rfl) (by rfl) .nil))))) (.pureB (by rfl) (by repeat (first | trivial | refine ⟨by first | rfl | simp [setL], ?_⟩)) .nil)) (by rfl) ⟨rfl, rfl, ⟨_, by rfl, by constructor⟩, by constructor, trivial⟩ (by rfl) (by rfl) (by rfl) (by rfl) (by rfl) (by rfl) (by rfl) (by rfl) (by rfl) ?_
    refine X.un (by rfl) (by rfl) (by rfl) ?_
    refine X.nil ?_
    refine R.cd (fun hc14 => ?_) (fun hc14 => ?_)
    ·replace h := condT hc14 h
     refine Run.sr ?_
     refine X.an ?_
     cases h
     refine R.f1 Tryz.results5 ?_
     rfl
    ·replace h := condF hc14 h
     refine Run.skip ?_
     refine Run.sr ?_
     refine X.an ?_
     refine Run.seq ?_
     refine R.demote 2048 (by rfl) (by rfl) (by rfl) (by rfl) (by rfl) (by rfl) ?_
     refine Run.reg ?_
     refine X.ld shp40 ?_
     refine X.mv ?_
     obtain ⟨v15, hv15, h⟩ := bindE h
     refine X.callM [(63, 2048)] (w_markProject_k_pc _ _ _ hv15) (by rfl) (by rfl) (.agg _ _ _ _ _ _ (.pureB (by rfl) (by repeat (first | trivial | refine ⟨by first | rfl | simp [setL], ?_⟩)) (.yskB 63 (by rfl) (by rfl) (.yskB 63 (by rfl) (by rfl) (.yskB 63 (by rfl) (by rfl) (.yskB 63 (by rfl) (by rfl) .nil))))) (.pureB (by rfl) (by repeat (first | trivial | refine ⟨by first | rfl | simp [setL], ?_⟩)) .nil)) (by rfl) ⟨rfl, rfl, ⟨_, by rfl, by constructor⟩, by constructor, trivial⟩ (by rfl) (by rfl) (by rfl) (by rfl) (by rfl) (by rfl) (by rfl) (by rfl) (by rfl) ?_
     refine X.an ?_
     refine Run.seq ?_
     refine Run.seq ?_
     obtain ⟨e16, he16, h2⟩ := bindE h
     refine R.regG [(1, str b1), (2, .lptr 128 0), (6, .own 1792 (v5.1.map eTLiteral).length), (7, bool v5.2), (9, .own 2304 (v7.1.map eTLiteral).length), (68, bool e16)] [(128, .blk true [int b0.Deadline, .slice (b0.Activities.map eTActivity), .slice (b0.Links.map eTLink), .slice (b0.Resources.map eTResource), .slice (b0.Stocks.map int)]), (1792, .obj false 91 3 (v5.1.map eTLiteral)), (2304, .obj true 91 3 (v7.1.map eTLiteral))] ?_ ?_
     ·clear h; have h := he16; clear he16 h2
      refine X.mv ?_
      refine X.bi ?_
      refine X.mv ?_
      refine X.iG (fun hb17 => ?_) (fun hb17 => ?_)
      ·replace h := condF hb17 h
       refine X.mv ?_
       refine X.gy ?_
       refine X.mv ?_
       refine X.gy ?_
       obtain ⟨v18, hv18, h⟩ := bindE h
       refine X.callM [(63, 2304)] (PC.lend (M0 := [(63, .obj true 91 3 (v7.1.map eTLiteral))]) (w_eqLiteralS_pc _ _ _ hv18) (.lit _) (by rfl) (.own 63 _ _ _ _ _ _ _ (by rfl) (by first | rfl | simp [setL] | omega) (.same _ _ _ (by rfl) .nil))) (by rfl) (by rfl) (.ownB 63 (by rfl) (by first | rfl | simp [setL] | omega) (by rfl) (.pureB (by rfl) (by repeat (first | trivial | refine ⟨by first | rfl | simp [setL], ?_⟩)) .nil)) (by rfl) ⟨rfl, rfl, ⟨_, by rfl, by constructor⟩, by constructor, trivial⟩ (by rfl) (by rfl) (by rfl) (by rfl) (by rfl) (by rfl) (by rfl) (by rfl) (by rfl) ?_
       refine X.gy ?_
       refine X.un (by rfl) (by rfl) (by rfl) ?_
       refine X.pF ?_
       refine X.mv ?_
       refine X.iG (fun hb19 => ?_) (fun hb19 => ?_)
       ·replace h := condF hb19 h
        refine X.mv ?_
        refine X.gy ?_
        refine X.mv ?_
        refine X.gy ?_
        refine X.neqBool Tryz.underlying4 (by rfl) (by rfl) (by rfl) ?_
        refine X.pF ?_
        cases h
        exact X.eG
       ·replace h := condT hb19 h
        refine X.gn ?_
        refine X.gn ?_
        refine X.pT ?_
        cases h
        exact X.eG
      ·replace h := condT hb17 h
       refine X.gn ?_
       refine X.gn ?_
       refine X.gn ?_
       refine X.pT ?_
       refine X.mv ?_
       refine X.gn ?_
       refine X.gn ?_
       refine X.gn ?_
       refine X.pT ?_
       cases h
       exact X.eG
     replace h := h2; clear h2
     refine R.cd (fun hc20 => ?_) (fun hc20 => ?_)
     ·replace h := condT hc20 h
      refine Run.sr ?_
      refine X.an ?_
      cases h
      refine R.f1 Tryz.results5 ?_
      rfl
     ·replace h := condF hc20 h
      refine Run.skip ?_
      refine Run.sr ?_
      refine X.an ?_
      refine Run.sr ?_
      refine X.mv ?_
      refine X.mv ?_
      obtain ⟨v21, hv21, h⟩ := bindE h
      refine X.callR [(63, 2304)] [(2304, (v7.1.map eTLiteral).length)] [(2304, (v21.2.map eTLiteral).length)] (w_markLiteralS_pc _ _ _ hv21) (by rfl) (by rfl) (.ownB 63 (by rfl) (by first | rfl | simp [setL] | omega) (by rfl) (.pureB (by rfl) (by repeat (first | trivial | refine ⟨by first | rfl | simp [setL], ?_⟩)) .nil)) (by rfl) ⟨rfl, rfl, ⟨_, by rfl, by constructor⟩, by constructor, trivial⟩ (by rfl) (by rfl) (by rfl) (by rfl) ⟨rfl, ⟨_, _, _, _, by rfl, by rfl⟩, ⟨_, _, _, _, by rfl, by rfl⟩, trivial⟩ (by rfl) (by repeat (first | trivial | refine ⟨by first | rfl | simp [setL], ?_⟩)) (by rfl) (by rfl) (by rfl) (by rfl) (by rfl) ?_
      refine X.an ?_
      refine Run.sr ?_
      refine X.an ?_
      refine Run.sr ?_
      refine X.mv ?_
      refine X.mv ?_
      obtain ⟨v22, hv22, h⟩ := bindE h
      refine X.callM [(63, 2304)] (PC.lend (M0 := [(63, .obj true 91 3 (v21.2.map eTLiteral))]) (w_heldLiteralS_pc _ _ _ hv22) (.lit _) (by rfl) (.own 63 _ _ _ _ _ _ _ (by rfl) (by first | rfl | simp [setL] | omega) (.same _ _ _ (by rfl) .nil))) (by rfl) (by rfl) (.ownB 63 (by rfl) (by first | rfl | simp [setL] | omega) (by rfl) (.pureB (by rfl) (by repeat (first | trivial | refine ⟨by first | rfl | simp [setL], ?_⟩)) .nil)) (by rfl) ⟨rfl, rfl, ⟨_, by rfl, by constructor⟩, by constructor, trivial⟩ (by rfl) (by rfl) (by rfl) (by rfl) (by rfl) (by rfl) (by rfl) (by rfl) (by rfl) ?_
      refine X.an ?_
      refine Run.seq ?_
      refine Run.sr ?_
      refine X.mv ?_
      refine X.bi ?_
      refine X.nil ?_
      refine R.cd (fun hc23 => ?_) (fun hc23 => ?_)
      ·replace h := condT hc23 h
       refine Run.sr ?_
       refine X.an ?_
       cases h
       refine R.f1 Tryz.results5 ?_
       rfl
      ·replace h := condF hc23 h
       refine Run.skip ?_
       refine Run.seq ?_
       refine Run.sr ?_
       refine X.mv ?_
       refine X.mv ?_
       refine X.bi ?_
       refine X.nil ?_
       refine R.cd (fun hc24 => ?_) (fun hc24 => ?_)
       ·replace h := condT hc24 h
        refine Run.sr ?_
        refine X.an ?_
        cases h
        refine R.f1 Tryz.results5 ?_
        rfl
       ·replace h := condF hc24 h
        refine Run.skip ?_
        refine Run.sr ?_
        refine X.ld shp27 ?_
        obtain ⟨v25, hv25, h⟩ := bindE h
        refine X.callA (PC.ofY (ps := [eTProject b0]) (w_toProject_pc _ _ hv25) (by rfl) (by rfl)) (by rfl) (by rfl) (by rfl) (by trivial) (by rfl) (by rfl) (by rfl) (by rfl) (by rfl) (by rfl) ?_
        refine X.mv ?_
        obtain ⟨v26, hv26, h⟩ := bindE h
        refine X.callT (i_ParseClause_pc _ _ _ hv26) (by rfl) (by rfl) (by rfl) (by repeat (first | trivial | refine ⟨by first | rfl | simp [setL], ?_⟩)) (by rfl) (by rfl) (by rfl) (by rfl) (by rfl) (by rfl) ?_
        refine X.mv ?_
        refine X.extract (by rfl) (by rfl) (by rfl) ?_
        refine X.extract (by rfl) (by rfl) (by rfl) ?_
        refine X.as ?_
        refine X.an ?_
        refine R.pubObj (n := 5376) (by rfl) ?_
        refine Run.seq ?_
        refine Run.seq ?_
        obtain ⟨v27, hv27, h⟩ := bindE h
        obtain ⟨e28, he28, h2⟩ := bindE h
        refine R.regG [(9, .own 2304 (v21.2.map eTLiteral).length), (12, int v21.1), (95, bool e28)] [(2304, .obj true 91 3 (v21.2.map eTLiteral))] ?_ ?_
        ·clear h; have h := he28; clear he28 h2
         refine X.mv ?_
         refine X.mv ?_
         refine X.cp (w_eqLiteralS_pc _ _ _ hv27) ?_
         refine X.un (by rfl) (by rfl) (by rfl) ?_
         refine X.mv ?_
         refine X.iG (fun hb29 => ?_) (fun hb29 => ?_)
         ·replace h := condF hb29 h
          refine X.mv ?_
          refine X.gy ?_
          refine X.mv ?_
          refine X.gy ?_
          refine X.neqBool Tryz.underlying4 (by rfl) (by rfl) (by rfl) ?_
          refine X.pF ?_
          cases h
          exact X.eG
         ·replace h := condT hb29 h
          refine X.gn ?_
          refine X.gn ?_
          refine X.pT ?_
          cases h
          exact X.eG
        replace h := h2; clear h2
        refine R.cd (fun hc30 => ?_) (fun hc30 => ?_)
        ·replace h := condT hc30 h
         refine Run.sr ?_
         refine X.an ?_
         cases h
         refine R.f1 Tryz.results5 ?_
         rfl
        ·replace h := condF hc30 h
         refine Run.skip ?_
         refine Run.sr ?_
         refine X.an ?_
         refine Run.sr ?_
         refine X.mv ?_
         refine X.mv ?_
         obtain ⟨v31, hv31, h⟩ := bindE h
         refine X.callM [(63, 2304)] (PC.lend (M0 := [(63, .obj true 91 3 (v21.2.map eTLiteral))]) (w_heldLiteralS_pc _ _ _ hv31) (.lit _) (by rfl) (.own 63 _ _ _ _ _ _ _ (by rfl) (by first | rfl | simp [setL] | omega) (.same _ _ _ (by rfl) .nil))) (by rfl) (by rfl) (.ownB 63 (by rfl) (by first | rfl | simp [setL] | omega) (by rfl) (.pureB (by rfl) (by repeat (first | trivial | refine ⟨by first | rfl | simp [setL], ?_⟩)) .nil)) (by rfl) ⟨rfl, rfl, ⟨_, by rfl, by constructor⟩, by constructor, trivial⟩ (by rfl) (by rfl) (by rfl) (by rfl) (by rfl) (by rfl) (by rfl) (by rfl) (by rfl) ?_
         refine X.an ?_
         refine Run.seq ?_
         refine Run.sr ?_
         refine X.mv ?_
         refine X.bi ?_
         refine X.nil ?_
         refine R.cd (fun hc32 => ?_) (fun hc32 => ?_)
         ·replace h := condT hc32 h
          refine Run.sr ?_
          refine X.an ?_
          cases h
          refine R.f1 Tryz.results5 ?_
          rfl
         ·replace h := condF hc32 h
          refine Run.skip ?_
          refine Run.seq ?_
          refine Run.sr ?_
          refine X.mv ?_
          refine X.mv ?_
          refine X.bi ?_
          refine X.nil ?_
          refine R.cd (fun hc33 => ?_) (fun hc33 => ?_)
          ·replace h := condT hc33 h
           refine Run.sr ?_
           refine X.an ?_
           cases h
           refine R.f1 Tryz.results5 ?_
           rfl
          ·replace h := condF hc33 h
           refine Run.skip ?_
           refine Run.sr ?_
           refine X.an ?_
           cases h
           refine R.f1 Tryz.results5 ?_
           rfl
end Go.Px.YtpohmgbmmindiaaGreatDoor
