/-
  PROVED: contracts of functions of the program over pure values. No condition beyond those that each theorem names.
-/
import Derived.Test.YtbppcgnbkeegbaaGreatDoorProg
import Derived.Test.YtbppcgnbkeegbaaGreatDoorD1
import Derived.Test.YtbppcgnbkeegbaaGreatDoorS
import Derived.Test.YtbppcgnbkeegbaaGreatDoorC1
namespace Go.Px.YtbppcgnbkeegbaaGreatDoor
set_option linter.unusedSimpArgs false
set_option linter.unusedVariables false
open Go.Px Go.Proofs
theorem i_ClauseOk_pc (b0 : TProject) (b1 : List TLiteral) (r : Bool) (h : i_ClauseOk b0 b1 = some r) : PC Tryz.prog 69 [eTProject b0, .slice (b1.map eTLiteral)] (bool r) := by
 unfold i_ClauseOk at h
 refine PC.start Tryz.func69 Tryz.ntmps69 rfl ok69 rfl ?_
 refine Run.sr ?_
 refine X.bx ?_
 refine X.an ?_
 refine Run.seq ?_
 refine Run.sr ?_
 refine X.mv ?_
 refine X.ls elt43 ?_
 refine X.mn ?_
 obtain ⟨o1, ho1, h⟩ := bindE h
 refine R.join2 (β := Unit) [(1, .slice (b1.map eTLiteral))] [] (fun p19 S => S) (fun p19 M => M) (fun p19 => (Sum.inl p19) = o1) ?_ ?_
 ·intro JJ4 hmeet3
  have hup2 := h; clear h; have h := ho1; clear ho1
  refine Run.block ?_
  refine R.bndS (t := 1) (by rfl) (fun hbd7 => ?_)
  replace hbd7 : b1.length ≤ 9223372036854775807 := by first | (rw [List.length_map] at hbd7; exact hbd7) | simp
  refine R.lp (β := Int) [(1, .slice (b1.map eTLiteral)), (2, .lptr 128 0), (7, .slice (b1.map eTLiteral)), (8, int (b1.length : Int))] [(128, .blk true [int b0.Deadline, .slice (b0.Activities.map eTActivity), .slice (b0.Links.map eTLink), .slice (b0.Resources.map eTResource), .slice (b0.Stocks.map int)])] (fun bb S => (9, int bb) :: S) (fun bb M => M) (fun n bb => 0 ≤ bb ∧ bb + n = (b1.length : Int) ∧ i_ClauseOk_L1 b0 b1 (b1.drop bb.toNat) bb = some o1) b1.length (0 : Int) ⟨Int.le_refl _, by simp, h⟩ ?_
  clear h
  rintro JJ7 n7 z8 hag7 ⟨hza7, hzb7, h⟩
  refine Run.sr ?_
  refine X.bi ?_
  refine X.nil ?_
  refine Run.seq ?_
  refine R.cd (fun hc11 => ?_) (fun hc11 => ?_)
  ·obtain ⟨x9, xs10, hd7, hx7, hds7, hlt7⟩ := drop_atI hza7 hc11
   rw [hd7] at h
   rw [i_ClauseOk_L1] at h
   refine Run.skip ?_
   refine Run.seq ?_
   refine Run.block ?_
   refine Run.sr ?_
   refine X.mv ?_
   refine X.ix elt43 (idxL_spec hx7).1 (idxL_map eTLiteral hx7) ?_
   refine X.lc shp106 ?_
   refine X.alloc zer106 (by rfl) (by rfl) (by rfl) ?_
   refine X.as ?_
   refine X.sl shp106 ?_
   refine X.nil ?_
   refine Run.seq ?_
   obtain ⟨v12, hv12, h⟩ := bindE h
   obtain ⟨e13, he13, h2⟩ := bindE h
   refine R.drawG [(1, .slice (b1.map eTLiteral)), (2, .lptr 128 0), (7, .slice (b1.map eTLiteral)), (8, int (b1.length : Int)), (9, int z8), (31, bool e13)] [(128, .blk true [int b0.Deadline, .slice (b0.Activities.map eTActivity), .slice (b0.Links.map eTLink), .slice (b0.Resources.map eTResource), .slice (b0.Stocks.map int)])] (footOf [(0, ([128], [], [], [])), (1, ([384], [], [], [])), (13, ([384], [], [], []))]) mixed (by kernel_rfl) (by kernel_rfl) ?_ ?_
   ·clear h; have h := he13; clear he13 h2
    refine X.ld shp40 ?_
    refine X.ld shp106 ?_
    refine X.cp (i_LiteralOk_pc _ _ _ hv12) ?_
    refine X.un (by rfl) (by rfl) (by rfl) ?_
    refine X.mv ?_
    refine X.iG (fun hb14 => ?_) (fun hb14 => ?_)
    ·replace h := condF hb14 h
     refine X.mv ?_
     refine X.gy ?_
     refine X.bi ?_
     refine X.gy ?_
     refine X.mv ?_
     refine X.iG (fun hb15 => ?_) (fun hb15 => ?_)
     ·replace h := condT hb15 h
      refine X.mv ?_
      refine X.gy ?_
      refine X.mv ?_
      refine X.gy ?_
      refine X.sub (by rfl) (by rfl) (by omega) (by rfl) ?_
      refine X.gy ?_
      obtain ⟨v16, hv16, h⟩ := bindE h
      refine X.ix elt43 (idxL_spec hv16).1 (idxL_map eTLiteral hv16) ?_
      refine X.gy ?_
      refine X.lc shp106 ?_
      refine X.gy ?_
      refine X.ld shp106 ?_
      refine X.gy ?_
      obtain ⟨v17, hv17, h⟩ := bindE h
      refine X.cp (i_CompareLiterals_pc _ _ _ hv17) ?_
      refine X.gy ?_
      refine X.bi ?_
      refine X.gy ?_
      refine X.pT ?_
      refine X.pF ?_
      cases h
      exact X.eG
     ·replace h := condF hb15 h
      refine X.gn ?_
      refine X.gn ?_
      refine X.gn ?_
      refine X.gn ?_
      refine X.gn ?_
      refine X.gn ?_
      refine X.gn ?_
      refine X.gy ?_
      refine X.pF ?_
      refine X.pF ?_
      cases h
      exact X.eG
    ·replace h := condT hb14 h
     refine X.gn ?_
     refine X.gn ?_
     refine X.gU (by rfl) (by rfl) (by rfl) ?_
     refine X.gU (by rfl) (by rfl) (by rfl) ?_
     refine X.gU (by rfl) (by rfl) (by rfl) ?_
     refine X.gU (by rfl) (by rfl) (by rfl) ?_
     refine X.gU (by rfl) (by rfl) (by rfl) ?_
     refine X.gU (by rfl) (by rfl) (by rfl) ?_
     refine X.gU (by rfl) (by rfl) (by rfl) ?_
     refine X.gU (by rfl) (by rfl) (by rfl) ?_
     refine X.gn ?_
     refine X.pT ?_
     cases h
     exact X.eG
   replace h := h2; clear h2
   refine R.cd (fun hc18 => ?_) (fun hc18 => ?_)
   ·replace h := condT hc18 h
    refine Run.sr ?_
    refine X.an ?_
    cases h
    have h := hup2
    replace h := elimR h
    cases h
    refine R.f1 Tryz.results69 ?_
    rfl
   ·replace h := condF hc18 h
    refine Run.skip ?_
    refine Run.blk ?_
    refine Run.reg ?_
    refine X.ad ?_
    refine X.mn ?_
    exact R.ag hag7 (n7 - 1) (z8 + 1) (R.n3 (by first | (rw [hds7]; exact h) | (dsimp only; rw [hds7]; exact h)))
  ·rw [drop_endI hza7 hc11] at h
   rw [i_ClauseOk_L1] at h
   refine Run.exit (by rfl) ?_
   exact R.mt hmeet3 () (Option.some.inj h)
 rintro p19 rfl
 replace h := elimL h
 refine Run.sr ?_
 refine X.mv ?_
 refine X.ls elt43 ?_
 refine X.bi ?_
 refine X.an ?_
 cases h
 refine R.f1 Tryz.results69 ?_
 rfl
theorem i_LineOk_pc (b0 : TProject) (b1 : TLine) (r : Bool) (h : i_LineOk b0 b1 = some r) : PC Tryz.prog 36 [eTProject b0, eTLine b1] (bool r) := by
 unfold i_LineOk at h
 refine PC.start Tryz.func36 Tryz.ntmps36 rfl ok36 rfl ?_
 refine Run.sr ?_
 refine X.bx ?_
 refine X.bx ?_
 refine X.an ?_
 refine Run.seq ?_
 obtain ⟨v1, hv1, h⟩ := bindE h
 obtain ⟨e2, he2, h2⟩ := bindE h
 refine R.regG [(4, bool e2)] [] ?_ ?_
 ·clear h; have h := he2; clear he2 h2
  refine X.ld shp40 ?_
  refine X.fl fld45_2 ?_
  refine X.ld shp43 ?_
  refine X.cp (i_ClauseOk_pc _ _ _ hv1) ?_
  refine X.mv ?_
  refine X.iG (fun hb3 => ?_) (fun hb3 => ?_)
  ·replace h := condT hb3 h
   refine X.fl fld45_0 ?_
   refine X.gy ?_
   refine X.ld shp3 ?_
   refine X.gy ?_
   refine X.bi ?_
   refine X.gy ?_
   refine X.mv ?_
   refine X.iG (fun hb4 => ?_) (fun hb4 => ?_)
   ·replace h := condF hb4 h
    refine X.fl fld45_0 ?_
    refine X.gy ?_
    refine X.ld shp3 ?_
    refine X.gy ?_
    refine X.bi ?_
    refine X.gy ?_
    refine X.mv ?_
    refine X.iG (fun hb5 => ?_) (fun hb5 => ?_)
    ·replace h := condT hb5 h
     refine X.fl fld45_1 ?_
     refine X.gy ?_
     refine X.ld shp42 ?_
     refine X.gy ?_
     refine X.build zer42 pl42 (by rfl) (by rfl) (by repeat (first | trivial | refine ⟨by first | rfl | simp [setL], ?_⟩)) (by rfl) (by rfl) (by rfl) ?_
     refine X.gy ?_
     refine X.eqlAgg flat42 (by rfl) (by rfl) (by rfl) (by rfl) ?_
     refine X.gy ?_
     refine X.pT ?_
     refine X.gy ?_
     refine X.pF ?_
     refine X.pT ?_
     refine X.as ?_
     cases h
     exact X.eG
    ·replace h := condF hb5 h
     refine X.gn ?_
     refine X.gn ?_
     refine X.gn ?_
     refine X.gy ?_
     refine X.pF ?_
     refine X.gy ?_
     refine X.pF ?_
     refine X.pT ?_
     refine X.as ?_
     cases h
     exact X.eG
   ·replace h := condT hb4 h
    refine X.gn ?_
    refine X.gn ?_
    refine X.gn ?_
    refine X.gU (by rfl) (by rfl) (by rfl) ?_
    refine X.gU (by rfl) (by rfl) (by rfl) ?_
    refine X.gU (by rfl) (by rfl) (by rfl) ?_
    refine X.gU (by rfl) (by rfl) (by rfl) ?_
    refine X.gn ?_
    refine X.gy ?_
    refine X.pT ?_
    refine X.pT ?_
    refine X.as ?_
    cases h
    exact X.eG
  ·replace h := condF hb3 h
   refine X.gn ?_
   refine X.gn ?_
   refine X.gn ?_
   refine X.gU (by rfl) (by rfl) (by rfl) ?_
   refine X.gU (by rfl) (by rfl) (by rfl) ?_
   refine X.gU (by rfl) (by rfl) (by rfl) ?_
   refine X.gU (by rfl) (by rfl) (by rfl) ?_
   refine X.gU (by rfl) (by rfl) (by rfl) ?_
   refine X.gU (by rfl) (by rfl) (by rfl) ?_
   refine X.gU (by rfl) (by rfl) (by rfl) ?_
   refine X.gU (by rfl) (by rfl) (by rfl) ?_
   refine X.gU (by rfl) (by rfl) (by rfl) ?_
   refine X.gn ?_
   refine X.pF ?_
   refine X.as ?_
   cases h
   exact X.eG
 replace h := h2; clear h2
 cases h
 refine R.f1 Tryz.results36 ?_
 rfl
theorem i_LiteralSign_pc (b0 : Int) (r : ByteArray) (h : i_LiteralSign b0 = some r) : PC Tryz.prog 105 [int b0] (str r) := by
 unfold i_LiteralSign at h
 refine PC.start Tryz.func105 Tryz.ntmps105 rfl ok105 rfl ?_
 refine Run.sr ?_
 refine X.an ?_
 refine Run.seq ?_
 refine Run.sr ?_
 refine X.mn ?_
 refine Run.block ?_
 refine Run.sr ?_
 refine X.bi ?_
 refine X.an ?_
 refine R.cd (fun hc1 => ?_) (fun hc1 => ?_)
 ·replace h := condT hc1 h
  refine Run.sr ?_
  refine X.an ?_
  cases h
  refine R.f1 Tryz.results105 ?_
  rfl
 ·replace h := condF hc1 h
  refine Run.sr ?_
  refine X.bi ?_
  refine X.an ?_
  refine R.cd (fun hc2 => ?_) (fun hc2 => ?_)
  ·replace h := condT hc2 h
   refine Run.sr ?_
   refine X.an ?_
   cases h
   refine R.f1 Tryz.results105 ?_
   rfl
  ·replace h := condF hc2 h
   refine Run.sr ?_
   refine X.bi ?_
   refine X.an ?_
   refine R.cd (fun hc3 => ?_) (fun hc3 => ?_)
   ·replace h := condT hc3 h
    refine Run.sr ?_
    refine X.an ?_
    cases h
    refine R.f1 Tryz.results105 ?_
    rfl
   ·replace h := condF hc3 h
    refine Run.sr ?_
    refine X.bi ?_
    refine X.an ?_
    refine R.cd (fun hc4 => ?_) (fun hc4 => ?_)
    ·replace h := condT hc4 h
     refine Run.sr ?_
     refine X.an ?_
     cases h
     refine R.f1 Tryz.results105 ?_
     rfl
    ·replace h := condF hc4 h
     refine Run.skip ?_
     refine Run.blk ?_
     refine Run.sr ?_
     refine X.an ?_
     cases h
     refine R.f1 Tryz.results105 ?_
     rfl
theorem strconv_Itoa_pc (b0 : Int) (r : ByteArray) (h : strconv_Itoa b0 = some r) : PC Tryz.prog 112 [int b0] (str r) := PC.itoa ok112 (by rfl) (fun n w h1 h2 h3 => Tryz.strconv_Itoa n h1 h2 w h3) b0 r h
theorem i_FormatInt_pc (b0 : Int) (r : ByteArray) (h : i_FormatInt b0 = some r) : PC Tryz.prog 79 [int b0] (str r) := by
 unfold i_FormatInt at h
 refine PC.start Tryz.func79 Tryz.ntmps79 rfl ok79 rfl ?_
 refine Run.sr ?_
 refine X.an ?_
 refine Run.seq ?_
 refine Run.sr ?_
 refine X.mv ?_
 obtain ⟨v1, hv1, h⟩ := bindE h
 refine X.cp (i_within_pc _ _ _ _ hv1) ?_
 refine X.un (by rfl) (by rfl) (by rfl) ?_
 refine X.nil ?_
 refine R.cd (fun hc2 => ?_) (fun hc2 => ?_)
 ·replace h := condT hc2 h
  refine Run.sr ?_
  refine X.an ?_
  cases h
  refine R.f1 Tryz.results79 ?_
  rfl
 ·replace h := condF hc2 h
  refine Run.skip ?_
  refine Run.sr ?_
  refine X.mv ?_
  obtain ⟨v3, hv3, h⟩ := bindE h
  refine X.cp (strconv_Itoa_pc _ _ hv3) ?_
  refine X.an ?_
  cases h
  refine R.f1 Tryz.results79 ?_
  rfl
theorem i_FormatLiteral_pc (b0 : TProject) (b1 : TLiteral) (r : ByteArray) (h : i_FormatLiteral b0 b1 = some r) : PC Tryz.prog 70 [eTProject b0, eTLiteral b1] (str r) := by
 unfold i_FormatLiteral at h
 refine PC.start Tryz.func70 Tryz.ntmps70 rfl ok70 rfl ?_
 refine Run.sr ?_
 refine X.bx ?_
 refine X.bx ?_
 refine X.an ?_
 refine Run.seq ?_
 refine Run.sr ?_
 refine X.ld shp40 ?_
 refine X.ld shp106 ?_
 obtain ⟨v1, hv1, h⟩ := bindE h
 refine X.cp (i_LiteralOk_pc _ _ _ hv1) ?_
 refine X.un (by rfl) (by rfl) (by rfl) ?_
 refine X.nil ?_
 refine R.cd (fun hc2 => ?_) (fun hc2 => ?_)
 ·replace h := condT hc2 h
  refine Run.sr ?_
  refine X.an ?_
  cases h
  refine R.f1 Tryz.results70 ?_
  rfl
 ·replace h := condF hc2 h
  refine Run.skip ?_
  refine Run.seq ?_
  refine Run.draw (footOf [(1, ([128], [], [], [])), (3, ([192], [], [], [])), (8, ([192], [], [], [])), (12, ([192], [], [], []))]) mixed (by kernel_rfl) (by kernel_rfl) ?_
  refine X.fl fld40_1 ?_
  refine X.ld shp36 ?_
  refine X.fl fld106_1 ?_
  refine X.ld shp3 ?_
  obtain ⟨v3, hv3, h⟩ := bindE h
  refine X.ix elt36 (idxL_spec hv3).1 (idxL_map eTActivity hv3) ?_
  refine X.fieldAddr_c fld95_0 (by rfl) (by rfl) ?_
  refine X.lc shp9 ?_
  refine X.fl fld106_0 ?_
  refine X.ld shp3 ?_
  obtain ⟨v4, hv4, h⟩ := bindE h
  refine X.cp (i_LiteralSign_pc _ _ hv4) ?_
  obtain ⟨v5, hv5, h⟩ := bindE h
  refine X.cat2 hv5 (by rfl) (by rfl) (by rfl) ?_
  refine X.fl fld106_2 ?_
  refine X.ld shp3 ?_
  obtain ⟨v6, hv6, h⟩ := bindE h
  refine X.cp (i_FormatInt_pc _ _ hv6) ?_
  obtain ⟨v7, hv7, h⟩ := bindE h
  refine X.cat2 hv7 (by rfl) (by rfl) (by rfl) ?_
  refine X.an ?_
  cases h
  refine R.f1 Tryz.results70 ?_
  rfl
theorem strings_Join_pc (b0 : List ByteArray) (b1 : ByteArray) (r : ByteArray) (h : strings_Join b0 b1 = some r) : PC Tryz.prog 71 [.slice (b0.map str), str b1] (str r) := PC.join ok71 (fun bk o c xs sep w h1 h2 h3 h4 h5 => Tryz.strings_Join bk o c xs sep w h1 h2 h3 h4 h5) (fun a c sep w => Tryz.strings_Join_none a c sep w) b0 b1 r h
theorem i_FormatClause_pc (b0 : TProject) (b1 : List TLiteral) (r : ByteArray) (h : i_FormatClause b0 b1 = some r) : PC Tryz.prog 37 [eTProject b0, .slice (b1.map eTLiteral)] (str r) := by
 unfold i_FormatClause at h
 refine PC.start Tryz.func37 Tryz.ntmps37 rfl ok37 rfl ?_
 refine Run.sr ?_
 refine X.bx ?_
 refine X.an ?_
 refine Run.seq ?_
 refine Run.sr ?_
 refine X.ld shp40 ?_
 refine X.mv ?_
 obtain ⟨v1, hv1, h⟩ := bindE h
 refine X.cp (i_ClauseOk_pc _ _ _ hv1) ?_
 refine X.un (by rfl) (by rfl) (by rfl) ?_
 refine X.nil ?_
 refine R.cd (fun hc2 => ?_) (fun hc2 => ?_)
 ·replace h := condT hc2 h
  refine Run.sr ?_
  refine X.an ?_
  cases h
  refine R.f1 Tryz.results37 ?_
  rfl
 ·replace h := condF hc2 h
  refine Run.skip ?_
  refine Run.seq ?_
  refine Run.sr ?_
  refine X.mv ?_
  refine X.ls elt43 ?_
  refine X.bi ?_
  refine X.nil ?_
  refine R.cd (fun hc3 => ?_) (fun hc3 => ?_)
  ·replace h := condT hc3 h
   refine Run.sr ?_
   refine X.an ?_
   cases h
   refine R.f1 Tryz.results37 ?_
   rfl
  ·replace h := condF hc3 h
   refine Run.skip ?_
   refine Run.sr ?_
   refine X.buildSlice false elt104 zer9 (by rfl) (by rfl) (by rfl) (by rfl) (by rfl) (by rfl) (by repeat (first | trivial | refine ⟨by first | rfl | simp [setL], ?_⟩)) (allSz_spec (by rfl)) (by rfl) (by rfl) (by rfl) ?_
   refine X.an ?_
   refine Run.seq ?_
   refine Run.sr ?_
   refine X.mv ?_
   refine X.ls elt43 ?_
   refine X.mn ?_
   obtain ⟨o4, ho4, h⟩ := bindE h
   refine R.join2 (β := (List ByteArray)) [] [] (fun p18 S => (5, .own 960 (p18.map str).length) :: S) (fun p18 M => (960, .obj false 9 1 (p18.map str)) :: M) (fun p18 => p18 = o4) ?_ ?_
   ·intro JJ7 hmeet6
    have hup5 := h; clear h; have h := ho4; clear ho4
    refine Run.block ?_
    refine R.bndS (t := 1) (by rfl) (fun hbd10 => ?_)
    replace hbd10 : b1.length ≤ 9223372036854775807 := by first | (rw [List.length_map] at hbd10; exact hbd10) | simp
    refine R.lp (β := Int × (List ByteArray)) [(2, .lptr 128 0), (16, .slice (b1.map eTLiteral)), (17, int (b1.length : Int))] [(128, .blk true [int b0.Deadline, .slice (b0.Activities.map eTActivity), .slice (b0.Links.map eTLink), .slice (b0.Resources.map eTResource), .slice (b0.Stocks.map int)])] (fun bb S => (5, .own 960 (bb.2.map str).length) :: (18, int bb.1) :: S) (fun bb M => (960, .obj false 9 1 (bb.2.map str)) :: M) (fun n bb => 0 ≤ bb.1 ∧ bb.1 + n = (b1.length : Int) ∧ i_FormatClause_L1 b0 (b1.drop bb.1.toNat) bb.1 bb.2 = some o4) b1.length (0, ([] : List ByteArray)) ⟨Int.le_refl _, by simp, h⟩ ?_
    clear h
    rintro JJ10 n10 ⟨z11, a12⟩ hag10 ⟨hza10, hzb10, h⟩
    dsimp only at hza10 hzb10 h
    refine Run.sr ?_
    refine X.bi ?_
    refine X.nil ?_
    refine Run.seq ?_
    refine R.cd (fun hc15 => ?_) (fun hc15 => ?_)
    ·obtain ⟨x13, xs14, hd10, hx10, hds10, hlt10⟩ := drop_atI hza10 hc15
     rw [hd10] at h
     rw [i_FormatClause_L1] at h
     refine Run.skip ?_
     refine Run.seq ?_
     refine Run.block ?_
     refine Run.sr ?_
     refine X.ix elt43 (idxL_spec hx10).1 (idxL_map eTLiteral hx10) ?_
     refine X.lc shp106 ?_
     refine X.alloc zer106 (by rfl) (by rfl) (by rfl) ?_
     refine X.sl shp106 ?_
     refine X.nil ?_
     refine Run.reg ?_
     refine X.mv ?_
     refine X.ld shp40 ?_
     refine X.ld shp106 ?_
     obtain ⟨v16, hv16, h⟩ := bindE h
     refine X.cp (i_FormatLiteral_pc _ _ _ hv16) ?_
     refine X.buildSlice false elt104 zer9 (by rfl) (by rfl) (by rfl) (by rfl) (by rfl) (by rfl) (by repeat (first | trivial | refine ⟨by first | rfl | simp [setL], ?_⟩)) (allSz_spec (by rfl)) (by rfl) (by rfl) (by rfl) ?_
     obtain ⟨v17, hv17, h⟩ := bindE h
     refine X.append elt104 zer9 (by rfl) (by rfl) (by first | rfl | simp [setL] | omega) (by rfl) (.own _ _ _ _ _ _ (look_mem (by rfl)) (by first | rfl | simp [setL] | omega)) (allSz_spec (by rfl)) (appL_len str hv17) (appL_map str hv17) (by rfl) (by rfl) (by rfl) (by rfl) ?_
     refine X.an ?_
     refine Run.blk ?_
     refine Run.reg ?_
     refine X.ad ?_
     refine X.mn ?_
     exact R.ag hag10 (n10 - 1) (z11 + 1, v17) (R.n3 (by first | (rw [hds10]; exact h) | (dsimp only; rw [hds10]; exact h)))
    ·rw [drop_endI hza10 hc15] at h
     rw [i_FormatClause_L1] at h
     refine Run.exit (by rfl) ?_
     exact R.mt hmeet6 a12 (Option.some.inj h)
   rintro p18 rfl
   refine Run.sr ?_
   refine X.mv ?_
   obtain ⟨v19, hv19, h⟩ := bindE h
   refine X.cp (strings_Join_pc _ _ _ hv19) ?_
   refine X.an ?_
   cases h
   refine R.f1 Tryz.results37 ?_
   rfl
theorem i_Project_hasResource_pc (b0 : TProject) (b1 : Int) (r : Bool) (h : i_Project_hasResource b0 b1 = some r) : PC Tryz.prog 73 [eTProject b0, int b1] (bool r) := by
 unfold i_Project_hasResource at h
 refine PC.start Tryz.func73 Tryz.ntmps73 rfl ok73 rfl ?_
 refine Run.sr ?_
 refine X.bx ?_
 refine X.an ?_
 refine Run.sr ?_
 refine X.mv ?_
 refine X.fl fld40_3 ?_
 refine X.ld shp38 ?_
 refine X.ls elt38 ?_
 refine X.subW (by rfl) (by rfl) (by rfl) ?_
 obtain ⟨v1, hv1, h⟩ := bindE h
 refine X.cp (i_within_pc _ _ _ _ hv1) ?_
 refine X.an ?_
 cases h
 refine R.f1 Tryz.results73 ?_
 rfl
theorem i_IsMachine_pc (b0 : TProject) (b1 : Int) (r : Bool) (h : i_IsMachine b0 b1 = some r) : PC Tryz.prog 75 [eTProject b0, int b1] (bool r) := by
 unfold i_IsMachine at h
 refine PC.start Tryz.func75 Tryz.ntmps75 rfl ok75 rfl ?_
 refine Run.sr ?_
 refine X.bx ?_
 refine X.an ?_
 refine Run.seq ?_
 obtain ⟨v1, hv1, h⟩ := bindE h
 obtain ⟨e2, he2, h2⟩ := bindE h
 refine R.regG [(4, bool e2)] [] ?_ ?_
 ·clear h; have h := he2; clear he2 h2
  refine X.ld shp40 ?_
  refine X.mv ?_
  refine X.cp (i_Project_hasResource_pc _ _ _ hv1) ?_
  refine X.mv ?_
  refine X.iG (fun hb3 => ?_) (fun hb3 => ?_)
  ·replace h := condT hb3 h
   refine X.fl fld40_3 ?_
   refine X.gy ?_
   refine X.ld shp38 ?_
   refine X.gy ?_
   refine X.mv ?_
   refine X.gy ?_
   obtain ⟨v4, hv4, h⟩ := bindE h
   refine X.ix elt38 (idxL_spec hv4).1 (idxL_map eTResource hv4) ?_
   refine X.gy ?_
   refine X.fieldAddr_c fld100_1 (by rfl) (by rfl) ?_
   refine X.gy ?_
   refine X.lc shp88 ?_
   refine X.gy ?_
   refine X.ls elt88 ?_
   refine X.gy ?_
   refine X.bi ?_
   refine X.pT ?_
   refine X.as ?_
   cases h
   exact X.eG
  ·replace h := condF hb3 h
   refine X.gn ?_
   refine X.gn ?_
   refine X.gn ?_
   refine X.gn ?_
   refine X.gn ?_
   refine X.gn ?_
   refine X.gn ?_
   refine X.pF ?_
   refine X.as ?_
   cases h
   exact X.eG
 replace h := h2; clear h2
 cases h
 refine R.f1 Tryz.results75 ?_
 rfl
theorem i_Project_hasStock_pc (b0 : TProject) (b1 : Int) (r : Bool) (h : i_Project_hasStock b0 b1 = some r) : PC Tryz.prog 76 [eTProject b0, int b1] (bool r) := by
 unfold i_Project_hasStock at h
 refine PC.start Tryz.func76 Tryz.ntmps76 rfl ok76 rfl ?_
 refine Run.sr ?_
 refine X.bx ?_
 refine X.an ?_
 refine Run.sr ?_
 refine X.mv ?_
 refine X.fl fld40_4 ?_
 refine X.ld shp25 ?_
 refine X.ls elt25 ?_
 refine X.subW (by rfl) (by rfl) (by rfl) ?_
 obtain ⟨v1, hv1, h⟩ := bindE h
 refine X.cp (i_within_pc _ _ _ _ hv1) ?_
 refine X.an ?_
 cases h
 refine R.f1 Tryz.results76 ?_
 rfl
theorem i_RuleOk_pc (b0 : TProject) (b1 : TRule) (r : Bool) (h : i_RuleOk b0 b1 = some r) : PC Tryz.prog 38 [eTProject b0, eTRule b1] (bool r) := by
 unfold i_RuleOk at h
 refine PC.start Tryz.func38 Tryz.ntmps38 rfl ok38 rfl ?_
 refine Run.sr ?_
 refine X.bx ?_
 refine X.bx ?_
 refine X.an ?_
 refine Run.seq ?_
 refine Run.sr ?_
 refine X.ld shp40 ?_
 obtain ⟨v1, hv1, h⟩ := bindE h
 refine X.cp (i_ProjectOk_pc _ _ hv1) ?_
 refine X.un (by rfl) (by rfl) (by rfl) ?_
 refine X.nil ?_
 refine R.cd (fun hc2 => ?_) (fun hc2 => ?_)
 ·replace h := condT hc2 h
  refine Run.sr ?_
  refine X.an ?_
  cases h
  refine R.f1 Tryz.results38 ?_
  rfl
 ·replace h := condF hc2 h
  refine Run.skip ?_
  refine Run.seq ?_
  refine Run.sr ?_
  refine X.fl fld42_0 ?_
  refine X.ld shp3 ?_
  refine X.nil ?_
  refine Run.block ?_
  refine Run.sr ?_
  refine X.bi ?_
  refine X.an ?_
  refine R.cd (fun hc3 => ?_) (fun hc3 => ?_)
  ·replace h := condT hc3 h
   refine Run.seq ?_
   obtain ⟨v4, hv4, h⟩ := bindE h
   obtain ⟨e5, he5, h2⟩ := bindE h
   refine R.regG [(4, bool e5)] [] ?_ ?_
   ·clear h; have h := he5; clear he5 h2
    refine X.fl fld42_1 ?_
    refine X.ld shp3 ?_
    refine X.fl fld40_2 ?_
    refine X.ld shp37 ?_
    refine X.ls elt37 ?_
    refine X.subW (by rfl) (by rfl) (by rfl) ?_
    refine X.cp (i_within_pc _ _ _ _ hv4) ?_
    refine X.mv ?_
    refine X.iG (fun hb6 => ?_) (fun hb6 => ?_)
    ·replace h := condT hb6 h
     refine X.fl fld42_2 ?_
     refine X.gy ?_
     refine X.ld shp3 ?_
     refine X.gy ?_
     refine X.bi ?_
     refine X.pT ?_
     refine X.mv ?_
     refine X.iG (fun hb7 => ?_) (fun hb7 => ?_)
     ·replace h := condT hb7 h
      refine X.fl fld42_3 ?_
      refine X.gy ?_
      refine X.ld shp3 ?_
      refine X.gy ?_
      refine X.bi ?_
      refine X.pT ?_
      refine X.as ?_
      cases h
      exact X.eG
     ·replace h := condF hb7 h
      refine X.gn ?_
      refine X.gn ?_
      refine X.pF ?_
      refine X.as ?_
      cases h
      exact X.eG
    ·replace h := condF hb6 h
     refine X.gn ?_
     refine X.gn ?_
     refine X.pF ?_
     refine X.mv ?_
     refine X.gn ?_
     refine X.gn ?_
     refine X.gn ?_
     refine X.pF ?_
     refine X.as ?_
     cases h
     exact X.eG
   replace h := h2; clear h2
   cases h
   refine R.f1 Tryz.results38 ?_
   rfl
  ·replace h := condF hc3 h
   refine Run.sr ?_
   refine X.bi ?_
   refine X.an ?_
   refine R.cd (fun hc8 => ?_) (fun hc8 => ?_)
   ·replace h := condT hc8 h
    refine Run.seq ?_
    obtain ⟨v9, hv9, h⟩ := bindE h
    obtain ⟨e10, he10, h2⟩ := bindE h
    refine R.regG [(4, bool e10)] [] ?_ ?_
    ·clear h; have h := he10; clear he10 h2
     refine X.ld shp40 ?_
     refine X.fl fld42_1 ?_
     refine X.ld shp3 ?_
     refine X.cp (i_Project_hasActivity_pc _ _ _ hv9) ?_
     refine X.mv ?_
     refine X.iG (fun hb11 => ?_) (fun hb11 => ?_)
     ·replace h := condT hb11 h
      refine X.fl fld42_2 ?_
      refine X.gy ?_
      refine X.ld shp3 ?_
      refine X.gy ?_
      refine X.bi ?_
      refine X.pT ?_
      refine X.mv ?_
      refine X.iG (fun hb12 => ?_) (fun hb12 => ?_)
      ·replace h := condT hb12 h
       refine X.fl fld42_3 ?_
       refine X.gy ?_
       refine X.ld shp3 ?_
       refine X.gy ?_
       refine X.bi ?_
       refine X.pT ?_
       refine X.as ?_
       cases h
       exact X.eG
      ·replace h := condF hb12 h
       refine X.gn ?_
       refine X.gn ?_
       refine X.pF ?_
       refine X.as ?_
       cases h
       exact X.eG
     ·replace h := condF hb11 h
      refine X.gn ?_
      refine X.gn ?_
      refine X.pF ?_
      refine X.mv ?_
      refine X.gn ?_
      refine X.gn ?_
      refine X.gn ?_
      refine X.pF ?_
      refine X.as ?_
      cases h
      exact X.eG
    replace h := h2; clear h2
    cases h
    refine R.f1 Tryz.results38 ?_
    rfl
   ·replace h := condF hc8 h
    refine Run.sr ?_
    refine X.bi ?_
    refine X.an ?_
    refine R.cd (fun hc13 => ?_) (fun hc13 => ?_)
    ·replace h := condT hc13 h
     refine Run.seq ?_
     obtain ⟨v14, hv14, h⟩ := bindE h
     obtain ⟨e15, he15, h2⟩ := bindE h
     refine R.regG [(4, bool e15)] [] ?_ ?_
     ·clear h; have h := he15; clear he15 h2
      refine X.ld shp40 ?_
      refine X.fl fld42_1 ?_
      refine X.ld shp3 ?_
      refine X.cp (i_Project_hasResource_pc _ _ _ hv14) ?_
      refine X.mv ?_
      refine X.iG (fun hb16 => ?_) (fun hb16 => ?_)
      ·replace h := condT hb16 h
       refine X.fl fld42_2 ?_
       refine X.gy ?_
       refine X.ld shp3 ?_
       refine X.gy ?_
       obtain ⟨v17, hv17, h⟩ := bindE h
       refine X.cp (i_isTime_pc _ _ hv17) ?_
       refine X.pT ?_
       refine X.mv ?_
       refine X.iG (fun hb18 => ?_) (fun hb18 => ?_)
       ·replace h := condT hb18 h
        refine X.fl fld42_3 ?_
        refine X.gy ?_
        refine X.ld shp3 ?_
        refine X.gy ?_
        refine X.bi ?_
        refine X.pT ?_
        refine X.as ?_
        cases h
        exact X.eG
       ·replace h := condF hb18 h
        refine X.gn ?_
        refine X.gn ?_
        refine X.pF ?_
        refine X.as ?_
        cases h
        exact X.eG
      ·replace h := condF hb16 h
       refine X.gn ?_
       refine X.gn ?_
       refine X.pF ?_
       refine X.mv ?_
       refine X.gn ?_
       refine X.gn ?_
       refine X.gn ?_
       refine X.pF ?_
       refine X.as ?_
       cases h
       exact X.eG
     replace h := h2; clear h2
     cases h
     refine R.f1 Tryz.results38 ?_
     rfl
    ·replace h := condF hc13 h
     refine Run.sr ?_
     refine X.bi ?_
     refine X.an ?_
     refine R.cd (fun hc19 => ?_) (fun hc19 => ?_)
     ·replace h := condT hc19 h
      refine Run.seq ?_
      obtain ⟨v20, hv20, h⟩ := bindE h
      obtain ⟨e21, he21, h2⟩ := bindE h
      refine R.regG [(4, bool e21)] [] ?_ ?_
      ·clear h; have h := he21; clear he21 h2
       refine X.ld shp40 ?_
       refine X.fl fld42_1 ?_
       refine X.ld shp3 ?_
       refine X.cp (i_Project_hasResource_pc _ _ _ hv20) ?_
       refine X.mv ?_
       refine X.iG (fun hb22 => ?_) (fun hb22 => ?_)
       ·replace h := condT hb22 h
        refine X.fl fld42_2 ?_
        refine X.gy ?_
        refine X.ld shp3 ?_
        refine X.gy ?_
        obtain ⟨v23, hv23, h⟩ := bindE h
        refine X.cp (i_isTime_pc _ _ hv23) ?_
        refine X.pT ?_
        refine X.mv ?_
        refine X.iG (fun hb24 => ?_) (fun hb24 => ?_)
        ·replace h := condT hb24 h
         refine X.fl fld42_3 ?_
         refine X.gy ?_
         refine X.ld shp3 ?_
         refine X.gy ?_
         obtain ⟨v25, hv25, h⟩ := bindE h
         refine X.cp (i_isTime_pc _ _ hv25) ?_
         refine X.pT ?_
         refine X.mv ?_
         refine X.iG (fun hb26 => ?_) (fun hb26 => ?_)
         ·replace h := condT hb26 h
          refine X.fl fld42_2 ?_
          refine X.gy ?_
          refine X.ld shp3 ?_
          refine X.gy ?_
          refine X.fl fld42_3 ?_
          refine X.gy ?_
          refine X.ld shp3 ?_
          refine X.gy ?_
          refine X.bi ?_
          refine X.pT ?_
          refine X.as ?_
          cases h
          exact X.eG
         ·replace h := condF hb26 h
          refine X.gn ?_
          refine X.gn ?_
          refine X.gn ?_
          refine X.gn ?_
          refine X.pF ?_
          refine X.as ?_
          cases h
          exact X.eG
        ·replace h := condF hb24 h
         refine X.gn ?_
         refine X.gn ?_
         refine X.pF ?_
         refine X.mv ?_
         refine X.gn ?_
         refine X.gn ?_
         refine X.gn ?_
         refine X.gn ?_
         refine X.gn ?_
         refine X.pF ?_
         refine X.as ?_
         cases h
         exact X.eG
       ·replace h := condF hb22 h
        refine X.gn ?_
        refine X.gn ?_
        refine X.pF ?_
        refine X.mv ?_
        refine X.gn ?_
        refine X.gn ?_
        refine X.gn ?_
        refine X.pF ?_
        refine X.mv ?_
        refine X.gn ?_
        refine X.gn ?_
        refine X.gn ?_
        refine X.gn ?_
        refine X.gn ?_
        refine X.pF ?_
        refine X.as ?_
        cases h
        exact X.eG
      replace h := h2; clear h2
      cases h
      refine R.f1 Tryz.results38 ?_
      rfl
     ·replace h := condF hc19 h
      refine Run.sr ?_
      refine X.bi ?_
      refine X.an ?_
      refine R.cd (fun hc27 => ?_) (fun hc27 => ?_)
      ·replace h := condT hc27 h
       refine Run.seq ?_
       obtain ⟨v28, hv28, h⟩ := bindE h
       obtain ⟨e29, he29, h2⟩ := bindE h
       refine R.regG [(4, bool e29)] [] ?_ ?_
       ·clear h; have h := he29; clear he29 h2
        refine X.ld shp40 ?_
        refine X.fl fld42_1 ?_
        refine X.ld shp3 ?_
        refine X.cp (i_IsMachine_pc _ _ _ hv28) ?_
        refine X.mv ?_
        refine X.iG (fun hb30 => ?_) (fun hb30 => ?_)
        ·replace h := condT hb30 h
         refine X.ld shp40 ?_
         refine X.gy ?_
         refine X.fl fld42_2 ?_
         refine X.gy ?_
         refine X.ld shp3 ?_
         refine X.gy ?_
         obtain ⟨v31, hv31, h⟩ := bindE h
         refine X.cp (i_Project_hasActivity_pc _ _ _ hv31) ?_
         refine X.pT ?_
         refine X.mv ?_
         refine X.iG (fun hb32 => ?_) (fun hb32 => ?_)
         ·replace h := condT hb32 h
          refine X.ld shp40 ?_
          refine X.gy ?_
          refine X.fl fld42_3 ?_
          refine X.gy ?_
          refine X.ld shp3 ?_
          refine X.gy ?_
          obtain ⟨v33, hv33, h⟩ := bindE h
          refine X.cp (i_Project_hasActivity_pc _ _ _ hv33) ?_
          refine X.pT ?_
          refine X.mv ?_
          refine X.iG (fun hb34 => ?_) (fun hb34 => ?_)
          ·replace h := condT hb34 h
           refine X.fl fld42_2 ?_
           refine X.gy ?_
           refine X.ld shp3 ?_
           refine X.gy ?_
           refine X.fl fld42_3 ?_
           refine X.gy ?_
           refine X.ld shp3 ?_
           refine X.gy ?_
           refine X.bi ?_
           refine X.pT ?_
           refine X.as ?_
           cases h
           exact X.eG
          ·replace h := condF hb34 h
           refine X.gn ?_
           refine X.gn ?_
           refine X.gn ?_
           refine X.gn ?_
           refine X.pF ?_
           refine X.as ?_
           cases h
           exact X.eG
         ·replace h := condF hb32 h
          refine X.gn ?_
          refine X.gn ?_
          refine X.gn ?_
          refine X.pF ?_
          refine X.mv ?_
          refine X.gn ?_
          refine X.gn ?_
          refine X.gn ?_
          refine X.gn ?_
          refine X.gn ?_
          refine X.pF ?_
          refine X.as ?_
          cases h
          exact X.eG
        ·replace h := condF hb30 h
         refine X.gn ?_
         refine X.gn ?_
         refine X.gn ?_
         refine X.pF ?_
         refine X.mv ?_
         refine X.gn ?_
         refine X.gn ?_
         refine X.gn ?_
         refine X.gn ?_
         refine X.pF ?_
         refine X.mv ?_
         refine X.gn ?_
         refine X.gn ?_
         refine X.gn ?_
         refine X.gn ?_
         refine X.gn ?_
         refine X.pF ?_
         refine X.as ?_
         cases h
         exact X.eG
       replace h := h2; clear h2
       cases h
       refine R.f1 Tryz.results38 ?_
       rfl
      ·replace h := condF hc27 h
       refine Run.sr ?_
       refine X.bi ?_
       refine X.an ?_
       refine R.cd (fun hc35 => ?_) (fun hc35 => ?_)
       ·replace h := condT hc35 h
        refine Run.seq ?_
        obtain ⟨v36, hv36, h⟩ := bindE h
        obtain ⟨e37, he37, h2⟩ := bindE h
        refine R.regG [(4, bool e37)] [] ?_ ?_
        ·clear h; have h := he37; clear he37 h2
         refine X.ld shp40 ?_
         refine X.fl fld42_1 ?_
         refine X.ld shp3 ?_
         refine X.cp (i_Project_hasStock_pc _ _ _ hv36) ?_
         refine X.mv ?_
         refine X.iG (fun hb38 => ?_) (fun hb38 => ?_)
         ·replace h := condT hb38 h
          refine X.fl fld42_2 ?_
          refine X.gy ?_
          refine X.ld shp3 ?_
          refine X.gy ?_
          refine X.bi ?_
          refine X.pT ?_
          refine X.mv ?_
          refine X.iG (fun hb39 => ?_) (fun hb39 => ?_)
          ·replace h := condT hb39 h
           refine X.fl fld42_3 ?_
           refine X.gy ?_
           refine X.ld shp3 ?_
           refine X.gy ?_
           refine X.bi ?_
           refine X.pT ?_
           refine X.as ?_
           cases h
           exact X.eG
          ·replace h := condF hb39 h
           refine X.gn ?_
           refine X.gn ?_
           refine X.pF ?_
           refine X.as ?_
           cases h
           exact X.eG
         ·replace h := condF hb38 h
          refine X.gn ?_
          refine X.gn ?_
          refine X.pF ?_
          refine X.mv ?_
          refine X.gn ?_
          refine X.gn ?_
          refine X.gn ?_
          refine X.pF ?_
          refine X.as ?_
          cases h
          exact X.eG
        replace h := h2; clear h2
        cases h
        refine R.f1 Tryz.results38 ?_
        rfl
       ·replace h := condF hc35 h
        refine Run.skip ?_
        refine Run.blk ?_
        refine Run.sr ?_
        refine X.an ?_
        cases h
        refine R.f1 Tryz.results38 ?_
        rfl
theorem i_RuleName_pc (b0 : Int) (r : ByteArray) (h : i_RuleName b0 = some r) : PC Tryz.prog 78 [int b0] (str r) := by
 unfold i_RuleName at h
 refine PC.start Tryz.func78 Tryz.ntmps78 rfl ok78 rfl ?_
 refine Run.sr ?_
 refine X.an ?_
 refine Run.sr ?_
 refine X.buildArr zer153 arr153 (by rfl) (by rfl) (by repeat (first | trivial | refine ⟨by first | rfl | simp [setL], ?_⟩)) (by rfl) (by rfl) (by rfl) ?_
 refine X.alloc zer153 (by rfl) (by rfl) (by rfl) ?_
 refine X.sl shp153 ?_
 refine X.nil ?_
 refine Run.seq ?_
 refine Run.sr ?_
 refine X.mv ?_
 obtain ⟨v1, hv1, h⟩ := bindE h
 refine X.cp (i_within_pc _ _ _ _ hv1) ?_
 refine X.un (by rfl) (by rfl) (by rfl) ?_
 refine X.nil ?_
 refine R.cd (fun hc2 => ?_) (fun hc2 => ?_)
 ·replace h := condT hc2 h
  refine Run.sr ?_
  refine X.an ?_
  cases h
  refine R.f1 Tryz.results78 ?_
  rfl
 ·replace h := condF hc2 h
  refine Run.skip ?_
  refine Run.sr ?_
  refine X.mv ?_
  obtain ⟨v3, hv3, h⟩ := bindE h
  refine X.index_a (m := (b0).toNat) arr153 (by rfl) (by rfl) (Int.toNat_of_nonneg (idxL_spec hv3).1).symm (idxL_lt hv3) (by rfl) ?_
  refine X.load_l shp9 (by rfl) (by rfl) (by rfl) (loadK_dyn str hv3 (by rfl)) (by rfl) (by rfl) ?_
  refine X.an ?_
  cases h
  refine R.f1 Tryz.results78 ?_
  rfl
theorem i_FormatRule_pc (b0 : TProject) (b1 : TRule) (r : ByteArray) (h : i_FormatRule b0 b1 = some r) : PC Tryz.prog 40 [eTProject b0, eTRule b1] (str r) := by
 unfold i_FormatRule at h
 refine PC.start Tryz.func40 Tryz.ntmps40 rfl ok40 rfl ?_
 refine Run.sr ?_
 refine X.bx ?_
 refine X.bx ?_
 refine X.an ?_
 refine Run.seq ?_
 refine Run.sr ?_
 refine X.ld shp40 ?_
 refine X.ld shp42 ?_
 obtain ⟨v1, hv1, h⟩ := bindE h
 refine X.cp (i_RuleOk_pc _ _ _ hv1) ?_
 refine X.un (by rfl) (by rfl) (by rfl) ?_
 refine X.nil ?_
 refine R.cd (fun hc2 => ?_) (fun hc2 => ?_)
 ·replace h := condT hc2 h
  refine Run.sr ?_
  refine X.an ?_
  cases h
  refine R.f1 Tryz.results40 ?_
  rfl
 ·replace h := condF hc2 h
  refine Run.skip ?_
  refine Run.seq ?_
  refine Run.draw (footOf [(1, ([192], [], [], [])), (4, ([192], [], [], [])), (6, ([1024], [1024], [], []))]) mixed (by kernel_rfl) (by kernel_rfl) ?_
  refine X.fl fld42_0 ?_
  refine X.ld shp3 ?_
  obtain ⟨v3, hv3, h⟩ := bindE h
  refine X.cp (i_RuleName_pc _ _ hv3) ?_
  refine X.fl fld42_1 ?_
  refine X.ld shp3 ?_
  obtain ⟨v4, hv4, h⟩ := bindE h
  refine X.cp (i_FormatInt_pc _ _ hv4) ?_
  refine X.buildSlice true elt104 zer9 (by rfl) (by rfl) (by rfl) (by rfl) (by rfl) (by rfl) (by repeat (first | trivial | refine ⟨by first | rfl | simp [setL], ?_⟩)) (allSz_spec (by rfl)) (by rfl) (by rfl) (by rfl) ?_
  refine X.an ?_
  refine Run.seq ?_
  refine Run.sr ?_
  refine X.fl fld42_0 ?_
  refine X.ld shp3 ?_
  refine X.nil ?_
  refine Run.block ?_
  refine Run.sr ?_
  refine X.bi ?_
  refine X.an ?_
  obtain ⟨o5, ho5, h⟩ := bindE h
  refine R.join2 (β := (List ByteArray)) [] [] (fun p23 S => (5, .own 1024 (p23.map str).length) :: S) (fun p23 M => (1024, .obj true 9 1 (p23.map str)) :: M) (fun p23 => p23 = o5) ?_ ?_
  ·intro JJ8 hmeet7
   have hup6 := h; clear h; have h := ho5; clear ho5
   refine R.cd (fun hc9 => ?_) (fun hc9 => ?_)
   ·replace h := condT hc9 h
    refine Run.reg ?_
    refine X.mv ?_
    refine X.fl fld40_1 ?_
    refine X.ld shp36 ?_
    refine X.fl fld42_1 ?_
    refine X.ld shp3 ?_
    obtain ⟨v10, hv10, h⟩ := bindE h
    refine X.ix elt36 (idxL_spec hv10).1 (idxL_map eTActivity hv10) ?_
    refine X.fieldAddr_c fld95_0 (by rfl) (by rfl) ?_
    refine X.lc shp9 ?_
    obtain ⟨v11, hv11, h⟩ := bindE h
    refine X.index_xs elt104 (by rfl) (by rfl) (by first | rfl | simp [setL] | omega) (by rfl) (by exact (Int.toNat_of_nonneg (idxL_spec hv11).1).symm) (by have := idxL_lt hv11; first | exact this | (rw [List.length_map]; exact this)) (by rfl) (by rfl) ?_
    refine X.store_es shp9 (by rfl) (by rfl) (by first | rfl | simp [setL] | omega) (idxL_map _ hv11) (by rfl) (by rfl) (by repeat (first | trivial | refine ⟨by first | rfl | simp [setL], ?_⟩)) (by rfl) (by rfl) (by rfl) (by rfl) (by exact setL_map _ _ _ v10.Name) ?_
    refine X.nil ?_
    refine R.castS (t := 5) (.own 1024 ((setL ([v3, v4] : List ByteArray) 1 v10.Name).map str).length) (by rfl) (.inl (by first | rfl | simp [setL])) ?_
    exact R.mt hmeet7 (setL ([v3, v4] : List ByteArray) 1 v10.Name) (Option.some.inj h)
   ·replace h := condF hc9 h
    refine Run.sr ?_
    refine X.bi ?_
    refine X.an ?_
    refine R.cd (fun hc12 => ?_) (fun hc12 => ?_)
    ·replace h := condT hc12 h
     refine Run.reg ?_
     refine X.mv ?_
     refine X.fl fld42_2 ?_
     refine X.ld shp3 ?_
     obtain ⟨v13, hv13, h⟩ := bindE h
     refine X.cp (i_FormatInt_pc _ _ hv13) ?_
     refine X.buildSlice false elt104 zer9 (by rfl) (by rfl) (by rfl) (by rfl) (by rfl) (by rfl) (by repeat (first | trivial | refine ⟨by first | rfl | simp [setL], ?_⟩)) (allSz_spec (by rfl)) (by rfl) (by rfl) (by rfl) ?_
     obtain ⟨v14, hv14, h⟩ := bindE h
     refine X.append elt104 zer9 (by rfl) (by rfl) (by first | rfl | simp [setL] | omega) (by rfl) (.own _ _ _ _ _ _ (look_mem (by rfl)) (by first | rfl | simp [setL] | omega)) (allSz_spec (by rfl)) (appL_len str hv14) (appL_map str hv14) (by rfl) (by rfl) (by rfl) (by rfl) ?_
     refine X.an ?_
     exact R.mt hmeet7 v14 (Option.some.inj h)
    ·replace h := condF hc12 h
     refine Run.sr ?_
     refine X.bi ?_
     refine X.an ?_
     refine R.cd (fun hc15 => ?_) (fun hc15 => ?_)
     ·replace h := condT hc15 h
      refine Run.draw (footOf [(2, ([192], [], [], [])), (5, ([192], [], [], [])), (7, ([3008], [3008], [], [])), (8, ([1024, 3008], [1024], [], []))]) mixed (by kernel_rfl) (by kernel_rfl) ?_
      refine X.mv ?_
      refine X.fl fld42_2 ?_
      refine X.ld shp3 ?_
      obtain ⟨v16, hv16, h⟩ := bindE h
      refine X.cp (i_FormatInt_pc _ _ hv16) ?_
      refine X.fl fld42_3 ?_
      refine X.ld shp3 ?_
      obtain ⟨v17, hv17, h⟩ := bindE h
      refine X.cp (i_FormatInt_pc _ _ hv17) ?_
      refine X.buildSlice false elt104 zer9 (by rfl) (by rfl) (by rfl) (by rfl) (by rfl) (by rfl) (by repeat (first | trivial | refine ⟨by first | rfl | simp [setL], ?_⟩)) (allSz_spec (by rfl)) (by rfl) (by rfl) (by rfl) ?_
      obtain ⟨v18, hv18, h⟩ := bindE h
      refine X.append elt104 zer9 (by rfl) (by rfl) (by first | rfl | simp [setL] | omega) (by rfl) (.own _ _ _ _ _ _ (look_mem (by rfl)) (by first | rfl | simp [setL] | omega)) (allSz_spec (by rfl)) (appL_len str hv18) (appL_map str hv18) (by rfl) (by rfl) (by rfl) (by rfl) ?_
      refine X.an ?_
      exact R.mt hmeet7 v18 (Option.some.inj h)
     ·replace h := condF hc15 h
      refine Run.sr ?_
      refine X.bi ?_
      refine X.an ?_
      refine R.cd (fun hc19 => ?_) (fun hc19 => ?_)
      ·replace h := condT hc19 h
       refine Run.draw (footOf [(2, ([128], [], [], [])), (4, ([192], [], [], [])), (9, ([128], [], [], [])), (11, ([192], [], [], [])), (15, ([4224], [4224], [], [])), (16, ([1024, 4224], [1024], [], []))]) mixed (by kernel_rfl) (by kernel_rfl) ?_
       refine X.mv ?_
       refine X.fl fld40_1 ?_
       refine X.ld shp36 ?_
       refine X.fl fld42_2 ?_
       refine X.ld shp3 ?_
       obtain ⟨v20, hv20, h⟩ := bindE h
       refine X.ix elt36 (idxL_spec hv20).1 (idxL_map eTActivity hv20) ?_
       refine X.fieldAddr_c fld95_0 (by rfl) (by rfl) ?_
       refine X.lc shp9 ?_
       refine X.fl fld40_1 ?_
       refine X.ld shp36 ?_
       refine X.fl fld42_3 ?_
       refine X.ld shp3 ?_
       obtain ⟨v21, hv21, h⟩ := bindE h
       refine X.ix elt36 (idxL_spec hv21).1 (idxL_map eTActivity hv21) ?_
       refine X.fieldAddr_c fld95_0 (by rfl) (by rfl) ?_
       refine X.lc shp9 ?_
       refine X.buildSlice false elt104 zer9 (by rfl) (by rfl) (by rfl) (by rfl) (by rfl) (by rfl) (by repeat (first | trivial | refine ⟨by first | rfl | simp [setL], ?_⟩)) (allSz_spec (by rfl)) (by rfl) (by rfl) (by rfl) ?_
       obtain ⟨v22, hv22, h⟩ := bindE h
       refine X.append elt104 zer9 (by rfl) (by rfl) (by first | rfl | simp [setL] | omega) (by rfl) (.own _ _ _ _ _ _ (look_mem (by rfl)) (by first | rfl | simp [setL] | omega)) (allSz_spec (by rfl)) (appL_len str hv22) (appL_map str hv22) (by rfl) (by rfl) (by rfl) (by rfl) ?_
       refine X.an ?_
       exact R.mt hmeet7 v22 (Option.some.inj h)
      ·replace h := condF hc19 h
       refine Run.skip ?_
       exact R.mt hmeet7 ([v3, v4] : List ByteArray) (Option.some.inj h)
  rintro p23 rfl
  refine Run.blk ?_
  refine Run.sr ?_
  refine X.mv ?_
  obtain ⟨v24, hv24, h⟩ := bindE h
  refine X.callM [(63, 1024)] (PC.lend (M0 := [(63, .obj true 9 1 (p23.map str))]) (strings_Join_pc _ _ _ hv24) (.lit _) (by rfl) (.own 63 _ _ _ _ _ _ _ (by rfl) (by first | rfl | simp [setL] | omega) (.same _ _ _ (by rfl) .nil))) (by rfl) (by rfl) (.ownB 63 (by rfl) (by first | rfl | simp [setL] | omega) (by rfl) (.pureB (by rfl) (by repeat (first | trivial | refine ⟨by first | rfl | simp [setL], ?_⟩)) .nil)) (by rfl) ⟨rfl, rfl, ⟨_, by rfl, by constructor⟩, by constructor, trivial⟩ (by rfl) (by rfl) (by rfl) (by rfl) (by rfl) (by rfl) (by rfl) (by rfl) (by rfl) ?_
  refine X.an ?_
  cases h
  refine R.f1 Tryz.results40 ?_
  rfl
theorem strings_ReplaceAll_pc (b0 : ByteArray) (b1 : ByteArray) (b2 : ByteArray) (r : ByteArray) (h : strings_ReplaceAll b0 b1 b2 = some r) : PC Tryz.prog 39 [str b0, str b1, str b2] (str r) := PC.replaceAll ok39 (by kernel_rfl) (fun s old new m w h1 h2 h3 h4 => Tryz.strings_ReplaceAll s old new m w h1 h2 h3 h4) b0 b1 b2 r h
theorem i_FormatLine_pc (b0 : TProject) (b1 : TLine) (r : ByteArray) (h : i_FormatLine b0 b1 = some r) : PC Tryz.prog 10 [eTProject b0, eTLine b1] (str r) := by
 unfold i_FormatLine at h
 refine PC.start Tryz.func10 Tryz.ntmps10 rfl ok10 rfl ?_
 refine Run.sr ?_
 refine X.bx ?_
 refine X.bx ?_
 refine X.an ?_
 refine Run.seq ?_
 refine Run.seq ?_
 obtain ⟨v1, hv1, h⟩ := bindE h
 obtain ⟨e2, he2, h2⟩ := bindE h
 refine R.regG [(2, .lptr 128 0), (3, .lptr 192 0), (14, bool e2)] [(128, .blk true [int b0.Deadline, .slice (b0.Activities.map eTActivity), .slice (b0.Links.map eTLink), .slice (b0.Resources.map eTResource), .slice (b0.Stocks.map int)]), (192, .blk true [int b1.Kind, int b1.Rule.Kind, int b1.Rule.A, int b1.Rule.B, int b1.Rule.C, .slice (b1.Clause.map eTLiteral)])] ?_ ?_
 ·clear h; have h := he2; clear he2 h2
  refine X.ld shp40 ?_
  refine X.cp (i_ProjectOk_pc _ _ hv1) ?_
  refine X.un (by rfl) (by rfl) (by rfl) ?_
  refine X.mv ?_
  refine X.iG (fun hb3 => ?_) (fun hb3 => ?_)
  ·replace h := condF hb3 h
   refine X.ld shp40 ?_
   refine X.gy ?_
   refine X.ld shp45 ?_
   refine X.gy ?_
   obtain ⟨v4, hv4, h⟩ := bindE h
   refine X.cp (i_LineOk_pc _ _ _ hv4) ?_
   refine X.gy ?_
   refine X.un (by rfl) (by rfl) (by rfl) ?_
   refine X.pF ?_
   cases h
   exact X.eG
  ·replace h := condT hb3 h
   refine X.gn ?_
   refine X.gn ?_
   refine X.gn ?_
   refine X.pT ?_
   cases h
   exact X.eG
 replace h := h2; clear h2
 refine R.cd (fun hc5 => ?_) (fun hc5 => ?_)
 ·replace h := condT hc5 h
  refine Run.sr ?_
  refine X.an ?_
  cases h
  refine R.f1 Tryz.results10 ?_
  rfl
 ·replace h := condF hc5 h
  refine Run.skip ?_
  refine Run.seq ?_
  refine Run.sr ?_
  refine X.fl fld45_0 ?_
  refine X.ld shp3 ?_
  refine X.bi ?_
  refine X.nil ?_
  refine R.cd (fun hc6 => ?_) (fun hc6 => ?_)
  ·replace h := condT hc6 h
   refine Run.sr ?_
   refine X.ld shp40 ?_
   refine X.fl fld45_2 ?_
   refine X.ld shp43 ?_
   obtain ⟨v7, hv7, h⟩ := bindE h
   refine X.cp (i_FormatClause_pc _ _ _ hv7) ?_
   obtain ⟨v8, hv8, h⟩ := bindE h
   refine X.cat2 hv8 (by rfl) (by rfl) (by rfl) ?_
   refine X.an ?_
   cases h
   refine R.f1 Tryz.results10 ?_
   rfl
  ·replace h := condF hc6 h
   refine Run.skip ?_
   refine Run.sr ?_
   refine X.an ?_
   refine Run.seq ?_
   refine Run.sr ?_
   refine X.ld shp40 ?_
   refine X.fl fld45_1 ?_
   refine X.ld shp42 ?_
   obtain ⟨v9, hv9, h⟩ := bindE h
   refine X.cp (i_RuleOk_pc _ _ _ hv9) ?_
   refine X.nil ?_
   obtain ⟨o10, ho10, h⟩ := bindE h
   refine R.join2 (β := ByteArray) [(2, .lptr 128 0), (3, .lptr 192 0)] [(128, .blk true [int b0.Deadline, .slice (b0.Activities.map eTActivity), .slice (b0.Links.map eTLink), .slice (b0.Resources.map eTResource), .slice (b0.Stocks.map int)]), (192, .blk true [int b1.Kind, int b1.Rule.Kind, int b1.Rule.A, int b1.Rule.B, int b1.Rule.C, .slice (b1.Clause.map eTLiteral)])] (fun p17 S => (5, str p17) :: S) (fun p17 M => M) (fun p17 => p17 = o10) ?_ ?_
   ·intro JJ13 hmeet12
    have hup11 := h; clear h; have h := ho10; clear ho10
    refine R.cd (fun hc14 => ?_) (fun hc14 => ?_)
    ·replace h := condT hc14 h
     refine Run.reg ?_
     refine X.ld shp40 ?_
     refine X.fl fld45_1 ?_
     refine X.ld shp42 ?_
     obtain ⟨v15, hv15, h⟩ := bindE h
     refine X.cp (i_FormatRule_pc _ _ _ hv15) ?_
     obtain ⟨v16, hv16, h⟩ := bindE h
     refine X.cp (strings_ReplaceAll_pc _ _ _ _ hv16) ?_
     refine X.an ?_
     exact R.mt hmeet12 v16 (Option.some.inj h)
    ·replace h := condF hc14 h
     refine Run.skip ?_
     exact R.mt hmeet12 (⟨#[110, 111, 110, 101]⟩ : ByteArray) (Option.some.inj h)
   rintro p17 rfl
   refine Run.sr ?_
   refine X.mv ?_
   obtain ⟨v18, hv18, h⟩ := bindE h
   refine X.cat2 hv18 (by rfl) (by rfl) (by rfl) ?_
   obtain ⟨v19, hv19, h⟩ := bindE h
   refine X.cat2 hv19 (by rfl) (by rfl) (by rfl) ?_
   refine X.ld shp40 ?_
   refine X.fl fld45_2 ?_
   refine X.ld shp43 ?_
   obtain ⟨v20, hv20, h⟩ := bindE h
   refine X.cp (i_FormatClause_pc _ _ _ hv20) ?_
   obtain ⟨v21, hv21, h⟩ := bindE h
   refine X.cat2 hv21 (by rfl) (by rfl) (by rfl) ?_
   refine X.an ?_
   cases h
   refine R.f1 Tryz.results10 ?_
   rfl
theorem w_eqIntS_pc (b0 : List Int) (b1 : List Int) (r : Bool) (h : w_eqIntS b0 b1 = some r) : PC Tryz.prog 44 [.slice (b0.map int), .slice (b1.map int)] (bool r) := by
 unfold w_eqIntS at h
 refine PC.start Tryz.func44 Tryz.ntmps44 rfl ok44 rfl ?_
 refine Run.sr ?_
 refine X.an ?_
 refine Run.seq ?_
 refine Run.sr ?_
 refine X.mv ?_
 refine X.ls elt25 ?_
 refine X.mv ?_
 refine X.ls elt25 ?_
 refine X.bi ?_
 refine X.nil ?_
 refine R.cd (fun hc1 => ?_) (fun hc1 => ?_)
 ·replace h := condT hc1 h
  refine Run.sr ?_
  refine X.an ?_
  cases h
  refine R.f1 Tryz.results44 ?_
  rfl
 ·replace h := condF hc1 h
  refine Run.skip ?_
  refine Run.seq ?_
  refine Run.sr ?_
  refine X.an ?_
  obtain ⟨o2, ho2, h⟩ := bindE h
  refine R.join2 (β := Unit) [] [] (fun p15 S => S) (fun p15 M => M) (fun p15 => (Sum.inl p15) = o2) ?_ ?_
  ·intro JJ5 hmeet4
   have hup3 := h; clear h; have h := ho2; clear ho2
   refine Run.block ?_
   refine R.bndS (t := 0) (by rfl) (fun hbd8 => ?_)
   replace hbd8 : b0.length ≤ 9223372036854775807 := by first | (rw [List.length_map] at hbd8; exact hbd8) | simp
   refine R.lp (β := Int) [(0, .slice (b0.map int)), (1, .slice (b1.map int))] [] (fun bb S => (5, int bb) :: S) (fun bb M => M) (fun n bb => 0 ≤ bb ∧ bb + n = (b0.length : Int) ∧ w_eqIntS_L1 b1 (b0.drop bb.toNat) bb = some o2) b0.length (0 : Int) ⟨Int.le_refl _, by simp, h⟩ ?_
   clear h
   rintro JJ8 n8 z9 hag8 ⟨hza8, hzb8, h⟩
   refine Run.seq ?_
   refine Run.sr ?_
   refine X.mv ?_
   refine X.mv ?_
   refine X.ls elt25 ?_
   refine X.bi ?_
   refine X.nil ?_
   refine R.cd (fun hc12 => ?_) (fun hc12 => ?_)
   ·obtain ⟨x10, xs11, hd8, hx8, hds8, hlt8⟩ := drop_atI hza8 hc12
    rw [hd8] at h
    rw [w_eqIntS_L1] at h
    refine Run.skip ?_
    refine Run.seq ?_
    refine Run.block ?_
    refine Run.seq ?_
    refine Run.draw (footOf []) mixed (by kernel_rfl) (by kernel_rfl) ?_
    refine X.mv ?_
    refine X.mv ?_
    refine X.ix elt25 (idxL_spec hx8).1 (idxL_map int hx8) ?_
    refine X.lc shp3 ?_
    refine X.mv ?_
    refine X.mv ?_
    obtain ⟨v13, hv13, h⟩ := bindE h
    refine X.ix elt25 (idxL_spec hv13).1 (idxL_map int hv13) ?_
    refine X.lc shp3 ?_
    refine X.bi ?_
    refine X.nil ?_
    refine R.cd (fun hc14 => ?_) (fun hc14 => ?_)
    ·replace h := condT hc14 h
     refine Run.sr ?_
     refine X.an ?_
     cases h
     have h := hup3
     replace h := elimR h
     cases h
     refine R.f1 Tryz.results44 ?_
     rfl
    ·replace h := condF hc14 h
     refine Run.skip ?_
     refine Run.blk ?_
     refine Run.reg ?_
     refine X.mv ?_
     refine X.ad ?_
     refine X.an ?_
     exact R.ag hag8 (n8 - 1) (z9 + 1) (R.n3 (by first | (rw [hds8]; exact h) | (dsimp only; rw [hds8]; exact h)))
   ·rw [drop_endI hza8 hc12] at h
    rw [w_eqIntS_L1] at h
    refine Run.exit (by rfl) ?_
    exact R.mt hmeet4 () (Option.some.inj h)
  rintro p15 rfl
  replace h := elimL h
  refine Run.sr ?_
  refine X.an ?_
  cases h
  refine R.f1 Tryz.results44 ?_
  rfl
theorem w_eqMode_pc (b0 : TMode) (b1 : TMode) (r : Bool) (h : w_eqMode b0 b1 = some r) : PC Tryz.prog 132 [eTMode b0, eTMode b1] (bool r) := by
 unfold w_eqMode at h
 refine PC.start Tryz.func132 Tryz.ntmps132 rfl ok132 rfl ?_
 refine Run.sr ?_
 refine X.bx ?_
 refine X.bx ?_
 refine X.an ?_
 refine Run.seq ?_
 refine Run.sr ?_
 refine X.fl fld131_0 ?_
 refine X.ld shp3 ?_
 refine X.fl fld131_0 ?_
 refine X.ld shp3 ?_
 refine X.bi ?_
 refine X.nil ?_
 refine R.cd (fun hc1 => ?_) (fun hc1 => ?_)
 ·replace h := condT hc1 h
  refine Run.sr ?_
  refine X.an ?_
  cases h
  refine R.f1 Tryz.results132 ?_
  rfl
 ·replace h := condF hc1 h
  refine Run.skip ?_
  refine Run.seq ?_
  refine Run.sr ?_
  refine X.fl fld131_1 ?_
  refine X.ld shp25 ?_
  refine X.fl fld131_1 ?_
  refine X.ld shp25 ?_
  obtain ⟨v2, hv2, h⟩ := bindE h
  refine X.cp (w_eqIntS_pc _ _ _ hv2) ?_
  refine X.un (by rfl) (by rfl) (by rfl) ?_
  refine X.nil ?_
  refine R.cd (fun hc3 => ?_) (fun hc3 => ?_)
  ·replace h := condT hc3 h
   refine Run.sr ?_
   refine X.an ?_
   cases h
   refine R.f1 Tryz.results132 ?_
   rfl
  ·replace h := condF hc3 h
   refine Run.skip ?_
   refine Run.seq ?_
   refine Run.sr ?_
   refine X.fl fld131_2 ?_
   refine X.ld shp25 ?_
   refine X.fl fld131_2 ?_
   refine X.ld shp25 ?_
   obtain ⟨v4, hv4, h⟩ := bindE h
   refine X.cp (w_eqIntS_pc _ _ _ hv4) ?_
   refine X.un (by rfl) (by rfl) (by rfl) ?_
   refine X.nil ?_
   refine R.cd (fun hc5 => ?_) (fun hc5 => ?_)
   ·replace h := condT hc5 h
    refine Run.sr ?_
    refine X.an ?_
    cases h
    refine R.f1 Tryz.results132 ?_
    rfl
   ·replace h := condF hc5 h
    refine Run.skip ?_
    refine Run.sr ?_
    refine X.an ?_
    cases h
    refine R.f1 Tryz.results132 ?_
    rfl
theorem w_eqModeS_pc (b0 : List TMode) (b1 : List TMode) (r : Bool) (h : w_eqModeS b0 b1 = some r) : PC Tryz.prog 113 [.slice (b0.map eTMode), .slice (b1.map eTMode)] (bool r) := by
 unfold w_eqModeS at h
 refine PC.start Tryz.func113 Tryz.ntmps113 rfl ok113 rfl ?_
 refine Run.sr ?_
 refine X.an ?_
 refine Run.seq ?_
 refine Run.sr ?_
 refine X.mv ?_
 refine X.ls elt93 ?_
 refine X.mv ?_
 refine X.ls elt93 ?_
 refine X.bi ?_
 refine X.nil ?_
 refine R.cd (fun hc1 => ?_) (fun hc1 => ?_)
 ·replace h := condT hc1 h
  refine Run.sr ?_
  refine X.an ?_
  cases h
  refine R.f1 Tryz.results113 ?_
  rfl
 ·replace h := condF hc1 h
  refine Run.skip ?_
  refine Run.seq ?_
  refine Run.sr ?_
  refine X.an ?_
  obtain ⟨o2, ho2, h⟩ := bindE h
  refine R.join2 (β := Unit) [] [] (fun p16 S => S) (fun p16 M => M) (fun p16 => (Sum.inl p16) = o2) ?_ ?_
  ·intro JJ5 hmeet4
   have hup3 := h; clear h; have h := ho2; clear ho2
   refine Run.block ?_
   refine R.bndS (t := 0) (by rfl) (fun hbd8 => ?_)
   replace hbd8 : b0.length ≤ 9223372036854775807 := by first | (rw [List.length_map] at hbd8; exact hbd8) | simp
   refine R.lp (β := Int) [(0, .slice (b0.map eTMode)), (1, .slice (b1.map eTMode))] [] (fun bb S => (5, int bb) :: S) (fun bb M => M) (fun n bb => 0 ≤ bb ∧ bb + n = (b0.length : Int) ∧ w_eqModeS_L1 b1 (b0.drop bb.toNat) bb = some o2) b0.length (0 : Int) ⟨Int.le_refl _, by simp, h⟩ ?_
   clear h
   rintro JJ8 n8 z9 hag8 ⟨hza8, hzb8, h⟩
   refine Run.seq ?_
   refine Run.sr ?_
   refine X.mv ?_
   refine X.mv ?_
   refine X.ls elt93 ?_
   refine X.bi ?_
   refine X.nil ?_
   refine R.cd (fun hc12 => ?_) (fun hc12 => ?_)
   ·obtain ⟨x10, xs11, hd8, hx8, hds8, hlt8⟩ := drop_atI hza8 hc12
    rw [hd8] at h
    rw [w_eqModeS_L1] at h
    refine Run.skip ?_
    refine Run.seq ?_
    refine Run.block ?_
    refine Run.seq ?_
    refine Run.draw (footOf []) mixed (by kernel_rfl) (by kernel_rfl) ?_
    refine X.mv ?_
    refine X.mv ?_
    refine X.ix elt93 (idxL_spec hx8).1 (idxL_map eTMode hx8) ?_
    refine X.lc shp131 ?_
    refine X.mv ?_
    refine X.mv ?_
    obtain ⟨v13, hv13, h⟩ := bindE h
    refine X.ix elt93 (idxL_spec hv13).1 (idxL_map eTMode hv13) ?_
    refine X.lc shp131 ?_
    obtain ⟨v14, hv14, h⟩ := bindE h
    refine X.cp (w_eqMode_pc _ _ _ hv14) ?_
    refine X.un (by rfl) (by rfl) (by rfl) ?_
    refine X.nil ?_
    refine R.cd (fun hc15 => ?_) (fun hc15 => ?_)
    ·replace h := condT hc15 h
     refine Run.sr ?_
     refine X.an ?_
     cases h
     have h := hup3
     replace h := elimR h
     cases h
     refine R.f1 Tryz.results113 ?_
     rfl
    ·replace h := condF hc15 h
     refine Run.skip ?_
     refine Run.blk ?_
     refine Run.reg ?_
     refine X.mv ?_
     refine X.ad ?_
     refine X.an ?_
     exact R.ag hag8 (n8 - 1) (z9 + 1) (R.n3 (by first | (rw [hds8]; exact h) | (dsimp only; rw [hds8]; exact h)))
   ·rw [drop_endI hza8 hc12] at h
    rw [w_eqModeS_L1] at h
    refine Run.exit (by rfl) ?_
    exact R.mt hmeet4 () (Option.some.inj h)
  rintro p16 rfl
  replace h := elimL h
  refine Run.sr ?_
  refine X.an ?_
  cases h
  refine R.f1 Tryz.results113 ?_
  rfl
theorem w_eqActivity_pc (b0 : TActivity) (b1 : TActivity) (r : Bool) (h : w_eqActivity b0 b1 = some r) : PC Tryz.prog 80 [eTActivity b0, eTActivity b1] (bool r) := by
 unfold w_eqActivity at h
 refine PC.start Tryz.func80 Tryz.ntmps80 rfl ok80 rfl ?_
 refine Run.sr ?_
 refine X.bx ?_
 refine X.bx ?_
 refine X.an ?_
 refine Run.seq ?_
 refine Run.sr ?_
 refine X.fl fld95_0 ?_
 refine X.ld shp9 ?_
 refine X.fl fld95_0 ?_
 refine X.ld shp9 ?_
 refine X.bi ?_
 refine X.nil ?_
 refine R.cd (fun hc1 => ?_) (fun hc1 => ?_)
 ·replace h := condT hc1 h
  refine Run.sr ?_
  refine X.an ?_
  cases h
  refine R.f1 Tryz.results80 ?_
  rfl
 ·replace h := condF hc1 h
  refine Run.skip ?_
  refine Run.seq ?_
  refine Run.sr ?_
  refine X.fl fld95_1 ?_
  refine X.ld shp3 ?_
  refine X.fl fld95_1 ?_
  refine X.ld shp3 ?_
  refine X.bi ?_
  refine X.nil ?_
  refine R.cd (fun hc2 => ?_) (fun hc2 => ?_)
  ·replace h := condT hc2 h
   refine Run.sr ?_
   refine X.an ?_
   cases h
   refine R.f1 Tryz.results80 ?_
   rfl
  ·replace h := condF hc2 h
   refine Run.skip ?_
   refine Run.seq ?_
   refine Run.sr ?_
   refine X.fl fld95_2 ?_
   refine X.ld shp93 ?_
   refine X.fl fld95_2 ?_
   refine X.ld shp93 ?_
   obtain ⟨v3, hv3, h⟩ := bindE h
   refine X.cp (w_eqModeS_pc _ _ _ hv3) ?_
   refine X.un (by rfl) (by rfl) (by rfl) ?_
   refine X.nil ?_
   refine R.cd (fun hc4 => ?_) (fun hc4 => ?_)
   ·replace h := condT hc4 h
    refine Run.sr ?_
    refine X.an ?_
    cases h
    refine R.f1 Tryz.results80 ?_
    rfl
   ·replace h := condF hc4 h
    refine Run.skip ?_
    refine Run.sr ?_
    refine X.an ?_
    cases h
    refine R.f1 Tryz.results80 ?_
    rfl
theorem w_eqActivityS_pc (b0 : List TActivity) (b1 : List TActivity) (r : Bool) (h : w_eqActivityS b0 b1 = some r) : PC Tryz.prog 41 [.slice (b0.map eTActivity), .slice (b1.map eTActivity)] (bool r) := by
 unfold w_eqActivityS at h
 refine PC.start Tryz.func41 Tryz.ntmps41 rfl ok41 rfl ?_
 refine Run.sr ?_
 refine X.an ?_
 refine Run.seq ?_
 refine Run.sr ?_
 refine X.mv ?_
 refine X.ls elt36 ?_
 refine X.mv ?_
 refine X.ls elt36 ?_
 refine X.bi ?_
 refine X.nil ?_
 refine R.cd (fun hc1 => ?_) (fun hc1 => ?_)
 ·replace h := condT hc1 h
  refine Run.sr ?_
  refine X.an ?_
  cases h
  refine R.f1 Tryz.results41 ?_
  rfl
 ·replace h := condF hc1 h
  refine Run.skip ?_
  refine Run.seq ?_
  refine Run.sr ?_
  refine X.an ?_
  obtain ⟨o2, ho2, h⟩ := bindE h
  refine R.join2 (β := Unit) [] [] (fun p16 S => S) (fun p16 M => M) (fun p16 => (Sum.inl p16) = o2) ?_ ?_
  ·intro JJ5 hmeet4
   have hup3 := h; clear h; have h := ho2; clear ho2
   refine Run.block ?_
   refine R.bndS (t := 0) (by rfl) (fun hbd8 => ?_)
   replace hbd8 : b0.length ≤ 9223372036854775807 := by first | (rw [List.length_map] at hbd8; exact hbd8) | simp
   refine R.lp (β := Int) [(0, .slice (b0.map eTActivity)), (1, .slice (b1.map eTActivity))] [] (fun bb S => (5, int bb) :: S) (fun bb M => M) (fun n bb => 0 ≤ bb ∧ bb + n = (b0.length : Int) ∧ w_eqActivityS_L1 b1 (b0.drop bb.toNat) bb = some o2) b0.length (0 : Int) ⟨Int.le_refl _, by simp, h⟩ ?_
   clear h
   rintro JJ8 n8 z9 hag8 ⟨hza8, hzb8, h⟩
   refine Run.seq ?_
   refine Run.sr ?_
   refine X.mv ?_
   refine X.mv ?_
   refine X.ls elt36 ?_
   refine X.bi ?_
   refine X.nil ?_
   refine R.cd (fun hc12 => ?_) (fun hc12 => ?_)
   ·obtain ⟨x10, xs11, hd8, hx8, hds8, hlt8⟩ := drop_atI hza8 hc12
    rw [hd8] at h
    rw [w_eqActivityS_L1] at h
    refine Run.skip ?_
    refine Run.seq ?_
    refine Run.block ?_
    refine Run.seq ?_
    refine Run.draw (footOf []) mixed (by kernel_rfl) (by kernel_rfl) ?_
    refine X.mv ?_
    refine X.mv ?_
    refine X.ix elt36 (idxL_spec hx8).1 (idxL_map eTActivity hx8) ?_
    refine X.lc shp95 ?_
    refine X.mv ?_
    refine X.mv ?_
    obtain ⟨v13, hv13, h⟩ := bindE h
    refine X.ix elt36 (idxL_spec hv13).1 (idxL_map eTActivity hv13) ?_
    refine X.lc shp95 ?_
    obtain ⟨v14, hv14, h⟩ := bindE h
    refine X.cp (w_eqActivity_pc _ _ _ hv14) ?_
    refine X.un (by rfl) (by rfl) (by rfl) ?_
    refine X.nil ?_
    refine R.cd (fun hc15 => ?_) (fun hc15 => ?_)
    ·replace h := condT hc15 h
     refine Run.sr ?_
     refine X.an ?_
     cases h
     have h := hup3
     replace h := elimR h
     cases h
     refine R.f1 Tryz.results41 ?_
     rfl
    ·replace h := condF hc15 h
     refine Run.skip ?_
     refine Run.blk ?_
     refine Run.reg ?_
     refine X.mv ?_
     refine X.ad ?_
     refine X.an ?_
     exact R.ag hag8 (n8 - 1) (z9 + 1) (R.n3 (by first | (rw [hds8]; exact h) | (dsimp only; rw [hds8]; exact h)))
   ·rw [drop_endI hza8 hc12] at h
    rw [w_eqActivityS_L1] at h
    refine Run.exit (by rfl) ?_
    exact R.mt hmeet4 () (Option.some.inj h)
  rintro p16 rfl
  replace h := elimL h
  refine Run.sr ?_
  refine X.an ?_
  cases h
  refine R.f1 Tryz.results41 ?_
  rfl
theorem w_eqLink_pc (b0 : TLink) (b1 : TLink) (r : Bool) (h : w_eqLink b0 b1 = some r) : PC Tryz.prog 81 [eTLink b0, eTLink b1] (bool r) := by
 unfold w_eqLink at h
 refine PC.start Tryz.func81 Tryz.ntmps81 rfl ok81 rfl ?_
 refine Run.sr ?_
 refine X.bx ?_
 refine X.bx ?_
 refine X.an ?_
 refine Run.seq ?_
 refine Run.sr ?_
 refine X.fl fld103_0 ?_
 refine X.ld shp3 ?_
 refine X.fl fld103_0 ?_
 refine X.ld shp3 ?_
 refine X.bi ?_
 refine X.nil ?_
 refine R.cd (fun hc1 => ?_) (fun hc1 => ?_)
 ·replace h := condT hc1 h
  refine Run.sr ?_
  refine X.an ?_
  cases h
  refine R.f1 Tryz.results81 ?_
  rfl
 ·replace h := condF hc1 h
  refine Run.skip ?_
  refine Run.seq ?_
  refine Run.sr ?_
  refine X.fl fld103_1 ?_
  refine X.ld shp3 ?_
  refine X.fl fld103_1 ?_
  refine X.ld shp3 ?_
  refine X.bi ?_
  refine X.nil ?_
  refine R.cd (fun hc2 => ?_) (fun hc2 => ?_)
  ·replace h := condT hc2 h
   refine Run.sr ?_
   refine X.an ?_
   cases h
   refine R.f1 Tryz.results81 ?_
   rfl
  ·replace h := condF hc2 h
   refine Run.skip ?_
   refine Run.seq ?_
   refine Run.sr ?_
   refine X.fl fld103_2 ?_
   refine X.ld shp4 ?_
   refine X.fl fld103_2 ?_
   refine X.ld shp4 ?_
   refine X.neqBool Tryz.underlying4 (by rfl) (by rfl) (by rfl) ?_
   refine X.nil ?_
   refine R.cd (fun hc3 => ?_) (fun hc3 => ?_)
   ·replace h := condT hc3 h
    refine Run.sr ?_
    refine X.an ?_
    cases h
    refine R.f1 Tryz.results81 ?_
    rfl
   ·replace h := condF hc3 h
    refine Run.skip ?_
    refine Run.seq ?_
    refine Run.sr ?_
    refine X.fl fld103_3 ?_
    refine X.ld shp3 ?_
    refine X.fl fld103_3 ?_
    refine X.ld shp3 ?_
    refine X.bi ?_
    refine X.nil ?_
    refine R.cd (fun hc4 => ?_) (fun hc4 => ?_)
    ·replace h := condT hc4 h
     refine Run.sr ?_
     refine X.an ?_
     cases h
     refine R.f1 Tryz.results81 ?_
     rfl
    ·replace h := condF hc4 h
     refine Run.skip ?_
     refine Run.sr ?_
     refine X.an ?_
     cases h
     refine R.f1 Tryz.results81 ?_
     rfl
theorem w_eqLinkS_pc (b0 : List TLink) (b1 : List TLink) (r : Bool) (h : w_eqLinkS b0 b1 = some r) : PC Tryz.prog 42 [.slice (b0.map eTLink), .slice (b1.map eTLink)] (bool r) := by
 unfold w_eqLinkS at h
 refine PC.start Tryz.func42 Tryz.ntmps42 rfl ok42 rfl ?_
 refine Run.sr ?_
 refine X.an ?_
 refine Run.seq ?_
 refine Run.sr ?_
 refine X.mv ?_
 refine X.ls elt37 ?_
 refine X.mv ?_
 refine X.ls elt37 ?_
 refine X.bi ?_
 refine X.nil ?_
 refine R.cd (fun hc1 => ?_) (fun hc1 => ?_)
 ·replace h := condT hc1 h
  refine Run.sr ?_
  refine X.an ?_
  cases h
  refine R.f1 Tryz.results42 ?_
  rfl
 ·replace h := condF hc1 h
  refine Run.skip ?_
  refine Run.seq ?_
  refine Run.sr ?_
  refine X.an ?_
  obtain ⟨o2, ho2, h⟩ := bindE h
  refine R.join2 (β := Unit) [] [] (fun p16 S => S) (fun p16 M => M) (fun p16 => (Sum.inl p16) = o2) ?_ ?_
  ·intro JJ5 hmeet4
   have hup3 := h; clear h; have h := ho2; clear ho2
   refine Run.block ?_
   refine R.bndS (t := 0) (by rfl) (fun hbd8 => ?_)
   replace hbd8 : b0.length ≤ 9223372036854775807 := by first | (rw [List.length_map] at hbd8; exact hbd8) | simp
   refine R.lp (β := Int) [(0, .slice (b0.map eTLink)), (1, .slice (b1.map eTLink))] [] (fun bb S => (5, int bb) :: S) (fun bb M => M) (fun n bb => 0 ≤ bb ∧ bb + n = (b0.length : Int) ∧ w_eqLinkS_L1 b1 (b0.drop bb.toNat) bb = some o2) b0.length (0 : Int) ⟨Int.le_refl _, by simp, h⟩ ?_
   clear h
   rintro JJ8 n8 z9 hag8 ⟨hza8, hzb8, h⟩
   refine Run.seq ?_
   refine Run.sr ?_
   refine X.mv ?_
   refine X.mv ?_
   refine X.ls elt37 ?_
   refine X.bi ?_
   refine X.nil ?_
   refine R.cd (fun hc12 => ?_) (fun hc12 => ?_)
   ·obtain ⟨x10, xs11, hd8, hx8, hds8, hlt8⟩ := drop_atI hza8 hc12
    rw [hd8] at h
    rw [w_eqLinkS_L1] at h
    refine Run.skip ?_
    refine Run.seq ?_
    refine Run.block ?_
    refine Run.seq ?_
    refine Run.draw (footOf []) mixed (by kernel_rfl) (by kernel_rfl) ?_
    refine X.mv ?_
    refine X.mv ?_
    refine X.ix elt37 (idxL_spec hx8).1 (idxL_map eTLink hx8) ?_
    refine X.lc shp103 ?_
    refine X.mv ?_
    refine X.mv ?_
    obtain ⟨v13, hv13, h⟩ := bindE h
    refine X.ix elt37 (idxL_spec hv13).1 (idxL_map eTLink hv13) ?_
    refine X.lc shp103 ?_
    obtain ⟨v14, hv14, h⟩ := bindE h
    refine X.cp (w_eqLink_pc _ _ _ hv14) ?_
    refine X.un (by rfl) (by rfl) (by rfl) ?_
    refine X.nil ?_
    refine R.cd (fun hc15 => ?_) (fun hc15 => ?_)
    ·replace h := condT hc15 h
     refine Run.sr ?_
     refine X.an ?_
     cases h
     have h := hup3
     replace h := elimR h
     cases h
     refine R.f1 Tryz.results42 ?_
     rfl
    ·replace h := condF hc15 h
     refine Run.skip ?_
     refine Run.blk ?_
     refine Run.reg ?_
     refine X.mv ?_
     refine X.ad ?_
     refine X.an ?_
     exact R.ag hag8 (n8 - 1) (z9 + 1) (R.n3 (by first | (rw [hds8]; exact h) | (dsimp only; rw [hds8]; exact h)))
   ·rw [drop_endI hza8 hc12] at h
    rw [w_eqLinkS_L1] at h
    refine Run.exit (by rfl) ?_
    exact R.mt hmeet4 () (Option.some.inj h)
  rintro p16 rfl
  replace h := elimL h
  refine Run.sr ?_
  refine X.an ?_
  cases h
  refine R.f1 Tryz.results42 ?_
  rfl
theorem w_eqStep_pc (b0 : TStep) (b1 : TStep) (r : Bool) (h : w_eqStep b0 b1 = some r) : PC Tryz.prog 133 [eTStep b0, eTStep b1] (bool r) := by
 unfold w_eqStep at h
 refine PC.start Tryz.func133 Tryz.ntmps133 rfl ok133 rfl ?_
 refine Run.sr ?_
 refine X.bx ?_
 refine X.bx ?_
 refine X.an ?_
 refine Run.seq ?_
 refine Run.sr ?_
 refine X.fl fld162_0 ?_
 refine X.ld shp3 ?_
 refine X.fl fld162_0 ?_
 refine X.ld shp3 ?_
 refine X.bi ?_
 refine X.nil ?_
 refine R.cd (fun hc1 => ?_) (fun hc1 => ?_)
 ·replace h := condT hc1 h
  refine Run.sr ?_
  refine X.an ?_
  cases h
  refine R.f1 Tryz.results133 ?_
  rfl
 ·replace h := condF hc1 h
  refine Run.skip ?_
  refine Run.seq ?_
  refine Run.sr ?_
  refine X.fl fld162_1 ?_
  refine X.ld shp3 ?_
  refine X.fl fld162_1 ?_
  refine X.ld shp3 ?_
  refine X.bi ?_
  refine X.nil ?_
  refine R.cd (fun hc2 => ?_) (fun hc2 => ?_)
  ·replace h := condT hc2 h
   refine Run.sr ?_
   refine X.an ?_
   cases h
   refine R.f1 Tryz.results133 ?_
   rfl
  ·replace h := condF hc2 h
   refine Run.skip ?_
   refine Run.sr ?_
   refine X.an ?_
   cases h
   refine R.f1 Tryz.results133 ?_
   rfl
theorem w_eqStepS_pc (b0 : List TStep) (b1 : List TStep) (r : Bool) (h : w_eqStepS b0 b1 = some r) : PC Tryz.prog 114 [.slice (b0.map eTStep), .slice (b1.map eTStep)] (bool r) := by
 unfold w_eqStepS at h
 refine PC.start Tryz.func114 Tryz.ntmps114 rfl ok114 rfl ?_
 refine Run.sr ?_
 refine X.an ?_
 refine Run.seq ?_
 refine Run.sr ?_
 refine X.mv ?_
 refine X.ls elt98 ?_
 refine X.mv ?_
 refine X.ls elt98 ?_
 refine X.bi ?_
 refine X.nil ?_
 refine R.cd (fun hc1 => ?_) (fun hc1 => ?_)
 ·replace h := condT hc1 h
  refine Run.sr ?_
  refine X.an ?_
  cases h
  refine R.f1 Tryz.results114 ?_
  rfl
 ·replace h := condF hc1 h
  refine Run.skip ?_
  refine Run.seq ?_
  refine Run.sr ?_
  refine X.an ?_
  obtain ⟨o2, ho2, h⟩ := bindE h
  refine R.join2 (β := Unit) [] [] (fun p16 S => S) (fun p16 M => M) (fun p16 => (Sum.inl p16) = o2) ?_ ?_
  ·intro JJ5 hmeet4
   have hup3 := h; clear h; have h := ho2; clear ho2
   refine Run.block ?_
   refine R.bndS (t := 0) (by rfl) (fun hbd8 => ?_)
   replace hbd8 : b0.length ≤ 9223372036854775807 := by first | (rw [List.length_map] at hbd8; exact hbd8) | simp
   refine R.lp (β := Int) [(0, .slice (b0.map eTStep)), (1, .slice (b1.map eTStep))] [] (fun bb S => (5, int bb) :: S) (fun bb M => M) (fun n bb => 0 ≤ bb ∧ bb + n = (b0.length : Int) ∧ w_eqStepS_L1 b1 (b0.drop bb.toNat) bb = some o2) b0.length (0 : Int) ⟨Int.le_refl _, by simp, h⟩ ?_
   clear h
   rintro JJ8 n8 z9 hag8 ⟨hza8, hzb8, h⟩
   refine Run.seq ?_
   refine Run.sr ?_
   refine X.mv ?_
   refine X.mv ?_
   refine X.ls elt98 ?_
   refine X.bi ?_
   refine X.nil ?_
   refine R.cd (fun hc12 => ?_) (fun hc12 => ?_)
   ·obtain ⟨x10, xs11, hd8, hx8, hds8, hlt8⟩ := drop_atI hza8 hc12
    rw [hd8] at h
    rw [w_eqStepS_L1] at h
    refine Run.skip ?_
    refine Run.seq ?_
    refine Run.block ?_
    refine Run.seq ?_
    refine Run.draw (footOf []) mixed (by kernel_rfl) (by kernel_rfl) ?_
    refine X.mv ?_
    refine X.mv ?_
    refine X.ix elt98 (idxL_spec hx8).1 (idxL_map eTStep hx8) ?_
    refine X.lc shp162 ?_
    refine X.mv ?_
    refine X.mv ?_
    obtain ⟨v13, hv13, h⟩ := bindE h
    refine X.ix elt98 (idxL_spec hv13).1 (idxL_map eTStep hv13) ?_
    refine X.lc shp162 ?_
    obtain ⟨v14, hv14, h⟩ := bindE h
    refine X.cp (w_eqStep_pc _ _ _ hv14) ?_
    refine X.un (by rfl) (by rfl) (by rfl) ?_
    refine X.nil ?_
    refine R.cd (fun hc15 => ?_) (fun hc15 => ?_)
    ·replace h := condT hc15 h
     refine Run.sr ?_
     refine X.an ?_
     cases h
     have h := hup3
     replace h := elimR h
     cases h
     refine R.f1 Tryz.results114 ?_
     rfl
    ·replace h := condF hc15 h
     refine Run.skip ?_
     refine Run.blk ?_
     refine Run.reg ?_
     refine X.mv ?_
     refine X.ad ?_
     refine X.an ?_
     exact R.ag hag8 (n8 - 1) (z9 + 1) (R.n3 (by first | (rw [hds8]; exact h) | (dsimp only; rw [hds8]; exact h)))
   ·rw [drop_endI hza8 hc12] at h
    rw [w_eqStepS_L1] at h
    refine Run.exit (by rfl) ?_
    exact R.mt hmeet4 () (Option.some.inj h)
  rintro p16 rfl
  replace h := elimL h
  refine Run.sr ?_
  refine X.an ?_
  cases h
  refine R.f1 Tryz.results114 ?_
  rfl
theorem w_eqIntSS_pc (b0 : List (List Int)) (b1 : List (List Int)) (r : Bool) (h : w_eqIntSS b0 b1 = some r) : PC Tryz.prog 115 [.slice (b0.map l_int), .slice (b1.map l_int)] (bool r) := by
 unfold w_eqIntSS at h
 refine PC.start Tryz.func115 Tryz.ntmps115 rfl ok115 rfl ?_
 refine Run.sr ?_
 refine X.an ?_
 refine Run.seq ?_
 refine Run.sr ?_
 refine X.mv ?_
 refine X.ls elt88 ?_
 refine X.mv ?_
 refine X.ls elt88 ?_
 refine X.bi ?_
 refine X.nil ?_
 refine R.cd (fun hc1 => ?_) (fun hc1 => ?_)
 ·replace h := condT hc1 h
  refine Run.sr ?_
  refine X.an ?_
  cases h
  refine R.f1 Tryz.results115 ?_
  rfl
 ·replace h := condF hc1 h
  refine Run.skip ?_
  refine Run.seq ?_
  refine Run.sr ?_
  refine X.an ?_
  obtain ⟨o2, ho2, h⟩ := bindE h
  refine R.join2 (β := Unit) [] [] (fun p16 S => S) (fun p16 M => M) (fun p16 => (Sum.inl p16) = o2) ?_ ?_
  ·intro JJ5 hmeet4
   have hup3 := h; clear h; have h := ho2; clear ho2
   refine Run.block ?_
   refine R.bndS (t := 0) (by rfl) (fun hbd8 => ?_)
   replace hbd8 : b0.length ≤ 9223372036854775807 := by first | (rw [List.length_map] at hbd8; exact hbd8) | simp
   refine R.lp (β := Int) [(0, .slice (b0.map l_int)), (1, .slice (b1.map l_int))] [] (fun bb S => (5, int bb) :: S) (fun bb M => M) (fun n bb => 0 ≤ bb ∧ bb + n = (b0.length : Int) ∧ w_eqIntSS_L1 b1 (b0.drop bb.toNat) bb = some o2) b0.length (0 : Int) ⟨Int.le_refl _, by simp, h⟩ ?_
   clear h
   rintro JJ8 n8 z9 hag8 ⟨hza8, hzb8, h⟩
   refine Run.seq ?_
   refine Run.sr ?_
   refine X.mv ?_
   refine X.mv ?_
   refine X.ls elt88 ?_
   refine X.bi ?_
   refine X.nil ?_
   refine R.cd (fun hc12 => ?_) (fun hc12 => ?_)
   ·obtain ⟨x10, xs11, hd8, hx8, hds8, hlt8⟩ := drop_atI hza8 hc12
    rw [hd8] at h
    rw [w_eqIntSS_L1] at h
    refine Run.skip ?_
    refine Run.seq ?_
    refine Run.block ?_
    refine Run.seq ?_
    refine Run.draw (footOf []) mixed (by kernel_rfl) (by kernel_rfl) ?_
    refine X.mv ?_
    refine X.mv ?_
    refine X.ix elt88 (idxL_spec hx8).1 (idxL_map l_int hx8) ?_
    refine X.lc shp25 ?_
    refine X.mv ?_
    refine X.mv ?_
    obtain ⟨v13, hv13, h⟩ := bindE h
    refine X.ix elt88 (idxL_spec hv13).1 (idxL_map l_int hv13) ?_
    refine X.lc shp25 ?_
    obtain ⟨v14, hv14, h⟩ := bindE h
    refine X.cp (w_eqIntS_pc _ _ _ hv14) ?_
    refine X.un (by rfl) (by rfl) (by rfl) ?_
    refine X.nil ?_
    refine R.cd (fun hc15 => ?_) (fun hc15 => ?_)
    ·replace h := condT hc15 h
     refine Run.sr ?_
     refine X.an ?_
     cases h
     have h := hup3
     replace h := elimR h
     cases h
     refine R.f1 Tryz.results115 ?_
     rfl
    ·replace h := condF hc15 h
     refine Run.skip ?_
     refine Run.blk ?_
     refine Run.reg ?_
     refine X.mv ?_
     refine X.ad ?_
     refine X.an ?_
     exact R.ag hag8 (n8 - 1) (z9 + 1) (R.n3 (by first | (rw [hds8]; exact h) | (dsimp only; rw [hds8]; exact h)))
   ·rw [drop_endI hza8 hc12] at h
    rw [w_eqIntSS_L1] at h
    refine Run.exit (by rfl) ?_
    exact R.mt hmeet4 () (Option.some.inj h)
  rintro p16 rfl
  replace h := elimL h
  refine Run.sr ?_
  refine X.an ?_
  cases h
  refine R.f1 Tryz.results115 ?_
  rfl
theorem w_eqResource_pc (b0 : TResource) (b1 : TResource) (r : Bool) (h : w_eqResource b0 b1 = some r) : PC Tryz.prog 82 [eTResource b0, eTResource b1] (bool r) := by
 unfold w_eqResource at h
 refine PC.start Tryz.func82 Tryz.ntmps82 rfl ok82 rfl ?_
 refine Run.sr ?_
 refine X.bx ?_
 refine X.bx ?_
 refine X.an ?_
 refine Run.seq ?_
 refine Run.sr ?_
 refine X.fl fld100_0 ?_
 refine X.ld shp98 ?_
 refine X.fl fld100_0 ?_
 refine X.ld shp98 ?_
 obtain ⟨v1, hv1, h⟩ := bindE h
 refine X.cp (w_eqStepS_pc _ _ _ hv1) ?_
 refine X.un (by rfl) (by rfl) (by rfl) ?_
 refine X.nil ?_
 refine R.cd (fun hc2 => ?_) (fun hc2 => ?_)
 ·replace h := condT hc2 h
  refine Run.sr ?_
  refine X.an ?_
  cases h
  refine R.f1 Tryz.results82 ?_
  rfl
 ·replace h := condF hc2 h
  refine Run.skip ?_
  refine Run.seq ?_
  refine Run.sr ?_
  refine X.fl fld100_1 ?_
  refine X.ld shp88 ?_
  refine X.fl fld100_1 ?_
  refine X.ld shp88 ?_
  obtain ⟨v3, hv3, h⟩ := bindE h
  refine X.cp (w_eqIntSS_pc _ _ _ hv3) ?_
  refine X.un (by rfl) (by rfl) (by rfl) ?_
  refine X.nil ?_
  refine R.cd (fun hc4 => ?_) (fun hc4 => ?_)
  ·replace h := condT hc4 h
   refine Run.sr ?_
   refine X.an ?_
   cases h
   refine R.f1 Tryz.results82 ?_
   rfl
  ·replace h := condF hc4 h
   refine Run.skip ?_
   refine Run.sr ?_
   refine X.an ?_
   cases h
   refine R.f1 Tryz.results82 ?_
   rfl
theorem w_eqResourceS_pc (b0 : List TResource) (b1 : List TResource) (r : Bool) (h : w_eqResourceS b0 b1 = some r) : PC Tryz.prog 43 [.slice (b0.map eTResource), .slice (b1.map eTResource)] (bool r) := by
 unfold w_eqResourceS at h
 refine PC.start Tryz.func43 Tryz.ntmps43 rfl ok43 rfl ?_
 refine Run.sr ?_
 refine X.an ?_
 refine Run.seq ?_
 refine Run.sr ?_
 refine X.mv ?_
 refine X.ls elt38 ?_
 refine X.mv ?_
 refine X.ls elt38 ?_
 refine X.bi ?_
 refine X.nil ?_
 refine R.cd (fun hc1 => ?_) (fun hc1 => ?_)
 ·replace h := condT hc1 h
  refine Run.sr ?_
  refine X.an ?_
  cases h
  refine R.f1 Tryz.results43 ?_
  rfl
 ·replace h := condF hc1 h
  refine Run.skip ?_
  refine Run.seq ?_
  refine Run.sr ?_
  refine X.an ?_
  obtain ⟨o2, ho2, h⟩ := bindE h
  refine R.join2 (β := Unit) [] [] (fun p16 S => S) (fun p16 M => M) (fun p16 => (Sum.inl p16) = o2) ?_ ?_
  ·intro JJ5 hmeet4
   have hup3 := h; clear h; have h := ho2; clear ho2
   refine Run.block ?_
   refine R.bndS (t := 0) (by rfl) (fun hbd8 => ?_)
   replace hbd8 : b0.length ≤ 9223372036854775807 := by first | (rw [List.length_map] at hbd8; exact hbd8) | simp
   refine R.lp (β := Int) [(0, .slice (b0.map eTResource)), (1, .slice (b1.map eTResource))] [] (fun bb S => (5, int bb) :: S) (fun bb M => M) (fun n bb => 0 ≤ bb ∧ bb + n = (b0.length : Int) ∧ w_eqResourceS_L1 b1 (b0.drop bb.toNat) bb = some o2) b0.length (0 : Int) ⟨Int.le_refl _, by simp, h⟩ ?_
   clear h
   rintro JJ8 n8 z9 hag8 ⟨hza8, hzb8, h⟩
   refine Run.seq ?_
   refine Run.sr ?_
   refine X.mv ?_
   refine X.mv ?_
   refine X.ls elt38 ?_
   refine X.bi ?_
   refine X.nil ?_
   refine R.cd (fun hc12 => ?_) (fun hc12 => ?_)
   ·obtain ⟨x10, xs11, hd8, hx8, hds8, hlt8⟩ := drop_atI hza8 hc12
    rw [hd8] at h
    rw [w_eqResourceS_L1] at h
    refine Run.skip ?_
    refine Run.seq ?_
    refine Run.block ?_
    refine Run.seq ?_
    refine Run.draw (footOf []) mixed (by kernel_rfl) (by kernel_rfl) ?_
    refine X.mv ?_
    refine X.mv ?_
    refine X.ix elt38 (idxL_spec hx8).1 (idxL_map eTResource hx8) ?_
    refine X.lc shp100 ?_
    refine X.mv ?_
    refine X.mv ?_
    obtain ⟨v13, hv13, h⟩ := bindE h
    refine X.ix elt38 (idxL_spec hv13).1 (idxL_map eTResource hv13) ?_
    refine X.lc shp100 ?_
    obtain ⟨v14, hv14, h⟩ := bindE h
    refine X.cp (w_eqResource_pc _ _ _ hv14) ?_
    refine X.un (by rfl) (by rfl) (by rfl) ?_
    refine X.nil ?_
    refine R.cd (fun hc15 => ?_) (fun hc15 => ?_)
    ·replace h := condT hc15 h
     refine Run.sr ?_
     refine X.an ?_
     cases h
     have h := hup3
     replace h := elimR h
     cases h
     refine R.f1 Tryz.results43 ?_
     rfl
    ·replace h := condF hc15 h
     refine Run.skip ?_
     refine Run.blk ?_
     refine Run.reg ?_
     refine X.mv ?_
     refine X.ad ?_
     refine X.an ?_
     exact R.ag hag8 (n8 - 1) (z9 + 1) (R.n3 (by first | (rw [hds8]; exact h) | (dsimp only; rw [hds8]; exact h)))
   ·rw [drop_endI hza8 hc12] at h
    rw [w_eqResourceS_L1] at h
    refine Run.exit (by rfl) ?_
    exact R.mt hmeet4 () (Option.some.inj h)
  rintro p16 rfl
  replace h := elimL h
  refine Run.sr ?_
  refine X.an ?_
  cases h
  refine R.f1 Tryz.results43 ?_
  rfl
theorem w_eqProject_pc (b0 : TProject) (b1 : TProject) (r : Bool) (h : w_eqProject b0 b1 = some r) : PC Tryz.prog 11 [eTProject b0, eTProject b1] (bool r) := by
 unfold w_eqProject at h
 refine PC.start Tryz.func11 Tryz.ntmps11 rfl ok11 rfl ?_
 refine Run.sr ?_
 refine X.bx ?_
 refine X.bx ?_
 refine X.an ?_
 refine Run.seq ?_
 refine Run.sr ?_
 refine X.fl fld40_0 ?_
 refine X.ld shp3 ?_
 refine X.fl fld40_0 ?_
 refine X.ld shp3 ?_
 refine X.bi ?_
 refine X.nil ?_
 refine R.cd (fun hc1 => ?_) (fun hc1 => ?_)
 ·replace h := condT hc1 h
  refine Run.sr ?_
  refine X.an ?_
  cases h
  refine R.f1 Tryz.results11 ?_
  rfl
 ·replace h := condF hc1 h
  refine Run.skip ?_
  refine Run.seq ?_
  refine Run.sr ?_
  refine X.fl fld40_1 ?_
  refine X.ld shp36 ?_
  refine X.fl fld40_1 ?_
  refine X.ld shp36 ?_
  obtain ⟨v2, hv2, h⟩ := bindE h
  refine X.cp (w_eqActivityS_pc _ _ _ hv2) ?_
  refine X.un (by rfl) (by rfl) (by rfl) ?_
  refine X.nil ?_
  refine R.cd (fun hc3 => ?_) (fun hc3 => ?_)
  ·replace h := condT hc3 h
   refine Run.sr ?_
   refine X.an ?_
   cases h
   refine R.f1 Tryz.results11 ?_
   rfl
  ·replace h := condF hc3 h
   refine Run.skip ?_
   refine Run.seq ?_
   refine Run.sr ?_
   refine X.fl fld40_2 ?_
   refine X.ld shp37 ?_
   refine X.fl fld40_2 ?_
   refine X.ld shp37 ?_
   obtain ⟨v4, hv4, h⟩ := bindE h
   refine X.cp (w_eqLinkS_pc _ _ _ hv4) ?_
   refine X.un (by rfl) (by rfl) (by rfl) ?_
   refine X.nil ?_
   refine R.cd (fun hc5 => ?_) (fun hc5 => ?_)
   ·replace h := condT hc5 h
    refine Run.sr ?_
    refine X.an ?_
    cases h
    refine R.f1 Tryz.results11 ?_
    rfl
   ·replace h := condF hc5 h
    refine Run.skip ?_
    refine Run.seq ?_
    refine Run.sr ?_
    refine X.fl fld40_3 ?_
    refine X.ld shp38 ?_
    refine X.fl fld40_3 ?_
    refine X.ld shp38 ?_
    obtain ⟨v6, hv6, h⟩ := bindE h
    refine X.cp (w_eqResourceS_pc _ _ _ hv6) ?_
    refine X.un (by rfl) (by rfl) (by rfl) ?_
    refine X.nil ?_
    refine R.cd (fun hc7 => ?_) (fun hc7 => ?_)
    ·replace h := condT hc7 h
     refine Run.sr ?_
     refine X.an ?_
     cases h
     refine R.f1 Tryz.results11 ?_
     rfl
    ·replace h := condF hc7 h
     refine Run.skip ?_
     refine Run.seq ?_
     refine Run.sr ?_
     refine X.fl fld40_4 ?_
     refine X.ld shp25 ?_
     refine X.fl fld40_4 ?_
     refine X.ld shp25 ?_
     obtain ⟨v8, hv8, h⟩ := bindE h
     refine X.cp (w_eqIntS_pc _ _ _ hv8) ?_
     refine X.un (by rfl) (by rfl) (by rfl) ?_
     refine X.nil ?_
     refine R.cd (fun hc9 => ?_) (fun hc9 => ?_)
     ·replace h := condT hc9 h
      refine Run.sr ?_
      refine X.an ?_
      cases h
      refine R.f1 Tryz.results11 ?_
      rfl
     ·replace h := condF hc9 h
      refine Run.skip ?_
      refine Run.sr ?_
      refine X.an ?_
      cases h
      refine R.f1 Tryz.results11 ?_
      rfl
theorem w_eqRule_pc (b0 : TRule) (b1 : TRule) (r : Bool) (h : w_eqRule b0 b1 = some r) : PC Tryz.prog 45 [eTRule b0, eTRule b1] (bool r) := by
 unfold w_eqRule at h
 refine PC.start Tryz.func45 Tryz.ntmps45 rfl ok45 rfl ?_
 refine Run.sr ?_
 refine X.bx ?_
 refine X.bx ?_
 refine X.an ?_
 refine Run.seq ?_
 refine Run.sr ?_
 refine X.fl fld42_0 ?_
 refine X.ld shp3 ?_
 refine X.fl fld42_0 ?_
 refine X.ld shp3 ?_
 refine X.bi ?_
 refine X.nil ?_
 refine R.cd (fun hc1 => ?_) (fun hc1 => ?_)
 ·replace h := condT hc1 h
  refine Run.sr ?_
  refine X.an ?_
  cases h
  refine R.f1 Tryz.results45 ?_
  rfl
 ·replace h := condF hc1 h
  refine Run.skip ?_
  refine Run.seq ?_
  refine Run.sr ?_
  refine X.fl fld42_1 ?_
  refine X.ld shp3 ?_
  refine X.fl fld42_1 ?_
  refine X.ld shp3 ?_
  refine X.bi ?_
  refine X.nil ?_
  refine R.cd (fun hc2 => ?_) (fun hc2 => ?_)
  ·replace h := condT hc2 h
   refine Run.sr ?_
   refine X.an ?_
   cases h
   refine R.f1 Tryz.results45 ?_
   rfl
  ·replace h := condF hc2 h
   refine Run.skip ?_
   refine Run.seq ?_
   refine Run.sr ?_
   refine X.fl fld42_2 ?_
   refine X.ld shp3 ?_
   refine X.fl fld42_2 ?_
   refine X.ld shp3 ?_
   refine X.bi ?_
   refine X.nil ?_
   refine R.cd (fun hc3 => ?_) (fun hc3 => ?_)
   ·replace h := condT hc3 h
    refine Run.sr ?_
    refine X.an ?_
    cases h
    refine R.f1 Tryz.results45 ?_
    rfl
   ·replace h := condF hc3 h
    refine Run.skip ?_
    refine Run.seq ?_
    refine Run.sr ?_
    refine X.fl fld42_3 ?_
    refine X.ld shp3 ?_
    refine X.fl fld42_3 ?_
    refine X.ld shp3 ?_
    refine X.bi ?_
    refine X.nil ?_
    refine R.cd (fun hc4 => ?_) (fun hc4 => ?_)
    ·replace h := condT hc4 h
     refine Run.sr ?_
     refine X.an ?_
     cases h
     refine R.f1 Tryz.results45 ?_
     rfl
    ·replace h := condF hc4 h
     refine Run.skip ?_
     refine Run.sr ?_
     refine X.an ?_
     cases h
     refine R.f1 Tryz.results45 ?_
     rfl
theorem w_eqLiteral_pc (b0 : TLiteral) (b1 : TLiteral) (r : Bool) (h : w_eqLiteral b0 b1 = some r) : PC Tryz.prog 83 [eTLiteral b0, eTLiteral b1] (bool r) := by
 unfold w_eqLiteral at h
 refine PC.start Tryz.func83 Tryz.ntmps83 rfl ok83 rfl ?_
 refine Run.sr ?_
 refine X.bx ?_
 refine X.bx ?_
 refine X.an ?_
 refine Run.seq ?_
 refine Run.sr ?_
 refine X.fl fld106_0 ?_
 refine X.ld shp3 ?_
 refine X.fl fld106_0 ?_
 refine X.ld shp3 ?_
 refine X.bi ?_
 refine X.nil ?_
 refine R.cd (fun hc1 => ?_) (fun hc1 => ?_)
 ·replace h := condT hc1 h
  refine Run.sr ?_
  refine X.an ?_
  cases h
  refine R.f1 Tryz.results83 ?_
  rfl
 ·replace h := condF hc1 h
  refine Run.skip ?_
  refine Run.seq ?_
  refine Run.sr ?_
  refine X.fl fld106_1 ?_
  refine X.ld shp3 ?_
  refine X.fl fld106_1 ?_
  refine X.ld shp3 ?_
  refine X.bi ?_
  refine X.nil ?_
  refine R.cd (fun hc2 => ?_) (fun hc2 => ?_)
  ·replace h := condT hc2 h
   refine Run.sr ?_
   refine X.an ?_
   cases h
   refine R.f1 Tryz.results83 ?_
   rfl
  ·replace h := condF hc2 h
   refine Run.skip ?_
   refine Run.seq ?_
   refine Run.sr ?_
   refine X.fl fld106_2 ?_
   refine X.ld shp3 ?_
   refine X.fl fld106_2 ?_
   refine X.ld shp3 ?_
   refine X.bi ?_
   refine X.nil ?_
   refine R.cd (fun hc3 => ?_) (fun hc3 => ?_)
   ·replace h := condT hc3 h
    refine Run.sr ?_
    refine X.an ?_
    cases h
    refine R.f1 Tryz.results83 ?_
    rfl
   ·replace h := condF hc3 h
    refine Run.skip ?_
    refine Run.sr ?_
    refine X.an ?_
    cases h
    refine R.f1 Tryz.results83 ?_
    rfl
theorem w_eqLiteralS_pc (b0 : List TLiteral) (b1 : List TLiteral) (r : Bool) (h : w_eqLiteralS b0 b1 = some r) : PC Tryz.prog 46 [.slice (b0.map eTLiteral), .slice (b1.map eTLiteral)] (bool r) := by
 unfold w_eqLiteralS at h
 refine PC.start Tryz.func46 Tryz.ntmps46 rfl ok46 rfl ?_
 refine Run.sr ?_
 refine X.an ?_
 refine Run.seq ?_
 refine Run.sr ?_
 refine X.mv ?_
 refine X.ls elt43 ?_
 refine X.mv ?_
 refine X.ls elt43 ?_
 refine X.bi ?_
 refine X.nil ?_
 refine R.cd (fun hc1 => ?_) (fun hc1 => ?_)
 ·replace h := condT hc1 h
  refine Run.sr ?_
  refine X.an ?_
  cases h
  refine R.f1 Tryz.results46 ?_
  rfl
 ·replace h := condF hc1 h
  refine Run.skip ?_
  refine Run.seq ?_
  refine Run.sr ?_
  refine X.an ?_
  obtain ⟨o2, ho2, h⟩ := bindE h
  refine R.join2 (β := Unit) [] [] (fun p16 S => S) (fun p16 M => M) (fun p16 => (Sum.inl p16) = o2) ?_ ?_
  ·intro JJ5 hmeet4
   have hup3 := h; clear h; have h := ho2; clear ho2
   refine Run.block ?_
   refine R.bndS (t := 0) (by rfl) (fun hbd8 => ?_)
   replace hbd8 : b0.length ≤ 9223372036854775807 := by first | (rw [List.length_map] at hbd8; exact hbd8) | simp
   refine R.lp (β := Int) [(0, .slice (b0.map eTLiteral)), (1, .slice (b1.map eTLiteral))] [] (fun bb S => (5, int bb) :: S) (fun bb M => M) (fun n bb => 0 ≤ bb ∧ bb + n = (b0.length : Int) ∧ w_eqLiteralS_L1 b1 (b0.drop bb.toNat) bb = some o2) b0.length (0 : Int) ⟨Int.le_refl _, by simp, h⟩ ?_
   clear h
   rintro JJ8 n8 z9 hag8 ⟨hza8, hzb8, h⟩
   refine Run.seq ?_
   refine Run.sr ?_
   refine X.mv ?_
   refine X.mv ?_
   refine X.ls elt43 ?_
   refine X.bi ?_
   refine X.nil ?_
   refine R.cd (fun hc12 => ?_) (fun hc12 => ?_)
   ·obtain ⟨x10, xs11, hd8, hx8, hds8, hlt8⟩ := drop_atI hza8 hc12
    rw [hd8] at h
    rw [w_eqLiteralS_L1] at h
    refine Run.skip ?_
    refine Run.seq ?_
    refine Run.block ?_
    refine Run.seq ?_
    refine Run.draw (footOf []) mixed (by kernel_rfl) (by kernel_rfl) ?_
    refine X.mv ?_
    refine X.mv ?_
    refine X.ix elt43 (idxL_spec hx8).1 (idxL_map eTLiteral hx8) ?_
    refine X.lc shp106 ?_
    refine X.mv ?_
    refine X.mv ?_
    obtain ⟨v13, hv13, h⟩ := bindE h
    refine X.ix elt43 (idxL_spec hv13).1 (idxL_map eTLiteral hv13) ?_
    refine X.lc shp106 ?_
    obtain ⟨v14, hv14, h⟩ := bindE h
    refine X.cp (w_eqLiteral_pc _ _ _ hv14) ?_
    refine X.un (by rfl) (by rfl) (by rfl) ?_
    refine X.nil ?_
    refine R.cd (fun hc15 => ?_) (fun hc15 => ?_)
    ·replace h := condT hc15 h
     refine Run.sr ?_
     refine X.an ?_
     cases h
     have h := hup3
     replace h := elimR h
     cases h
     refine R.f1 Tryz.results46 ?_
     rfl
    ·replace h := condF hc15 h
     refine Run.skip ?_
     refine Run.blk ?_
     refine Run.reg ?_
     refine X.mv ?_
     refine X.ad ?_
     refine X.an ?_
     exact R.ag hag8 (n8 - 1) (z9 + 1) (R.n3 (by first | (rw [hds8]; exact h) | (dsimp only; rw [hds8]; exact h)))
   ·rw [drop_endI hza8 hc12] at h
    rw [w_eqLiteralS_L1] at h
    refine Run.exit (by rfl) ?_
    exact R.mt hmeet4 () (Option.some.inj h)
  rintro p16 rfl
  replace h := elimL h
  refine Run.sr ?_
  refine X.an ?_
  cases h
  refine R.f1 Tryz.results46 ?_
  rfl
theorem w_eqLine_pc (b0 : TLine) (b1 : TLine) (r : Bool) (h : w_eqLine b0 b1 = some r) : PC Tryz.prog 12 [eTLine b0, eTLine b1] (bool r) := by
 unfold w_eqLine at h
 refine PC.start Tryz.func12 Tryz.ntmps12 rfl ok12 rfl ?_
 refine Run.sr ?_
 refine X.bx ?_
 refine X.bx ?_
 refine X.an ?_
 refine Run.seq ?_
 refine Run.sr ?_
 refine X.fl fld45_0 ?_
 refine X.ld shp3 ?_
 refine X.fl fld45_0 ?_
 refine X.ld shp3 ?_
 refine X.bi ?_
 refine X.nil ?_
 refine R.cd (fun hc1 => ?_) (fun hc1 => ?_)
 ·replace h := condT hc1 h
  refine Run.sr ?_
  refine X.an ?_
  cases h
  refine R.f1 Tryz.results12 ?_
  rfl
 ·replace h := condF hc1 h
  refine Run.skip ?_
  refine Run.seq ?_
  refine Run.sr ?_
  refine X.fl fld45_1 ?_
  refine X.ld shp42 ?_
  refine X.fl fld45_1 ?_
  refine X.ld shp42 ?_
  obtain ⟨v2, hv2, h⟩ := bindE h
  refine X.cp (w_eqRule_pc _ _ _ hv2) ?_
  refine X.un (by rfl) (by rfl) (by rfl) ?_
  refine X.nil ?_
  refine R.cd (fun hc3 => ?_) (fun hc3 => ?_)
  ·replace h := condT hc3 h
   refine Run.sr ?_
   refine X.an ?_
   cases h
   refine R.f1 Tryz.results12 ?_
   rfl
  ·replace h := condF hc3 h
   refine Run.skip ?_
   refine Run.seq ?_
   refine Run.sr ?_
   refine X.fl fld45_2 ?_
   refine X.ld shp43 ?_
   refine X.fl fld45_2 ?_
   refine X.ld shp43 ?_
   obtain ⟨v4, hv4, h⟩ := bindE h
   refine X.cp (w_eqLiteralS_pc _ _ _ hv4) ?_
   refine X.un (by rfl) (by rfl) (by rfl) ?_
   refine X.nil ?_
   refine R.cd (fun hc5 => ?_) (fun hc5 => ?_)
   ·replace h := condT hc5 h
    refine Run.sr ?_
    refine X.an ?_
    cases h
    refine R.f1 Tryz.results12 ?_
    rfl
   ·replace h := condF hc5 h
    refine Run.skip ?_
    refine Run.sr ?_
    refine X.an ?_
    cases h
    refine R.f1 Tryz.results12 ?_
    rfl
end Go.Px.YtbppcgnbkeegbaaGreatDoor
