/-
  PROVED: contracts of functions of the program over pure values. No condition beyond those that each theorem names.
-/
import Derived.Test.YtimegoembedagaaGreatProg
import Derived.Test.YtimegoembedagaaGreatD1
import Derived.Test.YtimegoembedagaaGreatC1
namespace Go.Px.YtimegoembedagaaGreat
set_option linter.unusedSimpArgs false
set_option linter.unusedVariables false
open Go.Px Go.Proofs
theorem slices_IndexFunc_Link_pc (b0 : List TLink) (g1 : TLink → Option Bool) (g1id : Nat) (g1c : List PV) (hg1 : ∀ (x0 : TLink) v, g1 x0 = some v → PC Tryz.prog g1id ([eTLink x0] ++ g1c) (bool v)) (r : Int) (h : slices_IndexFunc_Link b0 g1 = some r) : PC Tryz.prog 126 [.slice (b0.map eTLink), .fn g1id g1c] (int r) := by
 unfold slices_IndexFunc_Link at h
 refine PC.start Tryz.func126 Tryz.ntmps126 rfl ok126 rfl ?_
 refine Run.sr ?_
 refine X.an ?_
 refine Run.seq ?_
 refine Run.sr ?_
 refine X.mv ?_
 refine X.ls elt31 ?_
 refine X.mn ?_
 obtain ⟨o1, ho1, h⟩ := bindE h
 refine R.join2 (β := Unit) [] [] (fun p14 S => S) (fun p14 M => M) (fun p14 => (Sum.inl p14) = o1) ?_ ?_
 ·intro JJ4 hmeet3
  have hup2 := h; clear h; have h := ho1; clear ho1
  refine Run.block ?_
  refine R.bndS (t := 0) (by rfl) (fun hbd7 => ?_)
  replace hbd7 : b0.length ≤ 9223372036854775807 := by first | (rw [List.length_map] at hbd7; exact hbd7) | simp
  refine R.lp (β := Int) [(0, .slice (b0.map eTLink)), (1, .fn g1id g1c), (7, int (b0.length : Int))] [] (fun bb S => (8, int bb) :: S) (fun bb M => M) (fun n bb => 0 ≤ bb ∧ bb + n = (b0.length : Int) ∧ slices_IndexFunc_Link_L1 g1 (b0.drop bb.toNat) bb = some o1) b0.length (0 : Int) ⟨Int.le_refl _, by simp, h⟩ ?_
  clear h
  rintro JJ7 n7 z8 hag7 ⟨hza7, hzb7, h⟩
  refine Run.sr ?_
  refine X.bi ?_
  refine X.nil ?_
  refine Run.seq ?_
  refine R.cd (fun hc11 => ?_) (fun hc11 => ?_)
  ·obtain ⟨x9, xs10, hd7, hx7, hds7, hlt7⟩ := drop_atI hza7 hc11
   rw [hd7] at h
   rw [slices_IndexFunc_Link_L1] at h
   refine Run.skip ?_
   refine Run.seq ?_
   refine Run.block ?_
   refine Run.sr ?_
   refine X.mv ?_
   refine X.an ?_
   refine Run.sr ?_
   refine X.mv ?_
   refine X.mv ?_
   refine X.mv ?_
   refine X.ix elt31 (idxL_spec hx7).1 (idxL_map eTLink hx7) ?_
   refine X.lc shp87 ?_
   obtain ⟨v12, hv12, h⟩ := bindE h
   refine X.cp (hg1 _ _ hv12) ?_
   refine X.nil ?_
   refine R.cd (fun hc13 => ?_) (fun hc13 => ?_)
   ·replace h := condT hc13 h
    refine Run.sr ?_
    refine X.mv ?_
    refine X.an ?_
    cases h
    have h := hup2
    replace h := elimR h
    cases h
    refine R.f1 Tryz.results126 ?_
    rfl
   ·replace h := condF hc13 h
    refine Run.skip ?_
    refine Run.blk ?_
    refine Run.reg ?_
    refine X.ad ?_
    refine X.mn ?_
    exact R.ag hag7 (n7 - 1) (z8 + 1) (R.n3 (by first | (rw [hds7]; exact h) | (dsimp only; rw [hds7]; exact h)))
  ·rw [drop_endI hza7 hc11] at h
   rw [slices_IndexFunc_Link_L1] at h
   refine Run.exit (by rfl) ?_
   exact R.mt hmeet3 () (Option.some.inj h)
 rintro p14 rfl
 replace h := elimL h
 refine Run.sr ?_
 refine X.an ?_
 cases h
 refine R.f1 Tryz.results126 ?_
 rfl
theorem slices_ContainsFunc_Link_pc (b0 : List TLink) (g1 : TLink → Option Bool) (g1id : Nat) (g1c : List PV) (hg1 : ∀ (x0 : TLink) v, g1 x0 = some v → PC Tryz.prog g1id ([eTLink x0] ++ g1c) (bool v)) (r : Bool) (h : slices_ContainsFunc_Link b0 g1 = some r) : PC Tryz.prog 75 [.slice (b0.map eTLink), .fn g1id g1c] (bool r) := by
 unfold slices_ContainsFunc_Link at h
 refine PC.start Tryz.func75 Tryz.ntmps75 rfl ok75 rfl ?_
 refine Run.sr ?_
 refine X.an ?_
 refine Run.sr ?_
 refine X.mv ?_
 refine X.mv ?_
 obtain ⟨v1, hv1, h⟩ := bindE h
 refine X.cp (slices_IndexFunc_Link_pc _ g1 _ _ hg1 _ hv1) ?_
 refine X.bi ?_
 refine X.an ?_
 cases h
 refine R.f1 Tryz.results75 ?_
 rfl
theorem i_ProjectOk_pc (b0 : TProject) (r : Bool) (h : i_ProjectOk b0 = some r) : PC Tryz.prog 33 [eTProject b0] (bool r) := by
 unfold i_ProjectOk at h
 refine PC.start Tryz.func33 Tryz.ntmps33 rfl ok33 rfl ?_
 refine Run.sr ?_
 refine X.bx ?_
 refine X.an ?_
 refine Run.seq ?_
 refine Run.seq ?_
 obtain ⟨v1, hv1, h⟩ := bindE h
 obtain ⟨e2, he2, h2⟩ := bindE h
 refine R.regG [(1, .lptr 64 0), (37, bool e2)] [(64, .blk true [int b0.Deadline, .slice (b0.Activities.map eTActivity), .slice (b0.Links.map eTLink), .slice (b0.Resources.map eTResource), .slice (b0.Stocks.map int)])] ?_ ?_
 ·clear h; have h := he2; clear he2 h2
  refine X.fl fld34_0 ?_
  refine X.ld shp3 ?_
  refine X.cp (i_within_pc _ _ _ _ hv1) ?_
  refine X.un (by rfl) (by rfl) (by rfl) ?_
  refine X.mv ?_
  refine X.iG (fun hb3 => ?_) (fun hb3 => ?_)
  ·replace h := condF hb3 h
   refine X.fl fld34_1 ?_
   refine X.gy ?_
   refine X.ld shp30 ?_
   refine X.gy ?_
   refine X.ls elt30 ?_
   refine X.gy ?_
   obtain ⟨v4, hv4, h⟩ := bindE h
   refine X.cp (i_within_pc _ _ _ _ hv4) ?_
   refine X.gy ?_
   refine X.un (by rfl) (by rfl) (by rfl) ?_
   refine X.pF ?_
   refine X.mv ?_
   refine X.iG (fun hb5 => ?_) (fun hb5 => ?_)
   ·replace h := condF hb5 h
    refine X.fl fld34_3 ?_
    refine X.gy ?_
    refine X.ld shp32 ?_
    refine X.gy ?_
    refine X.ls elt32 ?_
    refine X.gy ?_
    refine X.bi ?_
    refine X.pF ?_
    refine X.mv ?_
    refine X.iG (fun hb6 => ?_) (fun hb6 => ?_)
    ·replace h := condF hb6 h
     refine X.fl fld34_4 ?_
     refine X.gy ?_
     refine X.ld shp25 ?_
     refine X.gy ?_
     refine X.ls elt25 ?_
     refine X.gy ?_
     refine X.bi ?_
     refine X.pF ?_
     refine X.mv ?_
     refine X.iG (fun hb7 => ?_) (fun hb7 => ?_)
     ·replace h := condF hb7 h
      refine X.fl fld34_2 ?_
      refine X.gy ?_
      refine X.ld shp31 ?_
      refine X.gy ?_
      refine X.ls elt31 ?_
      refine X.gy ?_
      refine X.bi ?_
      refine X.pF ?_
      cases h
      exact X.eG
     ·replace h := condT hb7 h
      refine X.gn ?_
      refine X.gn ?_
      refine X.gn ?_
      refine X.pT ?_
      cases h
      exact X.eG
    ·replace h := condT hb6 h
     refine X.gn ?_
     refine X.gn ?_
     refine X.gn ?_
     refine X.pT ?_
     refine X.mv ?_
     refine X.gn ?_
     refine X.gn ?_
     refine X.gn ?_
     refine X.gn ?_
     refine X.pT ?_
     cases h
     exact X.eG
   ·replace h := condT hb5 h
    refine X.gn ?_
    refine X.gn ?_
    refine X.gn ?_
    refine X.pT ?_
    refine X.mv ?_
    refine X.gn ?_
    refine X.gn ?_
    refine X.gn ?_
    refine X.gn ?_
    refine X.pT ?_
    refine X.mv ?_
    refine X.gn ?_
    refine X.gn ?_
    refine X.gn ?_
    refine X.gn ?_
    refine X.pT ?_
    cases h
    exact X.eG
  ·replace h := condT hb3 h
   refine X.gn ?_
   refine X.gn ?_
   refine X.gn ?_
   refine X.gn ?_
   refine X.pT ?_
   refine X.mv ?_
   refine X.gn ?_
   refine X.gn ?_
   refine X.gn ?_
   refine X.gn ?_
   refine X.pT ?_
   refine X.mv ?_
   refine X.gn ?_
   refine X.gn ?_
   refine X.gn ?_
   refine X.gn ?_
   refine X.pT ?_
   refine X.mv ?_
   refine X.gn ?_
   refine X.gn ?_
   refine X.gn ?_
   refine X.gn ?_
   refine X.pT ?_
   cases h
   exact X.eG
 replace h := h2; clear h2
 refine R.cd (fun hc8 => ?_) (fun hc8 => ?_)
 ·replace h := condT hc8 h
  refine Run.sr ?_
  refine X.an ?_
  cases h
  refine R.f1 Tryz.results33 ?_
  rfl
 ·replace h := condF hc8 h
  refine Run.skip ?_
  refine Run.seq ?_
  refine Run.sr ?_
  refine X.fl fld34_1 ?_
  refine X.ld shp30 ?_
  refine X.ls elt30 ?_
  refine X.mn ?_
  obtain ⟨o9, ho9, h⟩ := bindE h
  refine R.join2 (β := Unit) [(1, .lptr 64 0)] [(64, .blk true [int b0.Deadline, .slice (b0.Activities.map eTActivity), .slice (b0.Links.map eTLink), .slice (b0.Resources.map eTResource), .slice (b0.Stocks.map int)])] (fun p25 S => S) (fun p25 M => M) (fun p25 => (Sum.inl p25) = o9) ?_ ?_
  ·intro JJ12 hmeet11
   have hup10 := h; clear h; have h := ho9; clear ho9
   refine Run.block ?_
   refine R.bndS (t := 39) (by rfl) (fun hbd15 => ?_)
   replace hbd15 : b0.Activities.length ≤ 9223372036854775807 := by first | (rw [List.length_map] at hbd15; exact hbd15) | simp
   refine R.lp (β := Int) [(1, .lptr 64 0), (39, .slice (b0.Activities.map eTActivity)), (40, int (b0.Activities.length : Int))] [(64, .blk true [int b0.Deadline, .slice (b0.Activities.map eTActivity), .slice (b0.Links.map eTLink), .slice (b0.Resources.map eTResource), .slice (b0.Stocks.map int)])] (fun bb S => (41, int bb) :: S) (fun bb M => M) (fun n bb => 0 ≤ bb ∧ bb + n = (b0.Activities.length : Int) ∧ i_ProjectOk_L1 b0 (b0.Activities.drop bb.toNat) bb = some o9) b0.Activities.length (0 : Int) ⟨Int.le_refl _, by simp, h⟩ ?_
   clear h
   rintro JJ15 n15 z16 hag15 ⟨hza15, hzb15, h⟩
   refine Run.sr ?_
   refine X.bi ?_
   refine X.nil ?_
   refine Run.seq ?_
   refine R.cd (fun hc19 => ?_) (fun hc19 => ?_)
   ·obtain ⟨x17, xs18, hd15, hx15, hds15, hlt15⟩ := drop_atI hza15 hc19
    rw [hd15] at h
    rw [i_ProjectOk_L1] at h
    refine Run.skip ?_
    refine Run.seq ?_
    refine Run.block ?_
    refine Run.sr ?_
    refine X.mv ?_
    refine X.ix elt30 (idxL_spec hx15).1 (idxL_map eTActivity hx15) ?_
    refine X.lc shp50 ?_
    refine X.alloc zer50 (by rfl) (by rfl) (by rfl) ?_
    refine X.as ?_
    refine X.sl shp50 ?_
    refine X.nil ?_
    refine Run.seq ?_
    obtain ⟨v20, hv20, h⟩ := bindE h
    obtain ⟨e21, he21, h2⟩ := bindE h
    refine R.regG [(1, .lptr 64 0), (39, .slice (b0.Activities.map eTActivity)), (40, int (b0.Activities.length : Int)), (41, int z16), (62, bool e21)] [(64, .blk true [int b0.Deadline, .slice (b0.Activities.map eTActivity), .slice (b0.Links.map eTLink), .slice (b0.Resources.map eTResource), .slice (b0.Stocks.map int)])] ?_ ?_
    ·clear h; have h := he21; clear he21 h2
     refine X.ld shp50 ?_
     refine X.fl fld34_3 ?_
     refine X.ld shp32 ?_
     refine X.ls elt32 ?_
     refine X.fl fld34_4 ?_
     refine X.ld shp25 ?_
     refine X.ls elt25 ?_
     refine X.cp (i_ActivityOk_pc _ _ _ _ hv20) ?_
     refine X.un (by rfl) (by rfl) (by rfl) ?_
     refine X.mv ?_
     refine X.iG (fun hb22 => ?_) (fun hb22 => ?_)
     ·replace h := condF hb22 h
      refine X.ld shp34 ?_
      refine X.gy ?_
      refine X.fl fld50_0 ?_
      refine X.gy ?_
      refine X.ld shp9 ?_
      refine X.gy ?_
      obtain ⟨v23, hv23, h⟩ := bindE h
      refine X.cp (i_ActivityIndex_pc _ _ _ hv23) ?_
      refine X.gy ?_
      refine X.mv ?_
      refine X.gy ?_
      refine X.bi ?_
      refine X.pF ?_
      cases h
      exact X.eG
     ·replace h := condT hb22 h
      refine X.gn ?_
      refine X.gn ?_
      refine X.gn ?_
      refine X.gn ?_
      refine X.gn ?_
      refine X.pT ?_
      cases h
      exact X.eG
    replace h := h2; clear h2
    refine R.cd (fun hc24 => ?_) (fun hc24 => ?_)
    ·replace h := condT hc24 h
     refine Run.sr ?_
     refine X.an ?_
     cases h
     have h := hup10
     replace h := elimR h
     cases h
     refine R.f1 Tryz.results33 ?_
     rfl
    ·replace h := condF hc24 h
     refine Run.skip ?_
     refine Run.blk ?_
     refine Run.reg ?_
     refine X.ad ?_
     refine X.mn ?_
     exact R.ag hag15 (n15 - 1) (z16 + 1) (R.n3 (by first | (rw [hds15]; exact h) | (dsimp only; rw [hds15]; exact h)))
   ·rw [drop_endI hza15 hc19] at h
    rw [i_ProjectOk_L1] at h
    refine Run.exit (by rfl) ?_
    exact R.mt hmeet11 () (Option.some.inj h)
  rintro p25 rfl
  replace h := elimL h
  refine Run.seq ?_
  refine Run.sr ?_
  refine X.fl fld34_3 ?_
  refine X.ld shp32 ?_
  refine X.ls elt32 ?_
  refine X.mn ?_
  obtain ⟨o27, ho27, h⟩ := bindE h
  refine R.join2 (β := Unit) [(1, .lptr 64 0)] [(64, .blk true [int b0.Deadline, .slice (b0.Activities.map eTActivity), .slice (b0.Links.map eTLink), .slice (b0.Resources.map eTResource), .slice (b0.Stocks.map int)])] (fun p40 S => S) (fun p40 M => M) (fun p40 => (Sum.inl p40) = o27) ?_ ?_
  ·intro JJ30 hmeet29
   have hup28 := h; clear h; have h := ho27; clear ho27
   refine Run.block ?_
   refine R.bndS (t := 65) (by rfl) (fun hbd33 => ?_)
   replace hbd33 : b0.Resources.length ≤ 9223372036854775807 := by first | (rw [List.length_map] at hbd33; exact hbd33) | simp
   refine R.lp (β := Int) [(1, .lptr 64 0), (65, .slice (b0.Resources.map eTResource)), (66, int (b0.Resources.length : Int))] [(64, .blk true [int b0.Deadline, .slice (b0.Activities.map eTActivity), .slice (b0.Links.map eTLink), .slice (b0.Resources.map eTResource), .slice (b0.Stocks.map int)])] (fun bb S => (67, int bb) :: S) (fun bb M => M) (fun n bb => 0 ≤ bb ∧ bb + n = (b0.Resources.length : Int) ∧ i_ProjectOk_L2 (b0.Resources.drop bb.toNat) bb = some o27) b0.Resources.length (0 : Int) ⟨Int.le_refl _, by simp, h⟩ ?_
   clear h
   rintro JJ33 n33 z34 hag33 ⟨hza33, hzb33, h⟩
   refine Run.sr ?_
   refine X.bi ?_
   refine X.nil ?_
   refine Run.seq ?_
   refine R.cd (fun hc37 => ?_) (fun hc37 => ?_)
   ·obtain ⟨x35, xs36, hd33, hx33, hds33, hlt33⟩ := drop_atI hza33 hc37
    rw [hd33] at h
    rw [i_ProjectOk_L2] at h
    refine Run.skip ?_
    refine Run.seq ?_
    refine Run.block ?_
    refine Run.sr ?_
    refine X.ix elt32 (idxL_spec hx33).1 (idxL_map eTResource hx33) ?_
    refine X.lc shp61 ?_
    refine X.alloc zer61 (by rfl) (by rfl) (by rfl) ?_
    refine X.sl shp61 ?_
    refine X.nil ?_
    refine Run.sr ?_
    refine X.ld shp61 ?_
    obtain ⟨v38, hv38, h⟩ := bindE h
    refine X.cp (i_ResourceOk_pc _ _ hv38) ?_
    refine X.un (by rfl) (by rfl) (by rfl) ?_
    refine X.nil ?_
    refine R.cd (fun hc39 => ?_) (fun hc39 => ?_)
    ·replace h := condT hc39 h
     refine Run.sr ?_
     refine X.an ?_
     cases h
     have h := hup28
     replace h := elimR h
     cases h
     refine R.f1 Tryz.results33 ?_
     rfl
    ·replace h := condF hc39 h
     refine Run.skip ?_
     refine Run.blk ?_
     refine Run.reg ?_
     refine X.ad ?_
     refine X.mn ?_
     exact R.ag hag33 (n33 - 1) (z34 + 1) (R.n3 (by first | (rw [hds33]; exact h) | (dsimp only; rw [hds33]; exact h)))
   ·rw [drop_endI hza33 hc37] at h
    rw [i_ProjectOk_L2] at h
    refine Run.exit (by rfl) ?_
    exact R.mt hmeet29 () (Option.some.inj h)
  rintro p40 rfl
  replace h := elimL h
  refine Run.seq ?_
  refine Run.sr ?_
  refine X.fl fld34_4 ?_
  refine X.ld shp25 ?_
  refine X.ls elt25 ?_
  refine X.mn ?_
  obtain ⟨o42, ho42, h⟩ := bindE h
  refine R.join2 (β := Unit) [(1, .lptr 64 0)] [(64, .blk true [int b0.Deadline, .slice (b0.Activities.map eTActivity), .slice (b0.Links.map eTLink), .slice (b0.Resources.map eTResource), .slice (b0.Stocks.map int)])] (fun p55 S => S) (fun p55 M => M) (fun p55 => (Sum.inl p55) = o42) ?_ ?_
  ·intro JJ45 hmeet44
   have hup43 := h; clear h; have h := ho42; clear ho42
   refine Run.block ?_
   refine R.bndS (t := 76) (by rfl) (fun hbd48 => ?_)
   replace hbd48 : b0.Stocks.length ≤ 9223372036854775807 := by first | (rw [List.length_map] at hbd48; exact hbd48) | simp
   refine R.lp (β := Int) [(1, .lptr 64 0), (76, .slice (b0.Stocks.map int)), (77, int (b0.Stocks.length : Int))] [(64, .blk true [int b0.Deadline, .slice (b0.Activities.map eTActivity), .slice (b0.Links.map eTLink), .slice (b0.Resources.map eTResource), .slice (b0.Stocks.map int)])] (fun bb S => (78, int bb) :: S) (fun bb M => M) (fun n bb => 0 ≤ bb ∧ bb + n = (b0.Stocks.length : Int) ∧ i_ProjectOk_L3 (b0.Stocks.drop bb.toNat) bb = some o42) b0.Stocks.length (0 : Int) ⟨Int.le_refl _, by simp, h⟩ ?_
   clear h
   rintro JJ48 n48 z49 hag48 ⟨hza48, hzb48, h⟩
   refine Run.sr ?_
   refine X.bi ?_
   refine X.nil ?_
   refine Run.seq ?_
   refine R.cd (fun hc52 => ?_) (fun hc52 => ?_)
   ·obtain ⟨x50, xs51, hd48, hx48, hds48, hlt48⟩ := drop_atI hza48 hc52
    rw [hd48] at h
    rw [i_ProjectOk_L3] at h
    refine Run.skip ?_
    refine Run.seq ?_
    refine Run.block ?_
    refine Run.sr ?_
    refine X.ix elt25 (idxL_spec hx48).1 (idxL_map int hx48) ?_
    refine X.lc shp3 ?_
    refine X.an ?_
    refine Run.sr ?_
    refine X.mv ?_
    obtain ⟨v53, hv53, h⟩ := bindE h
    refine X.cp (i_within_pc _ _ _ _ hv53) ?_
    refine X.un (by rfl) (by rfl) (by rfl) ?_
    refine X.nil ?_
    refine R.cd (fun hc54 => ?_) (fun hc54 => ?_)
    ·replace h := condT hc54 h
     refine Run.sr ?_
     refine X.an ?_
     cases h
     have h := hup43
     replace h := elimR h
     cases h
     refine R.f1 Tryz.results33 ?_
     rfl
    ·replace h := condF hc54 h
     refine Run.skip ?_
     refine Run.blk ?_
     refine Run.reg ?_
     refine X.ad ?_
     refine X.mn ?_
     exact R.ag hag48 (n48 - 1) (z49 + 1) (R.n3 (by first | (rw [hds48]; exact h) | (dsimp only; rw [hds48]; exact h)))
   ·rw [drop_endI hza48 hc52] at h
    rw [i_ProjectOk_L3] at h
    refine Run.exit (by rfl) ?_
    exact R.mt hmeet44 () (Option.some.inj h)
  rintro p55 rfl
  replace h := elimL h
  refine Run.seq ?_
  refine R.pubBlk (n := 64) (by rfl) (by rfl) (by repeat (first | trivial | refine ⟨by first | rfl | simp [setL], ?_⟩)) ?_
  refine Run.reg ?_
  refine X.fl fld34_2 ?_
  refine X.ld shp31 ?_
  refine X.makeFunc (by rfl) (by rfl) (by repeat (first | trivial | refine ⟨by first | rfl | simp [setL], ?_⟩)) (by rfl) (by rfl) ?_
  obtain ⟨v57, hv57, h⟩ := bindE h
  refine X.cp (slices_ContainsFunc_Link_pc _ (fun x0 => i_ProjectOk_c1 x0 b0) _ _ (fun x0 v hv => i_ProjectOk_c1_pc _ _ _ hv) _ hv57) ?_
  refine X.un (by rfl) (by rfl) (by rfl) ?_
  refine X.an ?_
  cases h
  refine R.f1 Tryz.results33 ?_
  rfl
theorem i_IntRange_pc (b0 : Int) (r : List Int) (h : i_IntRange b0 = some r) : PC Tryz.prog 83 [int b0] (.fresh false 3 1 (r.map int)) := by
 unfold i_IntRange at h
 refine PC.start Tryz.func83 Tryz.ntmps83 rfl ok83 rfl ?_
 refine Run.sr ?_
 refine X.an ?_
 refine Run.seq ?_
 refine Run.sr ?_
 refine X.mv ?_
 obtain ⟨v1, hv1, h⟩ := bindE h
 refine X.cp (i_within_pc _ _ _ _ hv1) ?_
 refine X.un (by rfl) (by rfl) (by rfl) ?_
 refine X.nil ?_
 refine R.cd (fun hc2 => ?_) (fun hc2 => ?_)
 ·replace h := condT hc2 h
  refine Run.sr ?_
  refine X.an ?_
  cases h
  refine R.fin1n (x := false) (e := 3) (sz := 1) Tryz.results83 (by rfl) (by decide) ?_
  rfl
 ·replace h := condF hc2 h
  refine Run.skip ?_
  refine Run.sr ?_
  refine X.buildSlice false elt25 zer3 (by rfl) (by rfl) (by rfl) (by rfl) (by rfl) (by rfl) (by repeat (first | trivial | refine ⟨by first | rfl | simp [setL], ?_⟩)) (allSz_spec (by rfl)) (by rfl) (by rfl) (by rfl) ?_
  refine X.an ?_
  refine Run.seq ?_
  refine Run.sr ?_
  refine X.mv ?_
  refine X.mn ?_
  obtain ⟨o3, ho3, h⟩ := bindE h
  refine R.join2 (β := (List Int)) [] [] (fun p15 S => (3, .own 512 (p15.map int).length) :: S) (fun p15 M => (512, .obj false 3 1 (p15.map int)) :: M) (fun p15 => p15 = o3) ?_ ?_
  ·intro JJ6 hmeet5
   have hup4 := h; clear h; have h := ho3; clear ho3
   refine Run.block ?_
   refine R.lp (β := Int × (List Int)) [(9, int b0)] [] (fun bb S => (3, .own 512 (bb.2.map int).length) :: (10, int bb.1) :: S) (fun bb M => (512, .obj false 3 1 (bb.2.map int)) :: M) (fun n bb => i_IntRange_L1 b0 n bb.1 bb.2 = some o3) F0 (0, ([] : List Int)) h ?_
   clear h
   rintro JJ7 n7 ⟨a9, a10⟩ hag7 h
   dsimp only at h
   obtain _ | n7 := n7
   ·exact absurd h (by simp [i_IntRange_L1])
   rw [i_IntRange_L1] at h
   refine Run.sr ?_
   refine X.bi ?_
   refine X.nil ?_
   refine Run.seq ?_
   refine R.cd (fun hc13 => ?_) (fun hc13 => ?_)
   ·replace h := condT hc13 h
    refine Run.skip ?_
    refine Run.seq ?_
    refine Run.block ?_
    refine Run.sr ?_
    refine X.mv ?_
    refine X.an ?_
    refine Run.reg ?_
    refine X.mv ?_
    refine X.mv ?_
    refine X.buildSlice false elt25 zer3 (by rfl) (by rfl) (by rfl) (by rfl) (by rfl) (by rfl) (by repeat (first | trivial | refine ⟨by first | rfl | simp [setL], ?_⟩)) (allSz_spec (by rfl)) (by rfl) (by rfl) (by rfl) ?_
    obtain ⟨v14, hv14, h⟩ := bindE h
    refine X.append elt25 zer3 (by rfl) (by rfl) (by first | rfl | simp [setL] | omega) (by rfl) (.own _ _ _ _ _ _ (look_mem (by rfl)) (by first | rfl | simp [setL] | omega)) (allSz_spec (by rfl)) (appL_len int hv14) (appL_map int hv14) (by rfl) (by rfl) (by rfl) (by rfl) ?_
    refine X.an ?_
    refine Run.blk ?_
    refine Run.reg ?_
    refine X.addW (by rfl) (by rfl) (by rfl) ?_
    refine X.mn ?_
    exact hag7 n7 ((W (a9 + 1)), v14) _ _ (by omega) h (by repeat (first | trivial | refine ⟨by first | rfl | simp [setL], ?_⟩)) (by repeat (first | trivial | refine ⟨by first | rfl | simp [setL], ?_⟩)) (by rfl) (by rfl)
   ·replace h := condF hc13 h
    refine Run.exit (by rfl) ?_
    exact R.mt hmeet5 a10 (Option.some.inj h)
  rintro p15 rfl
  refine Run.sr ?_
  refine X.mv ?_
  refine X.an ?_
  cases h
  refine R.fin1o Tryz.results83 (by rfl) (by rfl) (by first | rfl | simp [setL] | omega) ?_
  rfl
theorem i_ModeIndexes_pc (b0 : TActivity) (r : List Int) (h : i_ModeIndexes b0 = some r) : PC Tryz.prog 36 [eTActivity b0] (.fresh false 3 1 (r.map int)) := by
 unfold i_ModeIndexes at h
 refine PC.start Tryz.func36 Tryz.ntmps36 rfl ok36 rfl ?_
 refine Run.sr ?_
 refine X.bx ?_
 refine X.an ?_
 refine Run.sr ?_
 refine X.fl fld50_2 ?_
 refine X.ld shp48 ?_
 refine X.ls elt48 ?_
 obtain ⟨v1, hv1, h⟩ := bindE h
 refine X.callF (i_IntRange_pc _ _ hv1) (by rfl) (by rfl) (by rfl) (by trivial) (by rfl) (by rfl) (by rfl) (by rfl) ?_
 refine X.an ?_
 cases h
 refine R.fin1o Tryz.results36 (by rfl) (by rfl) (by first | rfl | simp [setL] | omega) ?_
 rfl
theorem slices_Index_int_pc (b0 : List Int) (b1 : Int) (r : Int) (h : slices_Index_int b0 b1 = some r) : PC Tryz.prog 165 [.slice (b0.map int), int b1] (int r) := by
 unfold slices_Index_int at h
 refine PC.start Tryz.func165 Tryz.ntmps165 rfl ok165 rfl ?_
 refine Run.sr ?_
 refine X.an ?_
 refine Run.seq ?_
 refine Run.sr ?_
 refine X.mv ?_
 refine X.ls elt25 ?_
 refine X.mn ?_
 obtain ⟨o1, ho1, h⟩ := bindE h
 refine R.join2 (β := Unit) [] [] (fun p13 S => S) (fun p13 M => M) (fun p13 => (Sum.inl p13) = o1) ?_ ?_
 ·intro JJ4 hmeet3
  have hup2 := h; clear h; have h := ho1; clear ho1
  refine Run.block ?_
  refine R.bndS (t := 0) (by rfl) (fun hbd7 => ?_)
  replace hbd7 : b0.length ≤ 9223372036854775807 := by first | (rw [List.length_map] at hbd7; exact hbd7) | simp
  refine R.lp (β := Int) [(0, .slice (b0.map int)), (1, int b1), (7, int (b0.length : Int))] [] (fun bb S => (8, int bb) :: S) (fun bb M => M) (fun n bb => 0 ≤ bb ∧ bb + n = (b0.length : Int) ∧ slices_Index_int_L1 b1 (b0.drop bb.toNat) bb = some o1) b0.length (0 : Int) ⟨Int.le_refl _, by simp, h⟩ ?_
  clear h
  rintro JJ7 n7 z8 hag7 ⟨hza7, hzb7, h⟩
  refine Run.sr ?_
  refine X.bi ?_
  refine X.nil ?_
  refine Run.seq ?_
  refine R.cd (fun hc11 => ?_) (fun hc11 => ?_)
  ·obtain ⟨x9, xs10, hd7, hx7, hds7, hlt7⟩ := drop_atI hza7 hc11
   rw [hd7] at h
   rw [slices_Index_int_L1] at h
   refine Run.skip ?_
   refine Run.seq ?_
   refine Run.block ?_
   refine Run.sr ?_
   refine X.mv ?_
   refine X.an ?_
   refine Run.sr ?_
   refine X.mv ?_
   refine X.mv ?_
   refine X.mv ?_
   refine X.ix elt25 (idxL_spec hx7).1 (idxL_map int hx7) ?_
   refine X.lc shp3 ?_
   refine X.bi ?_
   refine X.nil ?_
   refine R.cd (fun hc12 => ?_) (fun hc12 => ?_)
   ·replace h := condT hc12 h
    refine Run.sr ?_
    refine X.mv ?_
    refine X.an ?_
    cases h
    have h := hup2
    replace h := elimR h
    cases h
    refine R.f1 Tryz.results165 ?_
    rfl
   ·replace h := condF hc12 h
    refine Run.skip ?_
    refine Run.blk ?_
    refine Run.reg ?_
    refine X.ad ?_
    refine X.mn ?_
    exact R.ag hag7 (n7 - 1) (z8 + 1) (R.n3 (by first | (rw [hds7]; exact h) | (dsimp only; rw [hds7]; exact h)))
  ·rw [drop_endI hza7 hc11] at h
   rw [slices_Index_int_L1] at h
   refine Run.exit (by rfl) ?_
   exact R.mt hmeet3 () (Option.some.inj h)
 rintro p13 rfl
 replace h := elimL h
 refine Run.sr ?_
 refine X.an ?_
 cases h
 refine R.f1 Tryz.results165 ?_
 rfl
theorem slices_Contains_int_pc (b0 : List Int) (b1 : Int) (r : Bool) (h : slices_Contains_int b0 b1 = some r) : PC Tryz.prog 148 [.slice (b0.map int), int b1] (bool r) := by
 unfold slices_Contains_int at h
 refine PC.start Tryz.func148 Tryz.ntmps148 rfl ok148 rfl ?_
 refine Run.sr ?_
 refine X.an ?_
 refine Run.sr ?_
 refine X.mv ?_
 refine X.mv ?_
 obtain ⟨v1, hv1, h⟩ := bindE h
 refine X.cp (slices_Index_int_pc _ _ _ hv1) ?_
 refine X.bi ?_
 refine X.an ?_
 cases h
 refine R.f1 Tryz.results148 ?_
 rfl
theorem i_SetHas_pc (b0 : List Int) (b1 : Int) (r : Bool) (h : i_SetHas b0 b1 = some r) : PC Tryz.prog 127 [.slice (b0.map int), int b1] (bool r) := by
 unfold i_SetHas at h
 refine PC.start Tryz.func127 Tryz.ntmps127 rfl ok127 rfl ?_
 refine Run.sr ?_
 refine X.an ?_
 refine Run.sr ?_
 refine X.mv ?_
 refine X.mv ?_
 obtain ⟨v1, hv1, h⟩ := bindE h
 refine X.cp (slices_Contains_int_pc _ _ _ hv1) ?_
 refine X.an ?_
 cases h
 refine R.f1 Tryz.results127 ?_
 rfl
theorem i_chosen_pc (b0 : TActivity) (b1 : List Int) (r : List TMode) (h : i_chosen b0 b1 = some r) : PC Tryz.prog 80 [eTActivity b0, .slice (b1.map int)] (.fresh false 100 3 (r.map eTMode)) := by
 unfold i_chosen at h
 refine PC.start Tryz.func80 Tryz.ntmps80 rfl ok80 rfl ?_
 refine Run.sr ?_
 refine X.bx ?_
 refine X.an ?_
 refine Run.sr ?_
 refine X.buildSlice false elt48 zer100 (by rfl) (by rfl) (by rfl) (by rfl) (by rfl) (by rfl) (by repeat (first | trivial | refine ⟨by first | rfl | simp [setL], ?_⟩)) (allSz_spec (by rfl)) (by rfl) (by rfl) (by rfl) ?_
 refine X.an ?_
 refine Run.seq ?_
 refine Run.sr ?_
 refine X.fl fld50_2 ?_
 refine X.ld shp48 ?_
 refine X.ls elt48 ?_
 refine X.mn ?_
 obtain ⟨o1, ho1, h⟩ := bindE h
 refine R.join2 (β := (List TMode)) [] [] (fun p16 S => (5, .own 512 (p16.map eTMode).length) :: S) (fun p16 M => (512, .obj false 100 3 (p16.map eTMode)) :: M) (fun p16 => p16 = o1) ?_ ?_
 ·intro JJ4 hmeet3
  have hup2 := h; clear h; have h := ho1; clear ho1
  refine Run.block ?_
  refine R.bndS (t := 10) (by rfl) (fun hbd7 => ?_)
  replace hbd7 : b0.Modes.length ≤ 9223372036854775807 := by first | (rw [List.length_map] at hbd7; exact hbd7) | simp
  refine R.lp (β := Int × (List TMode)) [(1, .slice (b1.map int)), (10, .slice (b0.Modes.map eTMode)), (11, int (b0.Modes.length : Int))] [] (fun bb S => (5, .own 512 (bb.2.map eTMode).length) :: (12, int bb.1) :: S) (fun bb M => (512, .obj false 100 3 (bb.2.map eTMode)) :: M) (fun n bb => 0 ≤ bb.1 ∧ bb.1 + n = (b0.Modes.length : Int) ∧ i_chosen_L1 b1 (b0.Modes.drop bb.1.toNat) bb.1 bb.2 = some o1) b0.Modes.length (0, ([] : List TMode)) ⟨Int.le_refl _, by simp, h⟩ ?_
  clear h
  rintro JJ7 n7 ⟨z8, a9⟩ hag7 ⟨hza7, hzb7, h⟩
  dsimp only at hza7 hzb7 h
  refine Run.sr ?_
  refine X.bi ?_
  refine X.nil ?_
  refine Run.seq ?_
  refine R.cd (fun hc12 => ?_) (fun hc12 => ?_)
  ·obtain ⟨x10, xs11, hd7, hx7, hds7, hlt7⟩ := drop_atI hza7 hc12
   rw [hd7] at h
   rw [i_chosen_L1] at h
   refine Run.skip ?_
   refine Run.seq ?_
   refine Run.block ?_
   refine Run.sr ?_
   refine X.mv ?_
   refine X.ix elt48 (idxL_spec hx7).1 (idxL_map eTMode hx7) ?_
   refine X.lc shp100 ?_
   refine X.alloc zer100 (by rfl) (by rfl) (by rfl) ?_
   refine X.as ?_
   refine X.sl shp100 ?_
   refine X.nil ?_
   refine Run.sr ?_
   refine X.mv ?_
   refine X.mv ?_
   obtain ⟨v13, hv13, h⟩ := bindE h
   refine X.cp (i_SetHas_pc _ _ _ hv13) ?_
   refine X.nil ?_
   refine R.cd (fun hc14 => ?_) (fun hc14 => ?_)
   ·replace h := condT hc14 h
    refine Run.reg ?_
    refine X.mv ?_
    refine X.ld shp100 ?_
    refine X.buildSlice false elt48 zer100 (by rfl) (by rfl) (by rfl) (by rfl) (by rfl) (by rfl) (by repeat (first | trivial | refine ⟨by first | rfl | simp [setL], ?_⟩)) (allSz_spec (by rfl)) (by rfl) (by rfl) (by rfl) ?_
    obtain ⟨v15, hv15, h⟩ := bindE h
    refine X.append elt48 zer100 (by rfl) (by rfl) (by first | rfl | simp [setL] | omega) (by rfl) (.own _ _ _ _ _ _ (look_mem (by rfl)) (by first | rfl | simp [setL] | omega)) (allSz_spec (by rfl)) (appL_len eTMode hv15) (appL_map eTMode hv15) (by rfl) (by rfl) (by rfl) (by rfl) ?_
    refine X.an ?_
    refine Run.blk ?_
    refine Run.reg ?_
    refine X.ad ?_
    refine X.mn ?_
    exact R.ag hag7 (n7 - 1) (z8 + 1, v15) (R.n3 (by first | (rw [hds7]; exact h) | (dsimp only; rw [hds7]; exact h)))
   ·replace h := condF hc14 h
    refine Run.skip ?_
    refine Run.blk ?_
    refine Run.reg ?_
    refine X.ad ?_
    refine X.mn ?_
    exact R.ag hag7 (n7 - 1) (z8 + 1, a9) (R.n3 (by first | (rw [hds7]; exact h) | (dsimp only; rw [hds7]; exact h)))
  ·rw [drop_endI hza7 hc12] at h
   rw [i_chosen_L1] at h
   refine Run.exit (by rfl) ?_
   exact R.mt hmeet3 a9 (Option.some.inj h)
 rintro p16 rfl
 refine Run.sr ?_
 refine X.mv ?_
 refine X.an ?_
 cases h
 refine R.fin1o Tryz.results80 (by rfl) (by rfl) (by first | rfl | simp [setL] | omega) ?_
 rfl
theorem i_MinDuration_pc (b0 : TActivity) (b1 : List Int) (r : Int) (h : i_MinDuration b0 b1 = some r) : PC Tryz.prog 100 [eTActivity b0, .slice (b1.map int)] (int r) := by
 unfold i_MinDuration at h
 refine PC.start Tryz.func100 Tryz.ntmps100 rfl ok100 rfl ?_
 refine Run.sr ?_
 refine X.bx ?_
 refine X.an ?_
 refine Run.sr ?_
 refine X.an ?_
 refine Run.seq ?_
 refine Run.sr ?_
 refine X.ld shp50 ?_
 refine X.mv ?_
 obtain ⟨v1, hv1, h⟩ := bindE h
 refine X.callF (i_chosen_pc _ _ _ hv1) (by rfl) (by rfl) (by rfl) (by trivial) (by rfl) (by rfl) (by rfl) (by rfl) ?_
 refine X.len_o elt48 (by rfl) (by rfl) (by first | rfl | simp [setL] | omega) (by first | exact List.length_map .. | rfl) (by rfl) (by rfl) ?_
 refine X.mn ?_
 obtain ⟨o2, ho2, h⟩ := bindE h
 refine R.join2 (β := Int) [] [] (fun p17 S => (5, int p17) :: S) (fun p17 M => M) (fun p17 => p17 = o2) ?_ ?_
 ·intro JJ5 hmeet4
  have hup3 := h; clear h; have h := ho2; clear ho2
  refine Run.block ?_
  refine R.bndO (n := 640) (by rfl) (fun hbd8 => ?_)
  replace hbd8 : v1.length ≤ 9223372036854775807 := by first | (rw [List.length_map] at hbd8; exact hbd8) | simp
  refine R.lp (β := Int × Int) [(11, int (v1.length : Int))] [(640, .obj false 100 3 (v1.map eTMode))] (fun bb S => (5, int bb.2) :: (10, .own 640 (v1.map eTMode).length) :: (12, int bb.1) :: S) (fun bb M => M) (fun n bb => 0 ≤ bb.1 ∧ bb.1 + n = (v1.length : Int) ∧ i_MinDuration_L1 (v1.drop bb.1.toNat) bb.1 bb.2 = some o2) v1.length (0, 0) ⟨Int.le_refl _, by simp, h⟩ ?_
  clear h
  rintro JJ8 n8 ⟨z9, a10⟩ hag8 ⟨hza8, hzb8, h⟩
  dsimp only at hza8 hzb8 h
  refine Run.sr ?_
  refine X.bi ?_
  refine X.nil ?_
  refine Run.seq ?_
  refine R.cd (fun hc13 => ?_) (fun hc13 => ?_)
  ·obtain ⟨x11, xs12, hd8, hx8, hds8, hlt8⟩ := drop_atI hza8 hc13
   rw [hd8] at h
   rw [i_MinDuration_L1] at h
   refine Run.skip ?_
   refine Run.seq ?_
   refine Run.block ?_
   refine Run.sr ?_
   refine X.mv ?_
   refine X.index_o elt48 (by rfl) (by rfl) (by first | rfl | simp [setL] | omega) (by rfl) (idxL_spec hx8).1 (idxL_map eTMode hx8) (by rfl) (by rfl) (by rfl) ?_
   refine X.lc shp100 ?_
   refine X.alloc zer100 (by rfl) (by rfl) (by rfl) ?_
   refine X.as ?_
   refine X.sl shp100 ?_
   refine X.nil ?_
   refine Run.seq ?_
   obtain ⟨e14, he14, h2⟩ := bindE h
   refine R.regG [(5, int a10), (7, .lptr 448 0), (10, .own 640 (v1.map eTMode).length), (11, int (v1.length : Int)), (12, int z9), (24, bool e14)] [(448, .blk true [int x11.Duration, .slice (x11.Usage.map int), .slice (x11.Consumption.map int)]), (640, .obj false 100 3 (v1.map eTMode))] ?_ ?_
   ·clear h; have h := he14; clear he14 h2
    refine X.mv ?_
    refine X.bi ?_
    refine X.mv ?_
    refine X.iG (fun hb15 => ?_) (fun hb15 => ?_)
    ·replace h := condF hb15 h
     refine X.fl fld100_0 ?_
     refine X.gy ?_
     refine X.ld shp3 ?_
     refine X.gy ?_
     refine X.mv ?_
     refine X.gy ?_
     refine X.bi ?_
     refine X.pF ?_
     cases h
     exact X.eG
    ·replace h := condT hb15 h
     refine X.gn ?_
     refine X.gn ?_
     refine X.gn ?_
     refine X.pT ?_
     cases h
     exact X.eG
   replace h := h2; clear h2
   refine R.cd (fun hc16 => ?_) (fun hc16 => ?_)
   ·replace h := condT hc16 h
    refine Run.reg ?_
    refine X.fl fld100_0 ?_
    refine X.ld shp3 ?_
    refine X.an ?_
    refine Run.blk ?_
    refine Run.reg ?_
    refine X.ad ?_
    refine X.mn ?_
    exact R.ag hag8 (n8 - 1) (z9 + 1, x11.Duration) (R.n3 (by first | (rw [hds8]; exact h) | (dsimp only; rw [hds8]; exact h)))
   ·replace h := condF hc16 h
    refine Run.skip ?_
    refine Run.blk ?_
    refine Run.reg ?_
    refine X.ad ?_
    refine X.mn ?_
    exact R.ag hag8 (n8 - 1) (z9 + 1, a10) (R.n3 (by first | (rw [hds8]; exact h) | (dsimp only; rw [hds8]; exact h)))
  ·rw [drop_endI hza8 hc13] at h
   rw [i_MinDuration_L1] at h
   refine Run.exit (by rfl) ?_
   exact R.mt hmeet4 a10 (Option.some.inj h)
 rintro p17 rfl
 refine Run.sr ?_
 refine X.mv ?_
 refine X.an ?_
 cases h
 refine R.f1 Tryz.results100 ?_
 rfl
theorem i_Project_gap_pc (b0 : TProject) (b1 : TLink) (b2 : List Int) (r : Int) (h : i_Project_gap b0 b1 b2 = some r) : PC Tryz.prog 135 [eTProject b0, eTLink b1, .slice (b2.map int)] (int r) := by
 unfold i_Project_gap at h
 refine PC.start Tryz.func135 Tryz.ntmps135 rfl ok135 rfl ?_
 refine Run.sr ?_
 refine X.bx ?_
 refine X.bx ?_
 refine X.an ?_
 refine Run.seq ?_
 refine Run.sr ?_
 refine X.fl fld87_2 ?_
 refine X.ld shp4 ?_
 refine X.nil ?_
 refine R.cd (fun hc1 => ?_) (fun hc1 => ?_)
 ·replace h := condT hc1 h
  refine Run.seq ?_
  refine Run.draw (footOf [(1, ([256], [], [], [])), (3, ([192], [], [], [])), (5, ([256], [], [], []))]) mixed (by kernel_rfl) (by kernel_rfl) ?_
  refine X.fl fld87_3 ?_
  refine X.ld shp3 ?_
  refine X.fl fld34_1 ?_
  refine X.ld shp30 ?_
  refine X.fl fld87_0 ?_
  refine X.ld shp3 ?_
  obtain ⟨v2, hv2, h⟩ := bindE h
  refine X.ix elt30 (idxL_spec hv2).1 (idxL_map eTActivity hv2) ?_
  refine X.lc shp50 ?_
  refine X.mv ?_
  obtain ⟨v3, hv3, h⟩ := bindE h
  refine X.cp (i_MinDuration_pc _ _ _ hv3) ?_
  refine X.addW (by rfl) (by rfl) (by rfl) ?_
  refine X.an ?_
  cases h
  refine R.f1 Tryz.results135 ?_
  rfl
 ·replace h := condF hc1 h
  refine Run.skip ?_
  refine Run.sr ?_
  refine X.fl fld87_3 ?_
  refine X.ld shp3 ?_
  refine X.an ?_
  cases h
  refine R.f1 Tryz.results135 ?_
  rfl
theorem i_Project_fullGap_pc (b0 : TProject) (b1 : TLink) (r : Int) (h : i_Project_fullGap b0 b1 = some r) : PC Tryz.prog 95 [eTProject b0, eTLink b1] (int r) := by
 unfold i_Project_fullGap at h
 refine PC.start Tryz.func95 Tryz.ntmps95 rfl ok95 rfl ?_
 refine Run.sr ?_
 refine X.bx ?_
 refine X.bx ?_
 refine X.an ?_
 refine Run.seq ?_
 refine Run.draw (footOf [(0, ([128], [], [], [])), (1, ([192], [], [], [])), (3, ([128], [], [], [])), (5, ([192], [], [], [])), (8, ([], [832], [], [])), (9, ([832], [], [], []))]) mixed (by kernel_rfl) (by kernel_rfl) ?_
 refine X.ld shp34 ?_
 refine X.ld shp87 ?_
 refine X.fl fld34_1 ?_
 refine X.ld shp30 ?_
 refine X.fl fld87_0 ?_
 refine X.ld shp3 ?_
 obtain ⟨v1, hv1, h⟩ := bindE h
 refine X.ix elt30 (idxL_spec hv1).1 (idxL_map eTActivity hv1) ?_
 refine X.lc shp50 ?_
 obtain ⟨v2, hv2, h⟩ := bindE h
 refine X.callF (i_ModeIndexes_pc _ _ hv2) (by rfl) (by rfl) (by rfl) (by trivial) (by rfl) (by rfl) (by rfl) (by rfl) ?_
 obtain ⟨v3, hv3, h⟩ := bindE h
 refine X.cp (i_Project_gap_pc _ _ _ _ hv3) ?_
 refine X.an ?_
 cases h
 refine R.f1 Tryz.results95 ?_
 rfl
theorem slices_Clone_int_pc (b0 : List Int) (r : List Int) (h : slices_Clone_int b0 = some r) : PC Tryz.prog 153 [.slice (b0.map int)] (.fresh false 3 1 (r.map int)) := by
 unfold slices_Clone_int at h
 refine PC.split (fun hl ad cap => ?_) (fun hl => ?_)
 ·refine PC.start Tryz.func153 Tryz.ntmps153 rfl ok153 rfl ?_
  refine Run.sr ?_
  refine X.an ?_
  refine Run.seq ?_
  refine Run.sr ?_
  refine X.mv ?_
  refine X.eqlNilL elt25 (by rfl) (by rfl) (by rfl) ?_
  refine X.nil ?_
  refine R.cd (fun hc => ?_) (fun hc => ?_)
  ·refine Run.sr ?_
   refine X.an ?_
   refine R.fin1n (x := false) (e := 3) (sz := 1) Tryz.results153 (by rfl) (by decide) ?_
   obtain ⟨q, hq, h⟩ := bindE h
   have hqr := Option.some.inj h
   have hz : r = [] := by rw [← hqr, (appL_spec hq).2, List.map_eq_nil_iff.1 hl]; rfl
   rw [hz]; rfl
  ·refine Run.skip ?_
   refine R.slice0 (t := 0) (l := b0.map int) hl (by rfl) ?_
   refine Run.sr ?_
   refine X.buildSlice false elt25 zer3 (by rfl) (by rfl) (by rfl) (by rfl) (by rfl) (by rfl) (by repeat (first | trivial | refine ⟨by first | rfl | simp [setL], ?_⟩)) (allSz_spec (by rfl)) (by rfl) (by rfl) (by rfl) ?_
   refine X.mv ?_
   obtain ⟨v1, hv1, h⟩ := bindE h
   refine X.append elt25 zer3 (by rfl) (by rfl) (by first | rfl | simp [setL] | omega) (by rfl) (.pure _) (by exact cells_map (f := int) (fun _ => rfl)) (appL_len int hv1) (appL_map int hv1) (by rfl) (by rfl) (by rfl) (by rfl) ?_
   refine X.an ?_
   cases h
   refine R.fin1o Tryz.results153 (by rfl) (by rfl) (by first | rfl | simp [setL] | omega) ?_
   rfl
 ·refine PC.start Tryz.func153 Tryz.ntmps153 rfl ok153 rfl ?_
  refine Run.sr ?_
  refine X.an ?_
  refine Run.seq ?_
  refine Run.sr ?_
  refine X.mv ?_
  refine X.eqlNilS elt25 (by rfl) (.pure _) (.inl hl) (by rfl) (by rfl) ?_
  refine X.nil ?_
  refine R.condF (b := (b0.map int).isEmpty) (by simpa using hl) (by rfl) ?_
  refine Run.skip ?_
  refine Run.sr ?_
  refine X.buildSlice false elt25 zer3 (by rfl) (by rfl) (by rfl) (by rfl) (by rfl) (by rfl) (by repeat (first | trivial | refine ⟨by first | rfl | simp [setL], ?_⟩)) (allSz_spec (by rfl)) (by rfl) (by rfl) (by rfl) ?_
  refine X.mv ?_
  obtain ⟨v1, hv1, h⟩ := bindE h
  refine X.append elt25 zer3 (by rfl) (by rfl) (by first | rfl | simp [setL] | omega) (by rfl) (.pure _) (by exact cells_map (f := int) (fun _ => rfl)) (appL_len int hv1) (appL_map int hv1) (by rfl) (by rfl) (by rfl) (by rfl) ?_
  refine X.an ?_
  cases h
  refine R.fin1o Tryz.results153 (by rfl) (by rfl) (by first | rfl | simp [setL] | omega) ?_
  rfl
theorem i_Project_cycle_S_pc (rec : TProject → (List Int) → (List Int) → Int → Int → Option (List Int)) (hrec : ∀ (b0 : TProject) (b1 : List Int) (b2 : List Int) (b3 : Int) (b4 : Int) (r : List Int), rec b0 b1 b2 b3 b4 = some r → PC Tryz.prog 134 [eTProject b0, .slice (b1.map int), .slice (b2.map int), int b3, int b4] (nilsV (r.map int))) (b0 : TProject) (b1 : List Int) (b2 : List Int) (b3 : Int) (b4 : Int) (r : List Int) (h : i_Project_cycle_S rec b0 b1 b2 b3 b4 = some r) : PC Tryz.prog 134 [eTProject b0, .slice (b1.map int), .slice (b2.map int), int b3, int b4] (nilsV (r.map int)) := by
 unfold i_Project_cycle_S at h
 refine PC.start Tryz.func134 Tryz.ntmps134 rfl ok134 rfl ?_
 refine Run.sr ?_
 refine X.bx ?_
 refine X.an ?_
 refine Run.seq ?_
 refine Run.draw2 (footOf [(1, ([320], [], [], [])), (8, ([320], [], [], [])), (17, ([704], [704], [], [])), (18, ([768], [768], [], [])), (19, ([704], [704], [], [])), (20, ([768], [768], [], []))]) mixed (by kernel_rfl) (by kernel_rfl) ?_
 refine X.fl fld34_2 ?_
 refine X.ld shp31 ?_
 refine X.mv ?_
 obtain ⟨v1, hv1, h⟩ := bindE h
 refine X.ix elt25 (idxL_spec hv1).1 (idxL_map int hv1) ?_
 refine X.lc shp3 ?_
 obtain ⟨v2, hv2, h⟩ := bindE h
 refine X.ix elt31 (idxL_spec hv2).1 (idxL_map eTLink hv2) ?_
 refine X.lc shp87 ?_
 refine X.fl fld34_2 ?_
 refine X.ld shp31 ?_
 refine X.mv ?_
 refine X.mv ?_
 refine X.ls elt25 ?_
 refine X.subW (by rfl) (by rfl) (by rfl) ?_
 obtain ⟨v3, hv3, h⟩ := bindE h
 refine X.ix elt25 (idxL_spec hv3).1 (idxL_map int hv3) ?_
 refine X.lc shp3 ?_
 obtain ⟨v4, hv4, h⟩ := bindE h
 refine X.ix elt31 (idxL_spec hv4).1 (idxL_map eTLink hv4) ?_
 refine X.lc shp87 ?_
 refine X.alloc zer87 (by rfl) (by rfl) (by rfl) ?_
 refine X.alloc zer87 (by rfl) (by rfl) (by rfl) ?_
 refine X.sl shp87 ?_
 refine X.sl shp87 ?_
 refine X.nil ?_
 refine Run.seq ?_
 refine Run.sr ?_
 refine X.mv ?_
 refine X.ls elt25 ?_
 refine X.mv ?_
 refine X.bi ?_
 refine X.nil ?_
 refine R.cd (fun hc5 => ?_) (fun hc5 => ?_)
 ·replace h := condT hc5 h
  refine Run.seq ?_
  refine Run.seq ?_
  obtain ⟨e6, he6, h2⟩ := bindE h
  refine R.regG [(1, .slice (b1.map int)), (45, bool e6)] [] ?_ ?_
  ·clear h; have h := he6; clear he6 h2
   refine X.fl fld87_1 ?_
   refine X.ld shp3 ?_
   refine X.fl fld87_0 ?_
   refine X.ld shp3 ?_
   refine X.bi ?_
   refine X.mv ?_
   refine X.iG (fun hb7 => ?_) (fun hb7 => ?_)
   ·replace h := condT hb7 h
    refine X.mv ?_
    refine X.gy ?_
    refine X.bi ?_
    refine X.pT ?_
    cases h
    exact X.eG
   ·replace h := condF hb7 h
    refine X.gn ?_
    refine X.pF ?_
    cases h
    exact X.eG
  replace h := h2; clear h2
  refine R.cd (fun hc8 => ?_) (fun hc8 => ?_)
  ·replace h := condT hc8 h
   refine Run.sr ?_
   refine X.mv ?_
   obtain ⟨v9, hv9, h⟩ := bindE h
   refine X.callF (slices_Clone_int_pc _ _ hv9) (by rfl) (by rfl) (by rfl) (by trivial) (by rfl) (by rfl) (by rfl) (by rfl) ?_
   refine X.an ?_
   obtain ⟨v10, hv10, h⟩ := bindE h
   cases h
   refine R.castS (t := 10) _ (by rfl) (.inr (.inr ⟨_, _, _, _, _, rfl, (by rfl), (by first | rfl | simp [setL] | omega), rfl⟩)) ?_
   refine R.f1 Tryz.results134 ?_
   exact neL_map int hv10
  ·replace h := condF hc8 h
   refine Run.skip ?_
   refine Run.sr ?_
   refine X.an ?_
   cases h
   refine R.f1 Tryz.results134 ?_
   rfl
 ·replace h := condF hc5 h
  refine Run.skip ?_
  refine Run.seq ?_
  refine Run.sr ?_
  refine X.mv ?_
  refine X.fl fld87_1 ?_
  refine X.ld shp3 ?_
  obtain ⟨v11, hv11, h⟩ := bindE h
  refine X.cp (slices_Contains_int_pc _ _ _ hv11) ?_
  refine X.nil ?_
  refine R.cd (fun hc12 => ?_) (fun hc12 => ?_)
  ·replace h := condT hc12 h
   refine Run.sr ?_
   refine X.an ?_
   cases h
   refine R.f1 Tryz.results134 ?_
   rfl
  ·replace h := condF hc12 h
   refine Run.skip ?_
   refine Run.seq ?_
   refine Run.sr ?_
   refine X.fl fld34_2 ?_
   refine X.ld shp31 ?_
   refine X.ls elt31 ?_
   refine X.mn ?_
   obtain ⟨o13, ho13, h⟩ := bindE h
   refine R.join2 (β := Unit) [] [] (fun p34 S => S) (fun p34 M => M) (fun p34 => (Sum.inl p34) = o13) ?_ ?_
   ·intro JJ16 hmeet15
    have hup14 := h; clear h; have h := ho13; clear ho13
    refine Run.block ?_
    refine R.bndS (t := 17) (by rfl) (fun hbd19 => ?_)
    replace hbd19 : b0.Links.length ≤ 9223372036854775807 := by first | (rw [List.length_map] at hbd19; exact hbd19) | simp
    refine R.lp (β := Int) [(1, .slice (b1.map int)), (2, .slice (b2.map int)), (3, int b3), (4, int b4), (5, .lptr 320 0), (12, .lptr 768 0), (53, .slice (b0.Links.map eTLink)), (54, int (b0.Links.length : Int))] [(320, .blk true [int b0.Deadline, .slice (b0.Activities.map eTActivity), .slice (b0.Links.map eTLink), .slice (b0.Resources.map eTResource), .slice (b0.Stocks.map int)]), (768, .blk true [int v4.From, int v4.To, bool v4.FromEnd, int v4.Lag])] (fun bb S => (55, int bb) :: S) (fun bb M => M) (fun n bb => 0 ≤ bb ∧ bb + n = (b0.Links.length : Int) ∧ i_Project_cycle_L1 b0 b1 b2 b3 b4 rec v1 v4 (b0.Links.drop bb.toNat) bb = some o13) b0.Links.length (0 : Int) ⟨Int.le_refl _, by simp, h⟩ ?_
    clear h
    rintro JJ19 n19 z20 hag19 ⟨hza19, hzb19, h⟩
    refine Run.sr ?_
    refine X.bi ?_
    refine X.nil ?_
    refine Run.seq ?_
    refine R.cd (fun hc23 => ?_) (fun hc23 => ?_)
    ·obtain ⟨x21, xs22, hd19, hx19, hds19, hlt19⟩ := drop_atI hza19 hc23
     rw [hd19] at h
     rw [i_Project_cycle_L1] at h
     refine Run.skip ?_
     refine Run.seq ?_
     refine Run.block ?_
     refine Run.sr ?_
     refine X.mv ?_
     refine X.ix elt31 (idxL_spec hx19).1 (idxL_map eTLink hx19) ?_
     refine X.lc shp87 ?_
     refine X.alloc zer87 (by rfl) (by rfl) (by rfl) ?_
     refine X.as ?_
     refine X.sl shp87 ?_
     refine X.nil ?_
     refine Run.seq ?_
     obtain ⟨e24, he24, h2⟩ := bindE h
     refine R.regG [(1, .slice (b1.map int)), (2, .slice (b2.map int)), (3, int b3), (4, int b4), (5, .lptr 320 0), (12, .lptr 768 0), (13, int z20), (14, .lptr 896 0), (53, .slice (b0.Links.map eTLink)), (54, int (b0.Links.length : Int)), (55, int z20), (71, bool e24)] [(320, .blk true [int b0.Deadline, .slice (b0.Activities.map eTActivity), .slice (b0.Links.map eTLink), .slice (b0.Resources.map eTResource), .slice (b0.Stocks.map int)]), (768, .blk true [int v4.From, int v4.To, bool v4.FromEnd, int v4.Lag]), (896, .blk true [int x21.From, int x21.To, bool x21.FromEnd, int x21.Lag])] ?_ ?_
     ·clear h; have h := he24; clear he24 h2
      refine X.mv ?_
      refine X.mv ?_
      refine X.ix elt25 (idxL_spec hv1).1 (idxL_map int hv1) ?_
      refine X.lc shp3 ?_
      refine X.bi ?_
      refine X.mv ?_
      refine X.iG (fun hb25 => ?_) (fun hb25 => ?_)
      ·replace h := condT hb25 h
       refine X.fl fld87_0 ?_
       refine X.gy ?_
       refine X.ld shp3 ?_
       refine X.gy ?_
       refine X.fl fld87_1 ?_
       refine X.gy ?_
       refine X.ld shp3 ?_
       refine X.gy ?_
       refine X.bi ?_
       refine X.pT ?_
       cases h
       exact X.eG
      ·replace h := condF hb25 h
       refine X.gn ?_
       refine X.gn ?_
       refine X.gn ?_
       refine X.gn ?_
       refine X.pF ?_
       cases h
       exact X.eG
     replace h := h2; clear h2
     refine R.cd (fun hc26 => ?_) (fun hc26 => ?_)
     ·replace h := condT hc26 h
      refine Run.seq ?_
      refine Run.draw2 (footOf [(0, ([320], [], [], [])), (2, ([], [4736], [], [])), (4, ([4864], [4864], [], [])), (5, ([4736, 4864], [4736], [], [])), (7, ([], [5056], [], [])), (9, ([768], [], [], [])), (10, ([5248], [5248], [], [])), (11, ([5056, 5248], [5056], [], [])), (13, ([320], [], [], [])), (14, ([896], [], [], [])), (18, ([4736, 5056], [], [], []))]) mixed (by kernel_rfl) (by kernel_rfl) ?_
      refine X.ld shp34 ?_
      refine X.mv ?_
      obtain ⟨v27, hv27, h⟩ := bindE h
      refine X.callF (slices_Clone_int_pc _ _ hv27) (by rfl) (by rfl) (by rfl) (by trivial) (by rfl) (by rfl) (by rfl) (by rfl) ?_
      refine X.mv ?_
      refine X.buildSlice false elt25 zer3 (by rfl) (by rfl) (by rfl) (by rfl) (by rfl) (by rfl) (by repeat (first | trivial | refine ⟨by first | rfl | simp [setL], ?_⟩)) (allSz_spec (by rfl)) (by rfl) (by rfl) (by rfl) ?_
      obtain ⟨v28, hv28, h⟩ := bindE h
      refine X.append elt25 zer3 (by rfl) (by rfl) (by first | rfl | simp [setL] | omega) (by rfl) (.own _ _ _ _ _ _ (look_mem (by rfl)) (by first | rfl | simp [setL] | omega)) (allSz_spec (by rfl)) (appL_len int hv28) (appL_map int hv28) (by rfl) (by rfl) (by rfl) (by rfl) ?_
      refine X.mv ?_
      obtain ⟨v29, hv29, h⟩ := bindE h
      refine X.callF (slices_Clone_int_pc _ _ hv29) (by rfl) (by rfl) (by rfl) (by trivial) (by rfl) (by rfl) (by rfl) (by rfl) ?_
      refine X.fl fld87_1 ?_
      refine X.ld shp3 ?_
      refine X.buildSlice false elt25 zer3 (by rfl) (by rfl) (by rfl) (by rfl) (by rfl) (by rfl) (by repeat (first | trivial | refine ⟨by first | rfl | simp [setL], ?_⟩)) (allSz_spec (by rfl)) (by rfl) (by rfl) (by rfl) ?_
      obtain ⟨v30, hv30, h⟩ := bindE h
      refine X.append elt25 zer3 (by rfl) (by rfl) (by first | rfl | simp [setL] | omega) (by rfl) (.own _ _ _ _ _ _ (look_mem (by rfl)) (by first | rfl | simp [setL] | omega)) (allSz_spec (by rfl)) (appL_len int hv30) (appL_map int hv30) (by rfl) (by rfl) (by rfl) (by rfl) ?_
      refine X.mv ?_
      refine X.ld shp34 ?_
      refine X.ld shp87 ?_
      obtain ⟨v31, hv31, h⟩ := bindE h
      refine X.cp (i_Project_fullGap_pc _ _ _ hv31) ?_
      refine X.addW (by rfl) (by rfl) (by rfl) ?_
      refine X.mv ?_
      obtain ⟨v32, hv32, h⟩ := bindE h
      refine X.callN (hrec _ _ _ _ _ _ hv32) (by rfl) (by rfl) (by rfl) (by repeat (first | trivial | refine ⟨by first | rfl | simp [setL], ?_⟩)) (by rfl) (by rfl) (by rfl) ?_
      refine X.an ?_
      refine Run.sr ?_
      refine X.mv ?_
      refine X.neqN (z := (!(v32.isEmpty))) elt25 (by rfl) (by simp) (by rfl) (by rfl) ?_
      refine X.nil ?_
      refine R.cd (fun hc33 => ?_) (fun hc33 => ?_)
      ·replace h := condT hc33 h
       refine Run.sr ?_
       refine X.mv ?_
       refine X.an ?_
       cases h
       have h := hup14
       replace h := elimR h
       cases h
       refine R.fin1 Tryz.results134 (by rfl) (nilsV_plain _) ?_
       rfl
      ·replace h := condF hc33 h
       refine Run.skip ?_
       refine Run.blk ?_
       refine Run.reg ?_
       refine X.ad ?_
       refine X.mn ?_
       exact R.ag hag19 (n19 - 1) (z20 + 1) (R.n3 (by first | (rw [hds19]; exact h) | (dsimp only; rw [hds19]; exact h)))
     ·replace h := condF hc26 h
      refine Run.skip ?_
      refine Run.blk ?_
      refine Run.reg ?_
      refine X.ad ?_
      refine X.mn ?_
      exact R.ag hag19 (n19 - 1) (z20 + 1) (R.n3 (by first | (rw [hds19]; exact h) | (dsimp only; rw [hds19]; exact h)))
    ·rw [drop_endI hza19 hc23] at h
     rw [i_Project_cycle_L1] at h
     refine Run.exit (by rfl) ?_
     exact R.mt hmeet15 () (Option.some.inj h)
   rintro p34 rfl
   replace h := elimL h
   refine Run.sr ?_
   refine X.an ?_
   cases h
   refine R.f1 Tryz.results134 ?_
   rfl
theorem i_Project_cycle_pc (b0 : TProject) (b1 : List Int) (b2 : List Int) (b3 : Int) (b4 : Int) (r : List Int) (h : i_Project_cycle b0 b1 b2 b3 b4 = some r) : PC Tryz.prog 134 [eTProject b0, .slice (b1.map int), .slice (b2.map int), int b3, int b4] (nilsV (r.map int)) := by
 have key : ∀ (n : Nat) (b0 : TProject) (b1 : List Int) (b2 : List Int) (b3 : Int) (b4 : Int) (r : List Int), i_Project_cycle_R n b0 b1 b2 b3 b4 = some r → PC Tryz.prog 134 [eTProject b0, .slice (b1.map int), .slice (b2.map int), int b3, int b4] (nilsV (r.map int)) := by
  intro n
  induction n with
  | zero => intro b0 b1 b2 b3 b4 r h; cases h
  | succ n ih => intro b0 b1 b2 b3 b4 r h; exact i_Project_cycle_S_pc (i_Project_cycle_R n) ih b0 b1 b2 b3 b4 r h
 exact key F0 b0 b1 b2 b3 b4 r h
theorem i_PositiveCycle_pc (b0 : TProject) (r : List Int) (h : i_PositiveCycle b0 = some r) : PC Tryz.prog 93 [eTProject b0] (nilsV (r.map int)) := by
 unfold i_PositiveCycle at h
 refine PC.start Tryz.func93 Tryz.ntmps93 rfl ok93 rfl ?_
 refine Run.sr ?_
 refine X.bx ?_
 refine X.an ?_
 refine Run.seq ?_
 refine Run.sr ?_
 refine X.ld shp34 ?_
 obtain ⟨v1, hv1, h⟩ := bindE h
 refine X.cp (i_ProjectOk_pc _ _ hv1) ?_
 refine X.un (by rfl) (by rfl) (by rfl) ?_
 refine X.nil ?_
 refine R.cd (fun hc2 => ?_) (fun hc2 => ?_)
 ·replace h := condT hc2 h
  refine Run.sr ?_
  refine X.an ?_
  cases h
  refine R.f1 Tryz.results93 ?_
  rfl
 ·replace h := condF hc2 h
  refine Run.skip ?_
  refine Run.seq ?_
  refine Run.sr ?_
  refine X.an ?_
  obtain ⟨o3, ho3, h⟩ := bindE h
  refine R.join2 (β := Unit) [] [] (fun p28 S => S) (fun p28 M => M) (fun p28 => (Sum.inl p28) = o3) ?_ ?_
  ·intro JJ6 hmeet5
   have hup4 := h; clear h; have h := ho3; clear ho3
   refine Run.block ?_
   refine R.lp (β := Int) [(1, .lptr 64 0)] [(64, .blk true [int b0.Deadline, .slice (b0.Activities.map eTActivity), .slice (b0.Links.map eTLink), .slice (b0.Resources.map eTResource), .slice (b0.Stocks.map int)])] (fun bb S => (3, int bb) :: S) (fun bb M => M) (fun n bb => i_PositiveCycle_L1 b0 n bb = some o3) F0 2 h ?_
   clear h
   rintro JJ6 n6 a8 hag6 h
   obtain _ | n6 := n6
   ·exact absurd h (by simp [i_PositiveCycle_L1])
   rw [i_PositiveCycle_L1] at h
   refine Run.seq ?_
   refine Run.sr ?_
   refine X.mv ?_
   refine X.fl fld34_1 ?_
   refine X.ld shp30 ?_
   refine X.ls elt30 ?_
   refine X.bi ?_
   refine X.nil ?_
   refine R.cd (fun hc11 => ?_) (fun hc11 => ?_)
   ·replace h := condT hc11 h
    refine Run.skip ?_
    refine Run.seq ?_
    refine Run.block ?_
    refine Run.sr ?_
    refine X.fl fld34_2 ?_
    refine X.ld shp31 ?_
    refine X.ls elt31 ?_
    refine X.mn ?_
    obtain ⟨o12, ho12, h⟩ := bindE h
    refine R.join2 (β := Unit) [(1, .lptr 64 0), (3, int a8)] [(64, .blk true [int b0.Deadline, .slice (b0.Activities.map eTActivity), .slice (b0.Links.map eTLink), .slice (b0.Resources.map eTResource), .slice (b0.Stocks.map int)])] (fun p26 S => S) (fun p26 M => M) (fun p26 => (Sum.inl p26) = o12) ?_ ?_
    ·intro JJ15 hmeet14
     have hup13 := h; clear h; have h := ho12; clear ho12
     refine Run.block ?_
     refine R.bndS (t := 18) (by rfl) (fun hbd18 => ?_)
     replace hbd18 : b0.Links.length ≤ 9223372036854775807 := by first | (rw [List.length_map] at hbd18; exact hbd18) | simp
     refine R.lp (β := Int) [(1, .lptr 64 0), (3, int a8), (18, .slice (b0.Links.map eTLink)), (19, int (b0.Links.length : Int))] [(64, .blk true [int b0.Deadline, .slice (b0.Activities.map eTActivity), .slice (b0.Links.map eTLink), .slice (b0.Resources.map eTResource), .slice (b0.Stocks.map int)])] (fun bb S => (20, int bb) :: S) (fun bb M => M) (fun n bb => 0 ≤ bb ∧ bb + n = (b0.Links.length : Int) ∧ i_PositiveCycle_L2 b0 a8 (b0.Links.drop bb.toNat) bb = some o12) b0.Links.length (0 : Int) ⟨Int.le_refl _, by simp, h⟩ ?_
     clear h
     rintro JJ18 n18 z19 hag18 ⟨hza18, hzb18, h⟩
     refine Run.sr ?_
     refine X.bi ?_
     refine X.nil ?_
     refine Run.seq ?_
     refine R.cd (fun hc22 => ?_) (fun hc22 => ?_)
     ·obtain ⟨x20, xs21, hd18, hx18, hds18, hlt18⟩ := drop_atI hza18 hc22
      rw [hd18] at h
      rw [i_PositiveCycle_L2] at h
      refine Run.skip ?_
      refine Run.seq ?_
      refine Run.block ?_
      refine Run.sr ?_
      refine X.mv ?_
      refine X.ix elt31 (idxL_spec hx18).1 (idxL_map eTLink hx18) ?_
      refine X.lc shp87 ?_
      refine X.alloc zer87 (by rfl) (by rfl) (by rfl) ?_
      refine X.as ?_
      refine X.sl shp87 ?_
      refine X.nil ?_
      refine Run.seq ?_
      refine Run.draw (footOf [(0, ([64], [], [], [])), (2, ([1728], [1728], [], [])), (4, ([320], [], [], [])), (5, ([1920], [1920], [], [])), (6, ([64], [], [], [])), (7, ([320], [], [], [])), (10, ([1728, 1920], [], [], []))]) mixed (by kernel_rfl) (by kernel_rfl) ?_
      refine X.ld shp34 ?_
      refine X.mv ?_
      refine X.buildSlice false elt25 zer3 (by rfl) (by rfl) (by rfl) (by rfl) (by rfl) (by rfl) (by repeat (first | trivial | refine ⟨by first | rfl | simp [setL], ?_⟩)) (allSz_spec (by rfl)) (by rfl) (by rfl) (by rfl) ?_
      refine X.fl fld87_0 ?_
      refine X.ld shp3 ?_
      refine X.buildSlice false elt25 zer3 (by rfl) (by rfl) (by rfl) (by rfl) (by rfl) (by rfl) (by repeat (first | trivial | refine ⟨by first | rfl | simp [setL], ?_⟩)) (allSz_spec (by rfl)) (by rfl) (by rfl) (by rfl) ?_
      refine X.ld shp34 ?_
      refine X.ld shp87 ?_
      obtain ⟨v23, hv23, h⟩ := bindE h
      refine X.cp (i_Project_fullGap_pc _ _ _ hv23) ?_
      refine X.mv ?_
      obtain ⟨v24, hv24, h⟩ := bindE h
      refine X.callN (i_Project_cycle_pc _ _ _ _ _ _ hv24) (by rfl) (by rfl) (by rfl) (by repeat (first | trivial | refine ⟨by first | rfl | simp [setL], ?_⟩)) (by rfl) (by rfl) (by rfl) ?_
      refine X.an ?_
      refine Run.sr ?_
      refine X.mv ?_
      refine X.neqN (z := (!(v24.isEmpty))) elt25 (by rfl) (by simp) (by rfl) (by rfl) ?_
      refine X.nil ?_
      refine R.cd (fun hc25 => ?_) (fun hc25 => ?_)
      ·replace h := condT hc25 h
       refine Run.sr ?_
       refine X.mv ?_
       refine X.an ?_
       cases h
       have h := hup13
       replace h := elimR h
       cases h
       have h := hup4
       replace h := elimR h
       cases h
       refine R.fin1 Tryz.results93 (by rfl) (nilsV_plain _) ?_
       rfl
      ·replace h := condF hc25 h
       refine Run.skip ?_
       refine Run.blk ?_
       refine Run.reg ?_
       refine X.ad ?_
       refine X.mn ?_
       exact R.ag hag18 (n18 - 1) (z19 + 1) (R.n3 (by first | (rw [hds18]; exact h) | (dsimp only; rw [hds18]; exact h)))
     ·rw [drop_endI hza18 hc22] at h
      rw [i_PositiveCycle_L2] at h
      refine Run.exit (by rfl) ?_
      exact R.mt hmeet14 () (Option.some.inj h)
    rintro p26 rfl
    replace h := elimL h
    refine Run.blk ?_
    refine Run.reg ?_
    refine X.mv ?_
    refine X.addW (by rfl) (by rfl) (by rfl) ?_
    refine X.an ?_
    exact hag6 n6 (W (a8 + 1)) _ _ (by omega) h (by trivial) (by trivial) (by rfl) (by rfl)
   ·replace h := condF hc11 h
    refine Run.exit (by rfl) ?_
    exact R.mt hmeet5 () (Option.some.inj h)
  rintro p28 rfl
  replace h := elimL h
  refine Run.sr ?_
  refine X.an ?_
  cases h
  refine R.f1 Tryz.results93 ?_
  rfl
theorem i_Distances_c1_pc (b0 : Int) (b1 : Int) (b2 : Int) (c3 : List (List Bool)) (c4 : List (List Int)) (r : (List (List Bool)) × (List (List Int))) (h : i_Distances_c1 b0 b1 b2 c3 c4 = some r) : PCM Tryz.prog 94 [int b0, int b1, int b2, .lptr 63 0, .lptr 127 0] (clo2 112 1 25 1 (c3.map (fun r => rowN 4 1 (List.map bool r))) (c4.map (fun r => rowN 3 1 (List.map int r))) (c3.map (fun r => rowN 4 1 (List.map bool r))).length (c4.map (fun r => rowN 3 1 (List.map int r))).length) (.tuple []) (clo2 112 1 25 1 (r.1.map (fun r => rowN 4 1 (List.map bool r))) (r.2.map (fun r => rowN 3 1 (List.map int r))) (r.1.map (fun r => rowN 4 1 (List.map bool r))).length (r.2.map (fun r => rowN 3 1 (List.map int r))).length) := by
 unfold i_Distances_c1 at h
 refine PCM.startClo Tryz.func94 Tryz.ntmps94 rfl ok94 (by rfl) ?_
 refine Run.seq ?_
 obtain ⟨v1, hv1, h⟩ := bindE h
 obtain ⟨v2, hv2, h⟩ := bindE h
 obtain ⟨v3, hv3, h⟩ := bindE h
 obtain ⟨e4, he4, h2⟩ := bindE h
 refine R.regG [(0, int b0), (1, int b1), (2, int b2), (3, .lptr 63 0), (4, .lptr 127 0), (26, bool e4)] [(63, .blk true [.tref 191 (c3.map (fun r => rowN 4 1 (List.map bool r))).length .out]), (127, .blk true [.tref 255 (c4.map (fun r => rowN 3 1 (List.map int r))).length .out]), (191, .tre 112 1 (c3.map (fun r => rowN 4 1 (List.map bool r)))), (255, .tre 25 1 (c4.map (fun r => rowN 3 1 (List.map int r))))] ?_ ?_
 ·clear h; have h := he4; clear he4 h2
  refine X.ld shp111 ?_
  refine X.mv ?_
  refine X.idxT2 (l := c3.map (fun r => rowN 4 1 (List.map bool r))) elt111 (by rfl) (by rfl) (by rfl) ⟨(idxL_spec hv1).1, by have h0 := (idxL_spec hv1).1; have h1 := idxL_lt hv1; rw [List.length_map]; (try dsimp only); omega⟩ (by first | rfl | simp [setL] | omega) (by rfl) (by rfl) ?_
  refine X.ldRow2 (sz := 1) shp112 (by rfl) (by rfl) (rowN_at (f := bool) (e := 4) (sz := 1) hv1 (neL_ne hv2)) (by first | rfl | simp [setL] | omega) (by rfl) (by rfl) ?_
  refine X.mv ?_
  refine X.idxR2 (l := c3.map (fun r => rowN 4 1 (List.map bool r))) (rl := v1.map bool) elt112 (by rfl) (by rfl) (by rfl) (rowN_at (f := bool) (e := 4) (sz := 1) hv1 (neL_ne hv2)) ⟨(idxL_spec hv3).1, by have h0 := (idxL_spec hv3).1; have h1 := idxL_lt hv3; rw [List.length_map]; (try dsimp only); omega⟩ (by first | rfl | simp [setL] | omega) (by rfl) (by rfl) ?_
  refine X.ldE2 (sz2 := 1) shp4 (by rfl) (by rfl) (rowN_at (f := bool) (e := 4) (sz := 1) hv1 (neL_ne hv2)) (flat_at2 (off := 0) (by exact cells_map (f := bool) (fun _ => rfl)) (idxL_map bool hv3) (by rfl)) (by first | rfl | simp [setL] | omega) (by rfl) (by rfl) ?_
  refine X.un (by rfl) (by rfl) (by rfl) ?_
  refine X.mv ?_
  refine X.iG (fun hb5 => ?_) (fun hb5 => ?_)
  ·replace h := condF hb5 h
   refine X.mv ?_
   refine X.gy ?_
   refine X.ld shp59 ?_
   refine X.gy ?_
   refine X.mv ?_
   refine X.gy ?_
   obtain ⟨v6, hv6, h⟩ := bindE h
   refine X.idxT2 (l := c4.map (fun r => rowN 3 1 (List.map int r))) elt59 (by rfl) (by rfl) (by rfl) ⟨(idxL_spec hv6).1, by have h0 := (idxL_spec hv6).1; have h1 := idxL_lt hv6; rw [List.length_map]; (try dsimp only); omega⟩ (by first | rfl | simp [setL] | omega) (by rfl) (by rfl) ?_
   refine X.gy ?_
   obtain ⟨v7, hv7, h⟩ := bindE h
   refine X.ldRow2 (sz := 1) shp25 (by rfl) (by rfl) (rowN_at (f := int) (e := 3) (sz := 1) hv6 (neL_ne hv7)) (by first | rfl | simp [setL] | omega) (by rfl) (by rfl) ?_
   refine X.gy ?_
   refine X.mv ?_
   refine X.gy ?_
   obtain ⟨v8, hv8, h⟩ := bindE h
   refine X.idxR2 (l := c4.map (fun r => rowN 3 1 (List.map int r))) (rl := v6.map int) elt25 (by rfl) (by rfl) (by rfl) (rowN_at (f := int) (e := 3) (sz := 1) hv6 (neL_ne hv7)) ⟨(idxL_spec hv8).1, by have h0 := (idxL_spec hv8).1; have h1 := idxL_lt hv8; rw [List.length_map]; (try dsimp only); omega⟩ (by first | rfl | simp [setL] | omega) (by rfl) (by rfl) ?_
   refine X.gy ?_
   refine X.ldE2 (sz2 := 1) shp3 (by rfl) (by rfl) (rowN_at (f := int) (e := 3) (sz := 1) hv6 (neL_ne hv7)) (flat_at2 (off := 0) (by exact cells_map (f := int) (fun _ => rfl)) (idxL_map int hv8) (by rfl)) (by first | rfl | simp [setL] | omega) (by rfl) (by rfl) ?_
   refine X.gy ?_
   refine X.bi ?_
   refine X.pF ?_
   cases h
   exact X.eG
  ·replace h := condT hb5 h
   refine X.gn ?_
   refine X.gn ?_
   refine X.gn ?_
   refine X.gn ?_
   refine X.gn ?_
   refine X.gn ?_
   refine X.gn ?_
   refine X.gn ?_
   refine X.pT ?_
   cases h
   exact X.eG
 replace h := h2; clear h2
 refine R.cd (fun hc9 => ?_) (fun hc9 => ?_)
 ·replace h := condT hc9 h
  refine Run.draw2 (footOf [(0, ([127], [], [], [])), (2, ([255], [], [], [])), (3, ([255], [], [], [])), (5, ([63], [], [], [])), (7, ([191], [], [], [])), (8, ([191], [], [], [])), (11, ([255], [], [], [])), (12, ([255], [255], [], [])), (13, ([191], [], [], [])), (14, ([191], [191], [], []))]) mixed (by kernel_rfl) (by kernel_rfl) ?_
  refine X.ld shp59 ?_
  refine X.mv ?_
  obtain ⟨v10, hv10, h⟩ := bindE h
  refine X.idxT2 (l := c4.map (fun r => rowN 3 1 (List.map int r))) elt59 (by rfl) (by rfl) (by rfl) ⟨(idxL_spec hv10).1, by have h0 := (idxL_spec hv10).1; have h1 := idxL_lt hv10; rw [List.length_map]; (try dsimp only); omega⟩ (by first | rfl | simp [setL] | omega) (by rfl) (by rfl) ?_
  obtain ⟨v11, hv11, h⟩ := bindE h
  refine X.ldRow2 (sz := 1) shp25 (by rfl) (by rfl) (rowN_at (f := int) (e := 3) (sz := 1) hv10 (neL_ne hv11)) (by first | rfl | simp [setL] | omega) (by rfl) (by rfl) ?_
  refine X.mv ?_
  refine X.ld shp111 ?_
  refine X.mv ?_
  refine X.idxT2 (l := c3.map (fun r => rowN 4 1 (List.map bool r))) elt111 (by rfl) (by rfl) (by rfl) ⟨(idxL_spec hv1).1, by have h0 := (idxL_spec hv1).1; have h1 := idxL_lt hv1; rw [List.length_map]; (try dsimp only); omega⟩ (by first | rfl | simp [setL] | omega) (by rfl) (by rfl) ?_
  refine X.ldRow2 (sz := 1) shp112 (by rfl) (by rfl) (rowN_at (f := bool) (e := 4) (sz := 1) hv1 (neL_ne hv2)) (by first | rfl | simp [setL] | omega) (by rfl) (by rfl) ?_
  refine X.mv ?_
  refine X.mv ?_
  obtain ⟨v12, hv12, h⟩ := bindE h
  refine X.idxR2 (l := c4.map (fun r => rowN 3 1 (List.map int r))) (rl := v10.map int) elt25 (by rfl) (by rfl) (by rfl) (rowN_at (f := int) (e := 3) (sz := 1) hv10 (neL_ne hv11)) ⟨(idxL_spec hv12).1, by have h0 := (idxL_spec hv12).1; have h1 := idxL_lt hv12; rw [List.length_map]; (try dsimp only); omega⟩ (by first | rfl | simp [setL] | omega) (by rfl) (by rfl) ?_
  refine X.stE2 (l2 := (setL c4 b0 (setL v10 b1 b2)).map (fun r => rowN 3 1 (List.map int r))) (rl2 := (setL v10 b1 b2).map int) (sz2 := 1) (sz := 1) shp3 (by rfl) (by rfl) (by rfl) (rowN_at (f := int) (e := 3) (sz := 1) hv10 (neL_ne hv11)) (flat_at2 (off := 0) (by exact cells_map (f := int) (fun _ => rfl)) (idxL_map int hv12) (by rfl)) (by simp [setL]) (by exact cells_map (f := int) (fun _ => rfl)) (by rw [← setL_map]; exact flat_setC (by exact cells_map (f := int) (fun _ => rfl)) (idxL_map int hv12) (by rfl) (by decide)) (by simp [setL]) (rowN_all _) (rowN_put (f := int) (e := 3) (sz := 1) hv10 (setL_ne _ _ (neL_ne hv11))) (by first | rfl | simp [setL] | omega) (by rfl) ?_
  refine X.idxR2 (l := c3.map (fun r => rowN 4 1 (List.map bool r))) (rl := v1.map bool) elt112 (by rfl) (by rfl) (by rfl) (rowN_at (f := bool) (e := 4) (sz := 1) hv1 (neL_ne hv2)) ⟨(idxL_spec hv3).1, by have h0 := (idxL_spec hv3).1; have h1 := idxL_lt hv3; rw [List.length_map]; (try dsimp only); omega⟩ (by first | rfl | simp [setL] | omega) (by rfl) (by rfl) ?_
  refine X.stE2 (l2 := (setL c3 b0 (setL v1 b1 true)).map (fun r => rowN 4 1 (List.map bool r))) (rl2 := (setL v1 b1 true).map bool) (sz2 := 1) (sz := 1) shp4 (by rfl) (by rfl) (by rfl) (rowN_at (f := bool) (e := 4) (sz := 1) hv1 (neL_ne hv2)) (flat_at2 (off := 0) (by exact cells_map (f := bool) (fun _ => rfl)) (idxL_map bool hv3) (by rfl)) (by simp [setL]) (by exact cells_map (f := bool) (fun _ => rfl)) (by rw [← setL_map]; exact flat_setC (by exact cells_map (f := bool) (fun _ => rfl)) (idxL_map bool hv3) (by rfl) (by decide)) (by simp [setL]) (rowN_all _) (rowN_put (f := bool) (e := 4) (sz := 1) hv1 (setL_ne _ _ (neL_ne hv2))) (by first | rfl | simp [setL] | omega) (by rfl) ?_
  refine X.nil ?_
  cases h
  refine R.tell (n := 63) (p' := .blk true [.tref 191 ((setL c3 b0 (setL v1 b1 true)).map (fun r => rowN 4 1 (List.map bool r))).length .out]) (by rfl) (by first | rfl | simp [setL]) ?_
  refine R.tell (n := 127) (p' := .blk true [.tref 255 ((setL c4 b0 (setL v10 b1 b2)).map (fun r => rowN 3 1 (List.map int r))).length .out]) (by rfl) (by first | rfl | simp [setL]) ?_
  exact R.endM0 Tryz.results94 (show BackL _ [(63, _), (127, _), (191, _), (255, _)] from ⟨by rfl, by rfl, by rfl, by rfl, trivial⟩) rfl
 ·replace h := condF hc9 h
  refine Run.skip ?_
  cases h
  refine R.tell (n := 63) (p' := .blk true [.tref 191 (c3.map (fun r => rowN 4 1 (List.map bool r))).length .out]) (by rfl) (by first | rfl | simp [setL]) ?_
  refine R.tell (n := 127) (p' := .blk true [.tref 255 (c4.map (fun r => rowN 3 1 (List.map int r))).length .out]) (by rfl) (by first | rfl | simp [setL]) ?_
  exact R.endM0 Tryz.results94 (show BackL _ [(63, _), (127, _), (191, _), (255, _)] from ⟨by rfl, by rfl, by rfl, by rfl, trivial⟩) rfl
theorem i_Distances_pc (b0 : TProject) (r : List (List Int)) (h : i_Distances b0 = some r) : PC Tryz.prog 44 [eTProject b0] (.tre 25 1 (r.map t_int)) := by
 unfold i_Distances at h
 refine PC.start Tryz.func44 Tryz.ntmps44 rfl ok44 rfl ?_
 refine Run.sr ?_
 refine X.bx ?_
 refine X.an ?_
 refine Run.seq ?_
 refine Run.seq ?_
 obtain ⟨v1, hv1, h⟩ := bindE h
 obtain ⟨e2, he2, h2⟩ := bindE h
 refine R.regG [(1, .lptr 64 0), (23, bool e2)] [(64, .blk true [int b0.Deadline, .slice (b0.Activities.map eTActivity), .slice (b0.Links.map eTLink), .slice (b0.Resources.map eTResource), .slice (b0.Stocks.map int)])] ?_ ?_
 ·clear h; have h := he2; clear he2 h2
  refine X.ld shp34 ?_
  refine X.cp (i_ProjectOk_pc _ _ hv1) ?_
  refine X.un (by rfl) (by rfl) (by rfl) ?_
  refine X.mv ?_
  refine X.iG (fun hb3 => ?_) (fun hb3 => ?_)
  ·replace h := condF hb3 h
   refine X.ld shp34 ?_
   refine X.gy ?_
   obtain ⟨v4, hv4, h⟩ := bindE h
   refine X.callN (i_PositiveCycle_pc _ _ hv4) (by rfl) (by rfl) (by rfl) (by trivial) (by rfl) (by rfl) (by rfl) ?_
   refine X.gy ?_
   refine X.lenN (z := (v4.length : Int)) elt25 (by rfl) (by simp) (by rfl) (by rfl) ?_
   refine X.gy ?_
   refine X.bi ?_
   refine X.pF ?_
   cases h
   exact X.eG
  ·replace h := condT hb3 h
   refine X.gn ?_
   refine X.gn ?_
   refine X.gn ?_
   refine X.pT ?_
   cases h
   exact X.eG
 replace h := h2; clear h2
 refine R.cd (fun hc5 => ?_) (fun hc5 => ?_)
 ·replace h := condT hc5 h
  refine Run.sr ?_
  refine X.an ?_
  cases h
  refine R.fin1tn (e := 25) (sz := 1) Tryz.results44 (by rfl) (by decide) ?_
  rfl
 ·replace h := condF hc5 h
  refine Run.skip ?_
  refine Run.sr ?_
  refine X.fl fld34_1 ?_
  refine X.ld shp30 ?_
  refine X.ls elt30 ?_
  refine X.an ?_
  refine Run.seq ?_
  refine Run.draw2 (footOf [(1, ([1792], [1792], [], [])), (3, ([1920], [1920], [], [])), (4, ([256], [256], [], [])), (5, ([320], [320], [], [])), (6, ([256, 1792], [256], [], [])), (7, ([320, 1920], [320], [], []))]) mixed (by kernel_rfl) (by kernel_rfl) ?_
  refine X.mv ?_
  obtain ⟨v6, hv6, h⟩ := bindE h
  refine X.makeT (f := int) (e2 := 3) (sz2 := 1) hv6 elt59 zer25 (by rfl) (by rfl) (by rfl) (by rfl) (by rfl) (by rfl) ?_
  refine X.mv ?_
  obtain ⟨v7, hv7, h⟩ := bindE h
  refine X.makeT (f := bool) (e2 := 4) (sz2 := 1) hv7 elt111 zer112 (by rfl) (by rfl) (by rfl) (by rfl) (by rfl) (by rfl) ?_
  refine X.alloc zer59 (by rfl) (by rfl) (by rfl) ?_
  refine X.alloc zer111 (by rfl) (by rfl) (by rfl) ?_
  refine X.storeT shp59 (by rfl) (by rfl) (by rfl) (by rfl) (by first | rfl | simp [setL] | omega) (by rfl) (by rfl) ?_
  refine X.storeT shp111 (by rfl) (by rfl) (by rfl) (by rfl) (by first | rfl | simp [setL] | omega) (by rfl) (by rfl) ?_
  refine X.nil ?_
  refine Run.seq ?_
  refine Run.sr ?_
  refine X.mv ?_
  refine X.mn ?_
  obtain ⟨o8, ho8, h⟩ := bindE h
  refine R.join2 (β := (List (List Int)) × (List (List Bool))) [(1, .lptr 64 0), (3, int (b0.Activities.length : Int)), (4, .lptr 256 0), (5, .lptr 320 0)] [(64, .blk true [int b0.Deadline, .slice (b0.Activities.map eTActivity), .slice (b0.Links.map eTLink), .slice (b0.Resources.map eTResource), .slice (b0.Stocks.map int)])] (fun p32 S => S) (fun p32 M => (256, .blk true [.tref 1792 (p32.1.map (fun r => rowN 3 1 (List.map int r))).length .out]) :: (1792, .tre 25 1 (p32.1.map (fun r => rowN 3 1 (List.map int r)))) :: (320, .blk true [.tref 1920 (p32.2.map (fun r => rowN 4 1 (List.map bool r))).length .out]) :: (1920, .tre 112 1 (p32.2.map (fun r => rowN 4 1 (List.map bool r)))) :: M) (fun p32 => p32 = o8) ?_ ?_
  ·intro JJ11 hmeet10
   have hup9 := h; clear h; have h := ho8; clear ho8
   refine Run.block ?_
   refine R.bndS (t := 25) (by rfl) (fun hbd14 => ?_)
   replace hbd14 : b0.Activities.length ≤ 9223372036854775807 := by first | (rw [List.length_map] at hbd14; exact hbd14) | simp
   refine R.lp (β := Int × (List (List Int)) × (List (List Bool))) [(1, .lptr 64 0), (3, int (b0.Activities.length : Int)), (4, .lptr 256 0), (5, .lptr 320 0), (31, int (b0.Activities.length : Int))] [(64, .blk true [int b0.Deadline, .slice (b0.Activities.map eTActivity), .slice (b0.Links.map eTLink), .slice (b0.Resources.map eTResource), .slice (b0.Stocks.map int)])] (fun bb S => (32, int bb.1) :: S) (fun bb M => (256, .blk true [.tref 1792 (bb.2.1.map (fun r => rowN 3 1 (List.map int r))).length .out]) :: (1792, .tre 25 1 (bb.2.1.map (fun r => rowN 3 1 (List.map int r)))) :: (320, .blk true [.tref 1920 (bb.2.2.map (fun r => rowN 4 1 (List.map bool r))).length .out]) :: (1920, .tre 112 1 (bb.2.2.map (fun r => rowN 4 1 (List.map bool r)))) :: M) (fun n bb => 0 ≤ bb.1 ∧ bb.1 + n = (b0.Activities.length : Int) ∧ i_Distances_L1 b0 (b0.Activities.drop bb.1.toNat) bb.1 bb.2.1 bb.2.2 = some o8) b0.Activities.length (0, v6, v7) ⟨Int.le_refl _, by simp, h⟩ ?_
   clear h
   rintro JJ14 n14 ⟨z15, a16, a17⟩ hag14 ⟨hza14, hzb14, h⟩
   dsimp only at hza14 hzb14 h
   refine Run.sr ?_
   refine X.bi ?_
   refine X.nil ?_
   refine Run.seq ?_
   refine R.cd (fun hc20 => ?_) (fun hc20 => ?_)
   ·obtain ⟨x18, xs19, hd14, hx14, hds14, hlt14⟩ := drop_atI hza14 hc20
    rw [hd14] at h
    rw [i_Distances_L1] at h
    refine Run.skip ?_
    refine Run.seq ?_
    refine Run.block ?_
    refine Run.sr ?_
    refine X.mv ?_
    refine X.an ?_
    refine Run.seq ?_
    refine Run.draw2 (footOf [(0, ([256], [], [], [])), (2, ([320], [], [], [])), (5, ([2560], [2560], [], [])), (7, ([2688], [2688], [], [])), (8, ([1792], [], [], [])), (9, ([1792, 2560], [1792, 2560], [], [])), (10, ([1920], [], [], [])), (11, ([1920, 2688], [1920, 2688], [], []))]) mixed (by kernel_rfl) (by kernel_rfl) ?_
    refine X.ld shp59 ?_
    refine X.mv ?_
    refine X.ld shp111 ?_
    refine X.mv ?_
    refine X.mv ?_
    obtain ⟨v21, hv21, h⟩ := bindE h
    refine X.makeSlice2 int hv21 elt25 zer3 (by rfl) (by rfl) (by rfl) (by simp [PV.plain]) (by rfl) (by rfl) (by rfl) (by rfl) (by rfl) (by rfl) ?_
    refine X.mv ?_
    obtain ⟨v22, hv22, h⟩ := bindE h
    refine X.makeSlice2 bool hv22 elt112 zer4 (by rfl) (by rfl) (by rfl) (by simp [PV.plain]) (by rfl) (by rfl) (by rfl) (by rfl) (by rfl) (by rfl) ?_
    obtain ⟨v23, hv23, h⟩ := bindE h
    refine X.idxT2 (l := a16.map (fun r => rowN 3 1 (List.map int r))) elt59 (by rfl) (by rfl) (by rfl) ⟨(idxL_spec hv23).1, by have h0 := (idxL_spec hv23).1; have h1 := idxL_lt hv23; rw [List.length_map]; (try dsimp only); omega⟩ (by first | rfl | simp [setL] | omega) (by rfl) (by rfl) ?_
    obtain ⟨v24, hv24, h⟩ := bindE h
    obtain ⟨v25, hv25, h⟩ := bindE h
    refine X.stRow (l2 := (setL a16 z15 v21).map (fun r => rowN 3 1 (List.map int r))) (rl := v21.map int) (sz := 1) shp25 (rowN_at0 (f := int) (e := 3) (sz := 1) hv23 (nilL_spec hv24)) (flat_lit _ (fun _ => (by repeat (first | exact trivial | refine ⟨trivial, ?_⟩)))) (by simp [setL]) (rowN_all _) (rowN_put (f := int) (e := 3) (sz := 1) hv23 (neL_ne hv25)) (by first | rfl | simp [setL] | omega) (by first | rfl | simp [setL] | omega) ?_
    obtain ⟨v26, hv26, h⟩ := bindE h
    refine X.idxT2 (l := a17.map (fun r => rowN 4 1 (List.map bool r))) elt111 (by rfl) (by rfl) (by rfl) ⟨(idxL_spec hv26).1, by have h0 := (idxL_spec hv26).1; have h1 := idxL_lt hv26; rw [List.length_map]; (try dsimp only); omega⟩ (by first | rfl | simp [setL] | omega) (by rfl) (by rfl) ?_
    obtain ⟨v27, hv27, h⟩ := bindE h
    obtain ⟨v28, hv28, h⟩ := bindE h
    refine X.stRow (l2 := (setL a17 z15 v22).map (fun r => rowN 4 1 (List.map bool r))) (rl := v22.map bool) (sz := 1) shp112 (rowN_at0 (f := bool) (e := 4) (sz := 1) hv26 (nilL_spec hv27)) (flat_lit _ (fun _ => (by repeat (first | exact trivial | refine ⟨trivial, ?_⟩)))) (by simp [setL]) (rowN_all _) (rowN_put (f := bool) (e := 4) (sz := 1) hv26 (neL_ne hv28)) (by first | rfl | simp [setL] | omega) (by first | rfl | simp [setL] | omega) ?_
    refine X.nil ?_
    refine Run.reg ?_
    refine X.ld shp111 ?_
    refine X.mv ?_
    obtain ⟨v29, hv29, h⟩ := bindE h
    refine X.idxT2 (l := (setL a17 z15 v22).map (fun r => rowN 4 1 (List.map bool r))) elt111 (by rfl) (by rfl) (by rfl) ⟨(idxL_spec hv29).1, by have h0 := (idxL_spec hv29).1; have h1 := idxL_lt hv29; rw [List.length_map]; (try dsimp only); omega⟩ (by first | rfl | simp [setL] | omega) (by rfl) (by rfl) ?_
    obtain ⟨v30, hv30, h⟩ := bindE h
    refine X.ldRow2 (sz := 1) shp112 (by rfl) (by rfl) (rowN_at (f := bool) (e := 4) (sz := 1) hv29 (neL_ne hv30)) (by first | rfl | simp [setL] | omega) (by rfl) (by rfl) ?_
    refine X.mv ?_
    obtain ⟨v31, hv31, h⟩ := bindE h
    refine X.idxR2 (l := (setL a17 z15 v22).map (fun r => rowN 4 1 (List.map bool r))) (rl := v29.map bool) elt112 (by rfl) (by rfl) (by rfl) (rowN_at (f := bool) (e := 4) (sz := 1) hv29 (neL_ne hv30)) ⟨(idxL_spec hv31).1, by have h0 := (idxL_spec hv31).1; have h1 := idxL_lt hv31; rw [List.length_map]; (try dsimp only); omega⟩ (by first | rfl | simp [setL] | omega) (by rfl) (by rfl) ?_
    refine X.stE2 (l2 := (setL (setL a17 z15 v22) z15 (setL v29 z15 true)).map (fun r => rowN 4 1 (List.map bool r))) (rl2 := (setL v29 z15 true).map bool) (sz2 := 1) (sz := 1) shp4 (by rfl) (by rfl) (by rfl) (rowN_at (f := bool) (e := 4) (sz := 1) hv29 (neL_ne hv30)) (flat_at2 (off := 0) (by exact cells_map (f := bool) (fun _ => rfl)) (idxL_map bool hv31) (by rfl)) (by simp [setL]) (by exact cells_map (f := bool) (fun _ => rfl)) (by rw [← setL_map]; exact flat_setC (by exact cells_map (f := bool) (fun _ => rfl)) (idxL_map bool hv31) (by rfl) (by decide)) (by simp [setL]) (rowN_all _) (rowN_put (f := bool) (e := 4) (sz := 1) hv29 (setL_ne _ _ (neL_ne hv30))) (by first | rfl | simp [setL] | omega) (by rfl) ?_
    refine X.nil ?_
    refine Run.blk ?_
    refine Run.reg ?_
    refine X.ad ?_
    refine X.mn ?_
    refine R.tell (n := 256) (p' := .blk true [.tref 1792 ((setL a16 z15 v21).map (fun r => rowN 3 1 (List.map int r))).length .out]) (by rfl) (by first | rfl | simp [setL]) ?_
    refine R.tell (n := 320) (p' := .blk true [.tref 1920 ((setL (setL a17 z15 v22) z15 (setL v29 z15 true)).map (fun r => rowN 4 1 (List.map bool r))).length .out]) (by rfl) (by first | rfl | simp [setL]) ?_
    exact R.ag hag14 (n14 - 1) (z15 + 1, (setL a16 z15 v21), (setL (setL a17 z15 v22) z15 (setL v29 z15 true))) (R.n3 (by first | (rw [hds14]; exact h) | (dsimp only; rw [hds14]; exact h)))
   ·rw [drop_endI hza14 hc20] at h
    rw [i_Distances_L1] at h
    refine Run.exit (by rfl) ?_
    exact R.mt hmeet10 (a16, a17) (Option.some.inj h)
  rintro p32 rfl
  refine Run.sr ?_
  refine X.makeClo (n := 320) (ns := [256]) (by rfl) (by rfl) ?_
  refine X.an ?_
  refine Run.seq ?_
  refine Run.sr ?_
  refine X.fl fld34_2 ?_
  refine X.ld shp31 ?_
  refine X.ls elt31 ?_
  refine X.mn ?_
  obtain ⟨o33, ho33, h⟩ := bindE h
  refine R.join2 (β := (List (List Int)) × (List (List Bool))) [(3, int (b0.Activities.length : Int)), (4, .lptr 256 0), (5, .lptr 320 0), (7, .tref 320 0 (.clo 94 [256]))] [] (fun p50 S => S) (fun p50 M => (256, .blk true [.tref 1792 (p50.1.map (fun r => rowN 3 1 (List.map int r))).length .out]) :: (1792, .tre 25 1 (p50.1.map (fun r => rowN 3 1 (List.map int r)))) :: (320, .blk true [.tref 1920 (p50.2.map (fun r => rowN 4 1 (List.map bool r))).length .out]) :: (1920, .tre 112 1 (p50.2.map (fun r => rowN 4 1 (List.map bool r)))) :: M) (fun p50 => p50 = o33) ?_ ?_
  ·intro JJ36 hmeet35
   have hup34 := h; clear h; have h := ho33; clear ho33
   refine Run.block ?_
   refine R.bndS (t := 54) (by rfl) (fun hbd39 => ?_)
   replace hbd39 : b0.Links.length ≤ 9223372036854775807 := by first | (rw [List.length_map] at hbd39; exact hbd39) | simp
   refine R.lp (β := Int × (List (List Int)) × (List (List Bool))) [(1, .lptr 64 0), (3, int (b0.Activities.length : Int)), (4, .lptr 256 0), (5, .lptr 320 0), (7, .tref 320 0 (.clo 94 [256])), (54, .slice (b0.Links.map eTLink)), (55, int (b0.Links.length : Int))] [(64, .blk true [int b0.Deadline, .slice (b0.Activities.map eTActivity), .slice (b0.Links.map eTLink), .slice (b0.Resources.map eTResource), .slice (b0.Stocks.map int)])] (fun bb S => (56, int bb.1) :: S) (fun bb M => (256, .blk true [.tref 1792 (bb.2.1.map (fun r => rowN 3 1 (List.map int r))).length .out]) :: (1792, .tre 25 1 (bb.2.1.map (fun r => rowN 3 1 (List.map int r)))) :: (320, .blk true [.tref 1920 (bb.2.2.map (fun r => rowN 4 1 (List.map bool r))).length .out]) :: (1920, .tre 112 1 (bb.2.2.map (fun r => rowN 4 1 (List.map bool r)))) :: M) (fun n bb => 0 ≤ bb.1 ∧ bb.1 + n = (b0.Links.length : Int) ∧ i_Distances_L2 b0 (b0.Links.drop bb.1.toNat) bb.1 bb.2.1 bb.2.2 = some o33) b0.Links.length (0, p32.1, p32.2) ⟨Int.le_refl _, by simp, h⟩ ?_
   clear h
   rintro JJ39 n39 ⟨z40, a41, a42⟩ hag39 ⟨hza39, hzb39, h⟩
   dsimp only at hza39 hzb39 h
   refine Run.sr ?_
   refine X.bi ?_
   refine X.nil ?_
   refine Run.seq ?_
   refine R.cd (fun hc45 => ?_) (fun hc45 => ?_)
   ·obtain ⟨x43, xs44, hd39, hx39, hds39, hlt39⟩ := drop_atI hza39 hc45
    rw [hd39] at h
    rw [i_Distances_L2] at h
    refine Run.skip ?_
    refine Run.seq ?_
    refine Run.block ?_
    refine Run.sr ?_
    refine X.ix elt31 (idxL_spec hx39).1 (idxL_map eTLink hx39) ?_
    refine X.lc shp87 ?_
    refine X.alloc zer87 (by rfl) (by rfl) (by rfl) ?_
    refine X.sl shp87 ?_
    refine X.nil ?_
    refine Run.draw2 (footOf [(2, ([576], [], [], [])), (4, ([576], [], [], [])), (5, ([64], [], [], [])), (6, ([576], [], [], [])), (8, ([256, 320, 1792, 1920], [1792, 1920], [], []))]) mixed (by kernel_rfl) (by kernel_rfl) ?_
    refine X.mv ?_
    refine X.fl fld87_0 ?_
    refine X.ld shp3 ?_
    refine X.fl fld87_1 ?_
    refine X.ld shp3 ?_
    refine X.ld shp34 ?_
    refine X.ld shp87 ?_
    obtain ⟨v46, hv46, h⟩ := bindE h
    refine X.cp (i_Project_fullGap_pc _ _ _ hv46) ?_
    obtain ⟨v47, hv47, h⟩ := bindE h
    obtain ⟨v48, hv48, h⟩ := bindE h
    obtain ⟨v49, hv49, h⟩ := bindE h
    refine X.callClo2 (xs := [int x43.From, int x43.To, int v46]) (i_Distances_c1_pc _ _ _ _ _  _ hv47) (by rfl) (by rfl) (by rfl) (by rfl) (by rfl) (by rfl) (by rfl) (by first | rfl | simp [setL] | omega) (by first | rfl | simp [setL] | omega) (by rfl) (by rfl) (by simp [sameN_len hv48]) (by simp [sameN_len hv49]) (sameN_shape hv48) (sameN_shape hv49) (by rfl) (by rfl) ?_
    refine X.tell (n := 320) (p' := .blk true [.tref 1920 (v47.1.map (fun r => rowN 4 1 (List.map bool r))).length .out]) (by rfl) (by simp [sameN_len hv48, setL]) ?_
    refine X.tell (n := 256) (p' := .blk true [.tref 1792 (v47.2.map (fun r => rowN 3 1 (List.map int r))).length .out]) (by rfl) (by simp [sameN_len hv49, setL]) ?_
    refine X.nil ?_
    refine Run.blk ?_
    refine Run.reg ?_
    refine X.ad ?_
    refine X.mn ?_
    exact R.ag hag39 (n39 - 1) (z40 + 1, v47.2, v47.1) (R.n3 (by first | (rw [hds39]; exact h) | (dsimp only; rw [hds39]; exact h)))
   ·rw [drop_endI hza39 hc45] at h
    rw [i_Distances_L2] at h
    refine Run.exit (by rfl) ?_
    exact R.mt hmeet35 (a41, a42) (Option.some.inj h)
  rintro p50 rfl
  refine Run.seq ?_
  refine Run.sr ?_
  refine X.mv ?_
  refine X.mn ?_
  obtain ⟨o51, ho51, h⟩ := bindE h
  refine R.join2 (β := (List (List Int)) × (List (List Bool))) [(3, int (b0.Activities.length : Int)), (4, .lptr 256 0), (5, .lptr 320 0)] [] (fun p107 S => S) (fun p107 M => (256, .blk true [.tref 1792 (p107.1.map (fun r => rowN 3 1 (List.map int r))).length .out]) :: (1792, .tre 25 1 (p107.1.map (fun r => rowN 3 1 (List.map int r)))) :: (320, .blk true [.tref 1920 (p107.2.map (fun r => rowN 4 1 (List.map bool r))).length .out]) :: (1920, .tre 112 1 (p107.2.map (fun r => rowN 4 1 (List.map bool r)))) :: M) (fun p107 => p107 = o51) ?_ ?_
  ·intro JJ54 hmeet53
   have hup52 := h; clear h; have h := ho51; clear ho51
   refine Run.block ?_
   refine R.lp (β := Int × (List (List Int)) × (List (List Bool))) [(3, int (b0.Activities.length : Int)), (4, .lptr 256 0), (5, .lptr 320 0), (7, .tref 320 0 (.clo 94 [256])), (70, int (b0.Activities.length : Int))] [] (fun bb S => (71, int bb.1) :: S) (fun bb M => (256, .blk true [.tref 1792 (bb.2.1.map (fun r => rowN 3 1 (List.map int r))).length .out]) :: (1792, .tre 25 1 (bb.2.1.map (fun r => rowN 3 1 (List.map int r)))) :: (320, .blk true [.tref 1920 (bb.2.2.map (fun r => rowN 4 1 (List.map bool r))).length .out]) :: (1920, .tre 112 1 (bb.2.2.map (fun r => rowN 4 1 (List.map bool r)))) :: M) (fun n bb => i_Distances_L3 b0 n bb.1 bb.2.1 bb.2.2 = some o51) F0 (0, p50.1, p50.2) h ?_
   clear h
   rintro JJ55 n55 ⟨a57, a58, a59⟩ hag55 h
   dsimp only at h
   obtain _ | n55 := n55
   ·exact absurd h (by simp [i_Distances_L3])
   rw [i_Distances_L3] at h
   refine Run.sr ?_
   refine X.bi ?_
   refine X.nil ?_
   refine Run.seq ?_
   refine R.cd (fun hc62 => ?_) (fun hc62 => ?_)
   ·replace h := condT hc62 h
    refine Run.skip ?_
    refine Run.seq ?_
    refine Run.block ?_
    refine Run.sr ?_
    refine X.mv ?_
    refine X.an ?_
    refine Run.sr ?_
    refine X.mv ?_
    refine X.mn ?_
    obtain ⟨o63, ho63, h⟩ := bindE h
    refine R.join2 (β := (List (List Int)) × (List (List Bool))) [(3, int (b0.Activities.length : Int)), (4, .lptr 256 0), (5, .lptr 320 0), (7, .tref 320 0 (.clo 94 [256])), (70, int (b0.Activities.length : Int)), (71, int a57)] [] (fun p106 S => S) (fun p106 M => (256, .blk true [.tref 1792 (p106.1.map (fun r => rowN 3 1 (List.map int r))).length .out]) :: (1792, .tre 25 1 (p106.1.map (fun r => rowN 3 1 (List.map int r)))) :: (320, .blk true [.tref 1920 (p106.2.map (fun r => rowN 4 1 (List.map bool r))).length .out]) :: (1920, .tre 112 1 (p106.2.map (fun r => rowN 4 1 (List.map bool r)))) :: M) (fun p106 => p106 = o63) ?_ ?_
    ·intro JJ66 hmeet65
     have hup64 := h; clear h; have h := ho63; clear ho63
     refine Run.block ?_
     refine R.lp (β := Int × (List (List Int)) × (List (List Bool))) [(3, int (b0.Activities.length : Int)), (4, .lptr 256 0), (5, .lptr 320 0), (7, .tref 320 0 (.clo 94 [256])), (10, int a57), (70, int (b0.Activities.length : Int)), (71, int a57), (74, int (b0.Activities.length : Int))] [] (fun bb S => (75, int bb.1) :: S) (fun bb M => (256, .blk true [.tref 1792 (bb.2.1.map (fun r => rowN 3 1 (List.map int r))).length .out]) :: (1792, .tre 25 1 (bb.2.1.map (fun r => rowN 3 1 (List.map int r)))) :: (320, .blk true [.tref 1920 (bb.2.2.map (fun r => rowN 4 1 (List.map bool r))).length .out]) :: (1920, .tre 112 1 (bb.2.2.map (fun r => rowN 4 1 (List.map bool r)))) :: M) (fun n bb => i_Distances_L4 b0 a57 n bb.1 bb.2.1 bb.2.2 = some o63) F0 (0, a58, a59) h ?_
     clear h
     rintro JJ67 n67 ⟨a69, a70, a71⟩ hag67 h
     dsimp only at h
     obtain _ | n67 := n67
     ·exact absurd h (by simp [i_Distances_L4])
     rw [i_Distances_L4] at h
     refine Run.sr ?_
     refine X.bi ?_
     refine X.nil ?_
     refine Run.seq ?_
     refine R.cd (fun hc74 => ?_) (fun hc74 => ?_)
     ·replace h := condT hc74 h
      refine Run.skip ?_
      refine Run.seq ?_
      refine Run.block ?_
      refine Run.sr ?_
      refine X.mv ?_
      refine X.an ?_
      refine Run.sr ?_
      refine X.mv ?_
      refine X.mn ?_
      obtain ⟨o75, ho75, h⟩ := bindE h
      refine R.join2 (β := (List (List Int)) × (List (List Bool))) [(3, int (b0.Activities.length : Int)), (4, .lptr 256 0), (5, .lptr 320 0), (7, .tref 320 0 (.clo 94 [256])), (10, int a57), (70, int (b0.Activities.length : Int)), (71, int a57), (74, int (b0.Activities.length : Int)), (75, int a69)] [] (fun p105 S => S) (fun p105 M => (256, .blk true [.tref 1792 (p105.1.map (fun r => rowN 3 1 (List.map int r))).length .out]) :: (1792, .tre 25 1 (p105.1.map (fun r => rowN 3 1 (List.map int r)))) :: (320, .blk true [.tref 1920 (p105.2.map (fun r => rowN 4 1 (List.map bool r))).length .out]) :: (1920, .tre 112 1 (p105.2.map (fun r => rowN 4 1 (List.map bool r)))) :: M) (fun p105 => p105 = o75) ?_ ?_
      ·intro JJ78 hmeet77
       have hup76 := h; clear h; have h := ho75; clear ho75
       refine Run.block ?_
       refine R.lp (β := Int × (List (List Int)) × (List (List Bool))) [(3, int (b0.Activities.length : Int)), (4, .lptr 256 0), (5, .lptr 320 0), (7, .tref 320 0 (.clo 94 [256])), (10, int a57), (11, int a69), (70, int (b0.Activities.length : Int)), (71, int a57), (74, int (b0.Activities.length : Int)), (75, int a69), (78, int (b0.Activities.length : Int))] [] (fun bb S => (79, int bb.1) :: S) (fun bb M => (256, .blk true [.tref 1792 (bb.2.1.map (fun r => rowN 3 1 (List.map int r))).length .out]) :: (1792, .tre 25 1 (bb.2.1.map (fun r => rowN 3 1 (List.map int r)))) :: (320, .blk true [.tref 1920 (bb.2.2.map (fun r => rowN 4 1 (List.map bool r))).length .out]) :: (1920, .tre 112 1 (bb.2.2.map (fun r => rowN 4 1 (List.map bool r)))) :: M) (fun n bb => i_Distances_L5 b0 a57 a69 n bb.1 bb.2.1 bb.2.2 = some o75) F0 (0, a70, a71) h ?_
       clear h
       rintro JJ79 n79 ⟨a81, a82, a83⟩ hag79 h
       dsimp only at h
       obtain _ | n79 := n79
       ·exact absurd h (by simp [i_Distances_L5])
       rw [i_Distances_L5] at h
       refine Run.sr ?_
       refine X.bi ?_
       refine X.nil ?_
       refine Run.seq ?_
       refine R.cd (fun hc86 => ?_) (fun hc86 => ?_)
       ·replace h := condT hc86 h
        refine Run.skip ?_
        refine Run.seq ?_
        refine Run.block ?_
        refine Run.sr ?_
        refine X.mv ?_
        refine X.an ?_
        refine Run.seq ?_
        obtain ⟨v87, hv87, h⟩ := bindE h
        obtain ⟨v88, hv88, h⟩ := bindE h
        obtain ⟨v89, hv89, h⟩ := bindE h
        obtain ⟨e90, he90, h2⟩ := bindE h
        refine R.regG [(3, int (b0.Activities.length : Int)), (4, .lptr 256 0), (5, .lptr 320 0), (7, .tref 320 0 (.clo 94 [256])), (10, int a57), (11, int a69), (12, int a81), (70, int (b0.Activities.length : Int)), (71, int a57), (74, int (b0.Activities.length : Int)), (75, int a69), (78, int (b0.Activities.length : Int)), (79, int a81), (97, bool e90)] [(256, .blk true [.tref 1792 (a82.map (fun r => rowN 3 1 (List.map int r))).length .out]), (1792, .tre 25 1 (a82.map (fun r => rowN 3 1 (List.map int r)))), (320, .blk true [.tref 1920 (a83.map (fun r => rowN 4 1 (List.map bool r))).length .out]), (1920, .tre 112 1 (a83.map (fun r => rowN 4 1 (List.map bool r))))] ?_ ?_
        ·clear h; have h := he90; clear he90 h2
         refine X.ld shp111 ?_
         refine X.mv ?_
         refine X.idxT2 (l := a83.map (fun r => rowN 4 1 (List.map bool r))) elt111 (by rfl) (by rfl) (by rfl) ⟨(idxL_spec hv87).1, by have h0 := (idxL_spec hv87).1; have h1 := idxL_lt hv87; rw [List.length_map]; (try dsimp only); omega⟩ (by first | rfl | simp [setL] | omega) (by rfl) (by rfl) ?_
         refine X.ldRow2 (sz := 1) shp112 (by rfl) (by rfl) (rowN_at (f := bool) (e := 4) (sz := 1) hv87 (neL_ne hv88)) (by first | rfl | simp [setL] | omega) (by rfl) (by rfl) ?_
         refine X.mv ?_
         refine X.idxR2 (l := a83.map (fun r => rowN 4 1 (List.map bool r))) (rl := v87.map bool) elt112 (by rfl) (by rfl) (by rfl) (rowN_at (f := bool) (e := 4) (sz := 1) hv87 (neL_ne hv88)) ⟨(idxL_spec hv89).1, by have h0 := (idxL_spec hv89).1; have h1 := idxL_lt hv89; rw [List.length_map]; (try dsimp only); omega⟩ (by first | rfl | simp [setL] | omega) (by rfl) (by rfl) ?_
         refine X.ldE2 (sz2 := 1) shp4 (by rfl) (by rfl) (rowN_at (f := bool) (e := 4) (sz := 1) hv87 (neL_ne hv88)) (flat_at2 (off := 0) (by exact cells_map (f := bool) (fun _ => rfl)) (idxL_map bool hv89) (by rfl)) (by first | rfl | simp [setL] | omega) (by rfl) (by rfl) ?_
         refine X.mv ?_
         refine X.iG (fun hb91 => ?_) (fun hb91 => ?_)
         ·replace h := condT hb91 h
          refine X.ld shp111 ?_
          refine X.gy ?_
          refine X.mv ?_
          refine X.gy ?_
          obtain ⟨v92, hv92, h⟩ := bindE h
          refine X.idxT2 (l := a83.map (fun r => rowN 4 1 (List.map bool r))) elt111 (by rfl) (by rfl) (by rfl) ⟨(idxL_spec hv92).1, by have h0 := (idxL_spec hv92).1; have h1 := idxL_lt hv92; rw [List.length_map]; (try dsimp only); omega⟩ (by first | rfl | simp [setL] | omega) (by rfl) (by rfl) ?_
          refine X.gy ?_
          obtain ⟨v93, hv93, h⟩ := bindE h
          refine X.ldRow2 (sz := 1) shp112 (by rfl) (by rfl) (rowN_at (f := bool) (e := 4) (sz := 1) hv92 (neL_ne hv93)) (by first | rfl | simp [setL] | omega) (by rfl) (by rfl) ?_
          refine X.gy ?_
          refine X.mv ?_
          refine X.gy ?_
          obtain ⟨v94, hv94, h⟩ := bindE h
          refine X.idxR2 (l := a83.map (fun r => rowN 4 1 (List.map bool r))) (rl := v92.map bool) elt112 (by rfl) (by rfl) (by rfl) (rowN_at (f := bool) (e := 4) (sz := 1) hv92 (neL_ne hv93)) ⟨(idxL_spec hv94).1, by have h0 := (idxL_spec hv94).1; have h1 := idxL_lt hv94; rw [List.length_map]; (try dsimp only); omega⟩ (by first | rfl | simp [setL] | omega) (by rfl) (by rfl) ?_
          refine X.gy ?_
          refine X.ldE2 (sz2 := 1) shp4 (by rfl) (by rfl) (rowN_at (f := bool) (e := 4) (sz := 1) hv92 (neL_ne hv93)) (flat_at2 (off := 0) (by exact cells_map (f := bool) (fun _ => rfl)) (idxL_map bool hv94) (by rfl)) (by first | rfl | simp [setL] | omega) (by rfl) (by rfl) ?_
          refine X.pT ?_
          cases h
          exact X.eG
         ·replace h := condF hb91 h
          refine X.gn ?_
          refine X.gn ?_
          refine X.gn ?_
          refine X.gn ?_
          refine X.gn ?_
          refine X.gn ?_
          refine X.pF ?_
          cases h
          exact X.eG
        replace h := h2; clear h2
        refine R.cd (fun hc95 => ?_) (fun hc95 => ?_)
        ·replace h := condT hc95 h
         refine Run.draw2 (footOf [(3, ([256], [], [], [])), (5, ([1792], [], [], [])), (6, ([1792], [], [], [])), (8, ([1792], [], [], [])), (9, ([1792], [], [], [])), (10, ([256], [], [], [])), (12, ([1792], [], [], [])), (13, ([1792], [], [], [])), (15, ([1792], [], [], [])), (16, ([1792], [], [], [])), (18, ([256, 320, 1792, 1920], [1792, 1920], [], []))]) mixed (by kernel_rfl) (by kernel_rfl) ?_
         refine X.mv ?_
         refine X.mv ?_
         refine X.mv ?_
         refine X.ld shp59 ?_
         refine X.mv ?_
         obtain ⟨v96, hv96, h⟩ := bindE h
         refine X.idxT2 (l := a82.map (fun r => rowN 3 1 (List.map int r))) elt59 (by rfl) (by rfl) (by rfl) ⟨(idxL_spec hv96).1, by have h0 := (idxL_spec hv96).1; have h1 := idxL_lt hv96; rw [List.length_map]; (try dsimp only); omega⟩ (by first | rfl | simp [setL] | omega) (by rfl) (by rfl) ?_
         obtain ⟨v97, hv97, h⟩ := bindE h
         refine X.ldRow2 (sz := 1) shp25 (by rfl) (by rfl) (rowN_at (f := int) (e := 3) (sz := 1) hv96 (neL_ne hv97)) (by first | rfl | simp [setL] | omega) (by rfl) (by rfl) ?_
         refine X.mv ?_
         obtain ⟨v98, hv98, h⟩ := bindE h
         refine X.idxR2 (l := a82.map (fun r => rowN 3 1 (List.map int r))) (rl := v96.map int) elt25 (by rfl) (by rfl) (by rfl) (rowN_at (f := int) (e := 3) (sz := 1) hv96 (neL_ne hv97)) ⟨(idxL_spec hv98).1, by have h0 := (idxL_spec hv98).1; have h1 := idxL_lt hv98; rw [List.length_map]; (try dsimp only); omega⟩ (by first | rfl | simp [setL] | omega) (by rfl) (by rfl) ?_
         refine X.ldE2 (sz2 := 1) shp3 (by rfl) (by rfl) (rowN_at (f := int) (e := 3) (sz := 1) hv96 (neL_ne hv97)) (flat_at2 (off := 0) (by exact cells_map (f := int) (fun _ => rfl)) (idxL_map int hv98) (by rfl)) (by first | rfl | simp [setL] | omega) (by rfl) (by rfl) ?_
         refine X.ld shp59 ?_
         refine X.mv ?_
         obtain ⟨v99, hv99, h⟩ := bindE h
         refine X.idxT2 (l := a82.map (fun r => rowN 3 1 (List.map int r))) elt59 (by rfl) (by rfl) (by rfl) ⟨(idxL_spec hv99).1, by have h0 := (idxL_spec hv99).1; have h1 := idxL_lt hv99; rw [List.length_map]; (try dsimp only); omega⟩ (by first | rfl | simp [setL] | omega) (by rfl) (by rfl) ?_
         obtain ⟨v100, hv100, h⟩ := bindE h
         refine X.ldRow2 (sz := 1) shp25 (by rfl) (by rfl) (rowN_at (f := int) (e := 3) (sz := 1) hv99 (neL_ne hv100)) (by first | rfl | simp [setL] | omega) (by rfl) (by rfl) ?_
         refine X.mv ?_
         obtain ⟨v101, hv101, h⟩ := bindE h
         refine X.idxR2 (l := a82.map (fun r => rowN 3 1 (List.map int r))) (rl := v99.map int) elt25 (by rfl) (by rfl) (by rfl) (rowN_at (f := int) (e := 3) (sz := 1) hv99 (neL_ne hv100)) ⟨(idxL_spec hv101).1, by have h0 := (idxL_spec hv101).1; have h1 := idxL_lt hv101; rw [List.length_map]; (try dsimp only); omega⟩ (by first | rfl | simp [setL] | omega) (by rfl) (by rfl) ?_
         refine X.ldE2 (sz2 := 1) shp3 (by rfl) (by rfl) (rowN_at (f := int) (e := 3) (sz := 1) hv99 (neL_ne hv100)) (flat_at2 (off := 0) (by exact cells_map (f := int) (fun _ => rfl)) (idxL_map int hv101) (by rfl)) (by first | rfl | simp [setL] | omega) (by rfl) (by rfl) ?_
         refine X.addW (by rfl) (by rfl) (by rfl) ?_
         obtain ⟨v102, hv102, h⟩ := bindE h
         obtain ⟨v103, hv103, h⟩ := bindE h
         obtain ⟨v104, hv104, h⟩ := bindE h
         refine X.callClo2 (xs := [int a69, int a81, int (W (v98 + v101))]) (i_Distances_c1_pc _ _ _ _ _  _ hv102) (by rfl) (by rfl) (by rfl) (by rfl) (by rfl) (by rfl) (by rfl) (by first | rfl | simp [setL] | omega) (by first | rfl | simp [setL] | omega) (by rfl) (by rfl) (by simp [sameN_len hv103]) (by simp [sameN_len hv104]) (sameN_shape hv103) (sameN_shape hv104) (by rfl) (by rfl) ?_
         refine X.tell (n := 320) (p' := .blk true [.tref 1920 (v102.1.map (fun r => rowN 4 1 (List.map bool r))).length .out]) (by rfl) (by simp [sameN_len hv103, setL]) ?_
         refine X.tell (n := 256) (p' := .blk true [.tref 1792 (v102.2.map (fun r => rowN 3 1 (List.map int r))).length .out]) (by rfl) (by simp [sameN_len hv104, setL]) ?_
         refine X.nil ?_
         refine Run.blk ?_
         refine Run.reg ?_
         refine X.addW (by rfl) (by rfl) (by rfl) ?_
         refine X.mn ?_
         exact hag79 n79 ((W (a81 + 1)), v102.2, v102.1) _ _ (by omega) h (by repeat (first | trivial | refine ⟨by first | rfl | simp [setL], ?_⟩)) (by repeat (first | trivial | refine ⟨by first | rfl | simp [setL], ?_⟩)) (by rfl) (by rfl)
        ·replace h := condF hc95 h
         refine Run.skip ?_
         refine Run.blk ?_
         refine Run.reg ?_
         refine X.addW (by rfl) (by rfl) (by rfl) ?_
         refine X.mn ?_
         exact hag79 n79 ((W (a81 + 1)), a82, a83) _ _ (by omega) h (by repeat (first | trivial | refine ⟨by first | rfl | simp [setL], ?_⟩)) (by repeat (first | trivial | refine ⟨by first | rfl | simp [setL], ?_⟩)) (by rfl) (by rfl)
       ·replace h := condF hc86 h
        refine Run.exit (by rfl) ?_
        exact R.mt hmeet77 (a82, a83) (Option.some.inj h)
      rintro p105 rfl
      refine Run.blk ?_
      refine Run.reg ?_
      refine X.addW (by rfl) (by rfl) (by rfl) ?_
      refine X.mn ?_
      exact hag67 n67 ((W (a69 + 1)), p105.1, p105.2) _ _ (by omega) h (by repeat (first | trivial | refine ⟨by first | rfl | simp [setL], ?_⟩)) (by repeat (first | trivial | refine ⟨by first | rfl | simp [setL], ?_⟩)) (by rfl) (by rfl)
     ·replace h := condF hc74 h
      refine Run.exit (by rfl) ?_
      exact R.mt hmeet65 (a70, a71) (Option.some.inj h)
    rintro p106 rfl
    refine Run.blk ?_
    refine Run.reg ?_
    refine X.addW (by rfl) (by rfl) (by rfl) ?_
    refine X.mn ?_
    exact hag55 n55 ((W (a57 + 1)), p106.1, p106.2) _ _ (by omega) h (by repeat (first | trivial | refine ⟨by first | rfl | simp [setL], ?_⟩)) (by repeat (first | trivial | refine ⟨by first | rfl | simp [setL], ?_⟩)) (by rfl) (by rfl)
   ·replace h := condF hc62 h
    refine Run.exit (by rfl) ?_
    exact R.mt hmeet53 (a58, a59) (Option.some.inj h)
  rintro p107 rfl
  refine Run.seq ?_
  refine Run.sr ?_
  refine X.mv ?_
  refine X.mn ?_
  obtain ⟨o108, ho108, h⟩ := bindE h
  refine R.join2 (β := (List (List Int))) [(4, .lptr 256 0)] [] (fun p138 S => S) (fun p138 M => (256, .blk true [.tref 1792 (p138.map (fun r => rowN 3 1 (List.map int r))).length .out]) :: (1792, .tre 25 1 (p138.map (fun r => rowN 3 1 (List.map int r)))) :: M) (fun p138 => p138 = o108) ?_ ?_
  ·intro JJ111 hmeet110
   have hup109 := h; clear h; have h := ho108; clear ho108
   refine Run.block ?_
   refine R.lp (β := Int × (List (List Int))) [(3, int (b0.Activities.length : Int)), (4, .lptr 256 0), (5, .lptr 320 0), (120, int (b0.Activities.length : Int))] [(1920, .tre 112 1 (p107.2.map (fun r => rowN 4 1 (List.map bool r))))] (fun bb S => (121, int bb.1) :: S) (fun bb M => (256, .blk true [.tref 1792 (bb.2.map (fun r => rowN 3 1 (List.map int r))).length .out]) :: (1792, .tre 25 1 (bb.2.map (fun r => rowN 3 1 (List.map int r)))) :: (320, .blk true [.tref 1920 (p107.2.map (fun r => rowN 4 1 (List.map bool r))).length .out]) :: M) (fun n bb => i_Distances_L6 b0 p107 n bb.1 bb.2 = some o108) F0 (0, p107.1) h ?_
   clear h
   rintro JJ112 n112 ⟨a114, a115⟩ hag112 h
   dsimp only at h
   obtain _ | n112 := n112
   ·exact absurd h (by simp [i_Distances_L6])
   rw [i_Distances_L6] at h
   refine Run.sr ?_
   refine X.bi ?_
   refine X.nil ?_
   refine Run.seq ?_
   refine R.cd (fun hc118 => ?_) (fun hc118 => ?_)
   ·replace h := condT hc118 h
    refine Run.skip ?_
    refine Run.seq ?_
    refine Run.block ?_
    refine Run.sr ?_
    refine X.mv ?_
    refine X.an ?_
    refine Run.sr ?_
    refine X.mv ?_
    refine X.mn ?_
    obtain ⟨o119, ho119, h⟩ := bindE h
    refine R.join2 (β := (List (List Int))) [(3, int (b0.Activities.length : Int)), (4, .lptr 256 0), (5, .lptr 320 0), (120, int (b0.Activities.length : Int)), (121, int a114)] [(1920, .tre 112 1 (p107.2.map (fun r => rowN 4 1 (List.map bool r))))] (fun p137 S => S) (fun p137 M => (256, .blk true [.tref 1792 (p137.map (fun r => rowN 3 1 (List.map int r))).length .out]) :: (1792, .tre 25 1 (p137.map (fun r => rowN 3 1 (List.map int r)))) :: (320, .blk true [.tref 1920 (p107.2.map (fun r => rowN 4 1 (List.map bool r))).length .out]) :: M) (fun p137 => p137 = o119) ?_ ?_
    ·intro JJ122 hmeet121
     have hup120 := h; clear h; have h := ho119; clear ho119
     refine Run.block ?_
     refine R.lp (β := Int × (List (List Int))) [(3, int (b0.Activities.length : Int)), (4, .lptr 256 0), (5, .lptr 320 0), (13, int a114), (120, int (b0.Activities.length : Int)), (121, int a114), (124, int (b0.Activities.length : Int))] [(1920, .tre 112 1 (p107.2.map (fun r => rowN 4 1 (List.map bool r))))] (fun bb S => (125, int bb.1) :: S) (fun bb M => (256, .blk true [.tref 1792 (bb.2.map (fun r => rowN 3 1 (List.map int r))).length .out]) :: (1792, .tre 25 1 (bb.2.map (fun r => rowN 3 1 (List.map int r)))) :: (320, .blk true [.tref 1920 (p107.2.map (fun r => rowN 4 1 (List.map bool r))).length .out]) :: M) (fun n bb => i_Distances_L7 b0 p107 a114 n bb.1 bb.2 = some o119) F0 (0, a115) h ?_
     clear h
     rintro JJ123 n123 ⟨a125, a126⟩ hag123 h
     dsimp only at h
     obtain _ | n123 := n123
     ·exact absurd h (by simp [i_Distances_L7])
     rw [i_Distances_L7] at h
     refine Run.sr ?_
     refine X.bi ?_
     refine X.nil ?_
     refine Run.seq ?_
     refine R.cd (fun hc129 => ?_) (fun hc129 => ?_)
     ·replace h := condT hc129 h
      refine Run.skip ?_
      refine Run.seq ?_
      refine Run.block ?_
      refine Run.sr ?_
      refine X.mv ?_
      refine X.an ?_
      refine Run.sr ?_
      refine X.ld shp111 ?_
      refine X.mv ?_
      obtain ⟨v130, hv130, h⟩ := bindE h
      refine X.idxT2 (l := p107.2.map (fun r => rowN 4 1 (List.map bool r))) elt111 (by rfl) (by rfl) (by rfl) ⟨(idxL_spec hv130).1, by have h0 := (idxL_spec hv130).1; have h1 := idxL_lt hv130; rw [List.length_map]; (try dsimp only); omega⟩ (by first | rfl | simp [setL] | omega) (by rfl) (by rfl) ?_
      obtain ⟨v131, hv131, h⟩ := bindE h
      refine X.ldRow2 (sz := 1) shp112 (by rfl) (by rfl) (rowN_at (f := bool) (e := 4) (sz := 1) hv130 (neL_ne hv131)) (by first | rfl | simp [setL] | omega) (by rfl) (by rfl) ?_
      refine X.mv ?_
      obtain ⟨v132, hv132, h⟩ := bindE h
      refine X.idxR2 (l := p107.2.map (fun r => rowN 4 1 (List.map bool r))) (rl := v130.map bool) elt112 (by rfl) (by rfl) (by rfl) (rowN_at (f := bool) (e := 4) (sz := 1) hv130 (neL_ne hv131)) ⟨(idxL_spec hv132).1, by have h0 := (idxL_spec hv132).1; have h1 := idxL_lt hv132; rw [List.length_map]; (try dsimp only); omega⟩ (by first | rfl | simp [setL] | omega) (by rfl) (by rfl) ?_
      refine X.ldE2 (sz2 := 1) shp4 (by rfl) (by rfl) (rowN_at (f := bool) (e := 4) (sz := 1) hv130 (neL_ne hv131)) (flat_at2 (off := 0) (by exact cells_map (f := bool) (fun _ => rfl)) (idxL_map bool hv132) (by rfl)) (by first | rfl | simp [setL] | omega) (by rfl) (by rfl) ?_
      refine X.un (by rfl) (by rfl) (by rfl) ?_
      refine X.nil ?_
      refine R.cd (fun hc133 => ?_) (fun hc133 => ?_)
      ·replace h := condT hc133 h
       refine Run.reg ?_
       refine X.ld shp59 ?_
       refine X.mv ?_
       obtain ⟨v134, hv134, h⟩ := bindE h
       refine X.idxT2 (l := a126.map (fun r => rowN 3 1 (List.map int r))) elt59 (by rfl) (by rfl) (by rfl) ⟨(idxL_spec hv134).1, by have h0 := (idxL_spec hv134).1; have h1 := idxL_lt hv134; rw [List.length_map]; (try dsimp only); omega⟩ (by first | rfl | simp [setL] | omega) (by rfl) (by rfl) ?_
       obtain ⟨v135, hv135, h⟩ := bindE h
       refine X.ldRow2 (sz := 1) shp25 (by rfl) (by rfl) (rowN_at (f := int) (e := 3) (sz := 1) hv134 (neL_ne hv135)) (by first | rfl | simp [setL] | omega) (by rfl) (by rfl) ?_
       refine X.mv ?_
       obtain ⟨v136, hv136, h⟩ := bindE h
       refine X.idxR2 (l := a126.map (fun r => rowN 3 1 (List.map int r))) (rl := v134.map int) elt25 (by rfl) (by rfl) (by rfl) (rowN_at (f := int) (e := 3) (sz := 1) hv134 (neL_ne hv135)) ⟨(idxL_spec hv136).1, by have h0 := (idxL_spec hv136).1; have h1 := idxL_lt hv136; rw [List.length_map]; (try dsimp only); omega⟩ (by first | rfl | simp [setL] | omega) (by rfl) (by rfl) ?_
       refine X.stE2 (l2 := (setL a126 a114 (setL v134 a125 (-1000))).map (fun r => rowN 3 1 (List.map int r))) (rl2 := (setL v134 a125 (-1000)).map int) (sz2 := 1) (sz := 1) shp3 (by rfl) (by rfl) (by rfl) (rowN_at (f := int) (e := 3) (sz := 1) hv134 (neL_ne hv135)) (flat_at2 (off := 0) (by exact cells_map (f := int) (fun _ => rfl)) (idxL_map int hv136) (by rfl)) (by simp [setL]) (by exact cells_map (f := int) (fun _ => rfl)) (by rw [← setL_map]; exact flat_setC (by exact cells_map (f := int) (fun _ => rfl)) (idxL_map int hv136) (by rfl) (by decide)) (by simp [setL]) (rowN_all _) (rowN_put (f := int) (e := 3) (sz := 1) hv134 (setL_ne _ _ (neL_ne hv135))) (by first | rfl | simp [setL] | omega) (by rfl) ?_
       refine X.nil ?_
       refine Run.blk ?_
       refine Run.reg ?_
       refine X.addW (by rfl) (by rfl) (by rfl) ?_
       refine X.mn ?_
       refine R.tell (n := 256) (p' := .blk true [.tref 1792 ((setL a126 a114 (setL v134 a125 (-1000))).map (fun r => rowN 3 1 (List.map int r))).length .out]) (by rfl) (by first | rfl | simp [setL]) ?_
       exact hag123 n123 ((W (a125 + 1)), (setL a126 a114 (setL v134 a125 (-1000)))) _ _ (by omega) h (by repeat (first | trivial | refine ⟨by first | rfl | simp [setL], ?_⟩)) (by repeat (first | trivial | refine ⟨by first | rfl | simp [setL], ?_⟩)) (by rfl) (by rfl)
      ·replace h := condF hc133 h
       refine Run.skip ?_
       refine Run.blk ?_
       refine Run.reg ?_
       refine X.addW (by rfl) (by rfl) (by rfl) ?_
       refine X.mn ?_
       exact hag123 n123 ((W (a125 + 1)), a126) _ _ (by omega) h (by repeat (first | trivial | refine ⟨by first | rfl | simp [setL], ?_⟩)) (by repeat (first | trivial | refine ⟨by first | rfl | simp [setL], ?_⟩)) (by rfl) (by rfl)
     ·replace h := condF hc129 h
      refine Run.exit (by rfl) ?_
      exact R.mt hmeet121 a126 (Option.some.inj h)
    rintro p137 rfl
    refine Run.blk ?_
    refine Run.reg ?_
    refine X.addW (by rfl) (by rfl) (by rfl) ?_
    refine X.mn ?_
    exact hag112 n112 ((W (a114 + 1)), p137) _ _ (by omega) h (by repeat (first | trivial | refine ⟨by first | rfl | simp [setL], ?_⟩)) (by repeat (first | trivial | refine ⟨by first | rfl | simp [setL], ?_⟩)) (by rfl) (by rfl)
   ·replace h := condF hc118 h
    refine Run.exit (by rfl) ?_
    exact R.mt hmeet110 a115 (Option.some.inj h)
  rintro p138 rfl
  refine Run.sr ?_
  refine X.ld shp59 ?_
  refine X.an ?_
  obtain ⟨v139, hv139, h⟩ := bindE h
  cases h
  refine R.fin1t Tryz.results44 (by rfl) (by rfl) (by first | rfl | simp [setL] | omega) ?_
  exact congrArg (PV.tre _ _) (allNe_map hv139)
theorem i_EarliestStarts_pc (b0 : TProject) (r : List Int) (h : i_EarliestStarts b0 = some r) : PC Tryz.prog 78 [eTProject b0] (.fresh false 3 1 (r.map int)) := by
 unfold i_EarliestStarts at h
 refine PC.start Tryz.func78 Tryz.ntmps78 rfl ok78 rfl ?_
 refine Run.sr ?_
 refine X.bx ?_
 refine X.an ?_
 refine Run.sr ?_
 refine X.ld shp34 ?_
 obtain ⟨v1, hv1, h⟩ := bindE h
 refine X.callTr (i_Distances_pc _ _ hv1) (by rfl) (by rfl) (by rfl) (by trivial) (by rfl) (by rfl) (by rfl) (by rfl) ?_
 refine X.an ?_
 refine Run.sr ?_
 refine X.mv ?_
 refine X.lenT (z := (v1.length : Int)) elt59 (by rfl) (by rfl) (by first | rfl | simp [setL] | omega) (by simp) (by rfl) (by rfl) ?_
 obtain ⟨v2, hv2, h⟩ := bindE h
 refine X.makeSlice2 int hv2 elt25 zer3 (by rfl) (by rfl) (by rfl) (by simp [PV.plain]) (by rfl) (by rfl) (by rfl) (by rfl) (by rfl) (by rfl) ?_
 refine X.an ?_
 refine Run.seq ?_
 refine Run.sr ?_
 refine X.mv ?_
 refine X.lenT (z := (v1.length : Int)) elt59 (by rfl) (by rfl) (by first | rfl | simp [setL] | omega) (by simp) (by rfl) (by rfl) ?_
 refine X.mn ?_
 obtain ⟨o3, ho3, h⟩ := bindE h
 refine R.join2 (β := (List Int)) [] [] (fun p29 S => (4, .own 832 (p29.map int).length) :: S) (fun p29 M => (832, .obj true 3 1 (p29.map int)) :: M) (fun p29 => p29 = o3) ?_ ?_
 ·intro JJ6 hmeet5
  have hup4 := h; clear h; have h := ho3; clear ho3
  refine Run.block ?_
  refine R.lp (β := Int × (List Int)) [(15, int (v1.length : Int))] [(640, .tre 25 1 (v1.map t_int))] (fun bb S => (4, .own 832 (bb.2.map int).length) :: (14, .tref 640 (v1.map t_int).length .out) :: (16, int bb.1) :: S) (fun bb M => (832, .obj true 3 1 (bb.2.map int)) :: M) (fun n bb => i_EarliestStarts_L1 v1 n bb.1 bb.2 = some o3) F0 (0, v2) h ?_
  clear h
  rintro JJ7 n7 ⟨a9, a10⟩ hag7 h
  dsimp only at h
  obtain _ | n7 := n7
  ·exact absurd h (by simp [i_EarliestStarts_L1])
  rw [i_EarliestStarts_L1] at h
  refine Run.sr ?_
  refine X.bi ?_
  refine X.nil ?_
  refine Run.seq ?_
  refine R.cd (fun hc13 => ?_) (fun hc13 => ?_)
  ·replace h := condT hc13 h
   refine Run.skip ?_
   refine Run.seq ?_
   refine Run.block ?_
   refine Run.sr ?_
   obtain ⟨v14, hv14, h⟩ := bindE h
   refine X.idxT (l := v1.map t_int) elt59 ⟨(idxL_spec hv14).1, by have h0 := (idxL_spec hv14).1; have h1 := idxL_lt hv14; rw [List.length_map]; (try dsimp only); omega⟩ (by first | rfl | simp [setL] | omega) ?_
   refine X.ldRow (sz := 1) shp25 (flat_at2 (off := 0) (by exact cells_map (f := t_int) (fun _ => rfl)) (idxL_map t_int hv14) (by rfl)) (by first | rfl | simp [setL] | omega) ?_
   refine X.an ?_
   refine Run.sr ?_
   refine X.mv ?_
   refine X.lenR (l := v1.map t_int) (rl := v14.map int) (z := (v14.length : Int)) elt25 (flat_at2 (off := 0) (by exact cells_map (f := t_int) (fun _ => rfl)) (idxL_map t_int hv14) (by rfl)) (by simp) (by first | rfl | simp [setL] | omega) ?_
   refine X.mn ?_
   obtain ⟨o15, ho15, h⟩ := bindE h
   refine R.join2 (β := (List Int)) [(15, int (v1.length : Int)), (16, int a9)] [(640, .tre 25 1 (v1.map t_int))] (fun p28 S => (4, .own 832 (p28.map int).length) :: (14, .tref 640 (v1.map t_int).length .out) :: S) (fun p28 M => (832, .obj true 3 1 (p28.map int)) :: M) (fun p28 => p28 = o15) ?_ ?_
   ·intro JJ18 hmeet17
    have hup16 := h; clear h; have h := ho15; clear ho15
    refine Run.block ?_
    refine R.lp (β := Int × (List Int)) [(15, int (v1.length : Int)), (16, int a9), (20, .tref 640 (v1.map t_int).length (.row ((a9).toNat * 1 + 0))), (21, int (v14.length : Int))] [(640, .tre 25 1 (v1.map t_int))] (fun bb S => (4, .own 832 (bb.2.map int).length) :: (14, .tref 640 (v1.map t_int).length .out) :: (22, int bb.1) :: S) (fun bb M => (832, .obj true 3 1 (bb.2.map int)) :: M) (fun n bb => i_EarliestStarts_L2 v14 n bb.1 bb.2 = some o15) F0 (0, a10) h ?_
    clear h
    rintro JJ19 n19 ⟨a21, a22⟩ hag19 h
    dsimp only at h
    obtain _ | n19 := n19
    ·exact absurd h (by simp [i_EarliestStarts_L2])
    rw [i_EarliestStarts_L2] at h
    refine Run.sr ?_
    refine X.bi ?_
    refine X.nil ?_
    refine Run.seq ?_
    refine R.cd (fun hc25 => ?_) (fun hc25 => ?_)
    ·replace h := condT hc25 h
     refine Run.skip ?_
     refine Run.seq ?_
     refine Run.block ?_
     refine Run.sr ?_
     refine X.mv ?_
     obtain ⟨v26, hv26, h⟩ := bindE h
     refine X.idxR (l := v1.map t_int) (rl := v14.map int) elt25 (flat_at2 (off := 0) (by exact cells_map (f := t_int) (fun _ => rfl)) (idxL_map t_int hv14) (by rfl)) ⟨(idxL_spec hv26).1, by have h0 := (idxL_spec hv26).1; have h1 := idxL_lt hv26; rw [List.length_map]; (try dsimp only); omega⟩ (by first | rfl | simp [setL] | omega) ?_
     refine X.ldE (sz2 := 1) shp3 (flat_at2 (off := 0) (by exact cells_map (f := t_int) (fun _ => rfl)) (idxL_map t_int hv14) (by rfl)) (flat_at2 (off := 0) (by exact cells_map (f := int) (fun _ => rfl)) (idxL_map int hv26) (by rfl)) (by first | rfl | simp [setL] | omega) ?_
     refine X.as ?_
     refine X.an ?_
     refine Run.reg ?_
     refine X.mv ?_
     refine X.mv ?_
     refine X.mv ?_
     refine X.mv ?_
     obtain ⟨v27, hv27, h⟩ := bindE h
     refine X.index_xs elt25 (by rfl) (by rfl) (by first | rfl | simp [setL] | omega) (by rfl) (by exact (Int.toNat_of_nonneg (idxL_spec hv27).1).symm) (by have := idxL_lt hv27; first | exact this | (rw [List.length_map]; exact this)) (by rfl) (by rfl) ?_
     refine X.load_e shp3 (by rfl) (by rfl) (by rfl) (by first | rfl | simp [setL] | omega) (idxL_map _ hv27) (by rfl) (by rfl) (by rfl) ?_
     refine X.mv ?_
     refine X.max2 (by rfl) (by rfl) (by rfl) ?_
     refine X.index_xs elt25 (by rfl) (by rfl) (by first | rfl | simp [setL] | omega) (by rfl) (by exact (Int.toNat_of_nonneg (idxL_spec hv27).1).symm) (by have := idxL_lt hv27; first | exact this | (rw [List.length_map]; exact this)) (by rfl) (by rfl) ?_
     refine X.store_es shp3 (by rfl) (by rfl) (by first | rfl | simp [setL] | omega) (idxL_map _ hv27) (by rfl) (by rfl) (by repeat (first | trivial | refine ⟨by first | rfl | simp [setL], ?_⟩)) (by rfl) (by rfl) (by rfl) (by rfl) (by exact setL_map _ _ _ (max v27 v26)) ?_
     refine X.nil ?_
     refine Run.blk ?_
     refine Run.reg ?_
     refine X.addW (by rfl) (by rfl) (by rfl) ?_
     refine X.mn ?_
     refine R.castS (t := 4) (.own 832 ((setL a22 a21 (max v27 v26)).map int).length) (by rfl) (.inl (by first | rfl | simp [setL])) ?_
     exact hag19 n19 ((W (a21 + 1)), (setL a22 a21 (max v27 v26))) _ _ (by omega) h (by repeat (first | trivial | refine ⟨by first | rfl | simp [setL], ?_⟩)) (by repeat (first | trivial | refine ⟨by first | rfl | simp [setL], ?_⟩)) (by rfl) (by rfl)
    ·replace h := condF hc25 h
     refine Run.exit (by rfl) ?_
     exact R.mt hmeet17 a22 (Option.some.inj h)
   rintro p28 rfl
   refine Run.blk ?_
   refine Run.reg ?_
   refine X.addW (by rfl) (by rfl) (by rfl) ?_
   refine X.mn ?_
   exact hag7 n7 ((W (a9 + 1)), p28) _ _ (by omega) h (by repeat (first | trivial | refine ⟨by first | rfl | simp [setL], ?_⟩)) (by repeat (first | trivial | refine ⟨by first | rfl | simp [setL], ?_⟩)) (by rfl) (by rfl)
  ·replace h := condF hc13 h
   refine Run.exit (by rfl) ?_
   exact R.mt hmeet5 a10 (Option.some.inj h)
 rintro p29 rfl
 refine Run.sr ?_
 refine X.mv ?_
 refine X.an ?_
 cases h
 refine R.pubObj (n := 832) (by rfl) ?_
 refine R.fin1o Tryz.results78 (by rfl) (by rfl) (by first | rfl | simp [setL] | omega) ?_
 rfl
theorem i_Project_shortest_pc (b0 : TProject) (b1 : Int) (r : Int) (h : i_Project_shortest b0 b1 = some r) : PC Tryz.prog 51 [eTProject b0, int b1] (int r) := by
 unfold i_Project_shortest at h
 refine PC.start Tryz.func51 Tryz.ntmps51 rfl ok51 rfl ?_
 refine Run.sr ?_
 refine X.bx ?_
 refine X.an ?_
 refine Run.seq ?_
 refine Run.draw (footOf [(1, ([128], [], [], [])), (6, ([128], [], [], [])), (10, ([], [960], [], [])), (11, ([960], [], [], []))]) mixed (by kernel_rfl) (by kernel_rfl) ?_
 refine X.fl fld34_1 ?_
 refine X.ld shp30 ?_
 refine X.mv ?_
 obtain ⟨v1, hv1, h⟩ := bindE h
 refine X.ix elt30 (idxL_spec hv1).1 (idxL_map eTActivity hv1) ?_
 refine X.lc shp50 ?_
 refine X.fl fld34_1 ?_
 refine X.ld shp30 ?_
 refine X.mv ?_
 refine X.ix elt30 (idxL_spec hv1).1 (idxL_map eTActivity hv1) ?_
 refine X.lc shp50 ?_
 obtain ⟨v2, hv2, h⟩ := bindE h
 refine X.callF (i_ModeIndexes_pc _ _ hv2) (by rfl) (by rfl) (by rfl) (by trivial) (by rfl) (by rfl) (by rfl) (by rfl) ?_
 obtain ⟨v3, hv3, h⟩ := bindE h
 refine X.cp (i_MinDuration_pc _ _ _ hv3) ?_
 refine X.an ?_
 cases h
 refine R.f1 Tryz.results51 ?_
 rfl
theorem i_PathBound_pc (b0 : TProject) (r : Int) (h : i_PathBound b0 = some r) : PC Tryz.prog 34 [eTProject b0] (int r) := by
 unfold i_PathBound at h
 refine PC.start Tryz.func34 Tryz.ntmps34 rfl ok34 rfl ?_
 refine Run.sr ?_
 refine X.bx ?_
 refine X.an ?_
 refine Run.sr ?_
 refine X.an ?_
 refine Run.seq ?_
 refine Run.sr ?_
 refine X.ld shp34 ?_
 obtain ⟨v1, hv1, h⟩ := bindE h
 refine X.callF (i_EarliestStarts_pc _ _ hv1) (by rfl) (by rfl) (by rfl) (by trivial) (by rfl) (by rfl) (by rfl) (by rfl) ?_
 refine X.len_o elt25 (by rfl) (by rfl) (by first | rfl | simp [setL] | omega) (by first | exact List.length_map .. | rfl) (by rfl) (by rfl) ?_
 refine X.mn ?_
 obtain ⟨o2, ho2, h⟩ := bindE h
 refine R.join2 (β := Int) [] [] (fun p15 S => (3, int p15) :: S) (fun p15 M => M) (fun p15 => p15 = o2) ?_ ?_
 ·intro JJ5 hmeet4
  have hup3 := h; clear h; have h := ho2; clear ho2
  refine Run.block ?_
  refine R.bndO (n := 448) (by rfl) (fun hbd8 => ?_)
  replace hbd8 : v1.length ≤ 9223372036854775807 := by first | (rw [List.length_map] at hbd8; exact hbd8) | simp
  refine R.lp (β := Int × Int) [(1, .lptr 64 0), (8, int (v1.length : Int))] [(64, .blk true [int b0.Deadline, .slice (b0.Activities.map eTActivity), .slice (b0.Links.map eTLink), .slice (b0.Resources.map eTResource), .slice (b0.Stocks.map int)]), (448, .obj false 3 1 (v1.map int))] (fun bb S => (3, int bb.2) :: (7, .own 448 (v1.map int).length) :: (9, int bb.1) :: S) (fun bb M => M) (fun n bb => 0 ≤ bb.1 ∧ bb.1 + n = (v1.length : Int) ∧ i_PathBound_L1 b0 (v1.drop bb.1.toNat) bb.1 bb.2 = some o2) v1.length (0, 0) ⟨Int.le_refl _, by simp, h⟩ ?_
  clear h
  rintro JJ8 n8 ⟨z9, a10⟩ hag8 ⟨hza8, hzb8, h⟩
  dsimp only at hza8 hzb8 h
  refine Run.sr ?_
  refine X.bi ?_
  refine X.nil ?_
  refine Run.seq ?_
  refine R.cd (fun hc13 => ?_) (fun hc13 => ?_)
  ·obtain ⟨x11, xs12, hd8, hx8, hds8, hlt8⟩ := drop_atI hza8 hc13
   rw [hd8] at h
   rw [i_PathBound_L1] at h
   refine Run.skip ?_
   refine Run.seq ?_
   refine Run.block ?_
   refine Run.sr ?_
   refine X.mv ?_
   refine X.index_o elt25 (by rfl) (by rfl) (by first | rfl | simp [setL] | omega) (by rfl) (idxL_spec hx8).1 (idxL_map int hx8) (by rfl) (by rfl) (by rfl) ?_
   refine X.lc shp3 ?_
   refine X.as ?_
   refine X.an ?_
   refine Run.reg ?_
   refine X.mv ?_
   refine X.mv ?_
   refine X.ld shp34 ?_
   refine X.mv ?_
   obtain ⟨v14, hv14, h⟩ := bindE h
   refine X.cp (i_Project_shortest_pc _ _ _ hv14) ?_
   refine X.addW (by rfl) (by rfl) (by rfl) ?_
   refine X.max2 (by rfl) (by rfl) (by rfl) ?_
   refine X.an ?_
   refine Run.blk ?_
   refine Run.reg ?_
   refine X.ad ?_
   refine X.mn ?_
   exact R.ag hag8 (n8 - 1) (z9 + 1, (max a10 (W (x11 + v14)))) (R.n3 (by first | (rw [hds8]; exact h) | (dsimp only; rw [hds8]; exact h)))
  ·rw [drop_endI hza8 hc13] at h
   rw [i_PathBound_L1] at h
   refine Run.exit (by rfl) ?_
   exact R.mt hmeet4 a10 (Option.some.inj h)
 rintro p15 rfl
 refine Run.sr ?_
 refine X.mv ?_
 refine X.an ?_
 cases h
 refine R.f1 Tryz.results34 ?_
 rfl
theorem i_element_pc (b0 : List Int) (b1 : Int) (r : Int × Bool) (h : i_element b0 b1 = some r) : PC Tryz.prog 82 [.slice (b0.map int), int b1] (.tuple [int r.1, bool r.2]) := by
 unfold i_element at h
 refine PC.start Tryz.func82 Tryz.ntmps82 rfl ok82 rfl ?_
 refine Run.sr ?_
 refine X.as ?_
 refine X.an ?_
 refine Run.seq ?_
 refine Run.sr ?_
 refine X.mv ?_
 refine X.mv ?_
 refine X.ls elt25 ?_
 refine X.subW (by rfl) (by rfl) (by rfl) ?_
 obtain ⟨v1, hv1, h⟩ := bindE h
 refine X.cp (i_within_pc _ _ _ _ hv1) ?_
 refine X.un (by rfl) (by rfl) (by rfl) ?_
 refine X.nil ?_
 refine R.cd (fun hc2 => ?_) (fun hc2 => ?_)
 ·replace h := condT hc2 h
  refine Run.sr ?_
  refine X.as ?_
  refine X.an ?_
  cases h
  refine R.fin2 Tryz.results82 (by rfl) (by rfl) (by rfl) (by repeat (first | trivial | refine ⟨by first | rfl | simp [setL], ?_⟩)) ?_
  rfl
 ·replace h := condF hc2 h
  refine Run.skip ?_
  refine Run.sr ?_
  refine X.mv ?_
  refine X.mv ?_
  obtain ⟨v3, hv3, h⟩ := bindE h
  refine X.ix elt25 (idxL_spec hv3).1 (idxL_map int hv3) ?_
  refine X.lc shp3 ?_
  refine X.as ?_
  refine X.an ?_
  cases h
  refine R.fin2 Tryz.results82 (by rfl) (by rfl) (by rfl) (by repeat (first | trivial | refine ⟨by first | rfl | simp [setL], ?_⟩)) ?_
  rfl
theorem i_MinWork_c1_pc (b0 : TMode) (c1 : Int) (r : Int × Bool) (h : i_MinWork_c1 b0 c1 = some r) : PC Tryz.prog 81 [eTMode b0, .cptr (int c1 : PV).cells 0] (.tuple [int r.1, bool r.2]) := by
 unfold i_MinWork_c1 at h
 refine PC.start Tryz.func81 Tryz.ntmps81 rfl ok81 rfl ?_
 refine Run.sr ?_
 refine X.bx ?_
 refine X.as ?_
 refine X.an ?_
 refine Run.sr ?_
 refine X.fl fld100_1 ?_
 refine X.ld shp25 ?_
 refine X.lc shp3 ?_
 obtain ⟨v1, hv1, h⟩ := bindE h
 refine X.callT (i_element_pc _ _ _ hv1) (by rfl) (by rfl) (by rfl) (by trivial) (by rfl) (by rfl) (by rfl) (by rfl) (by rfl) (by rfl) ?_
 refine X.mv ?_
 refine X.extract (by rfl) (by rfl) (by rfl) ?_
 refine X.extract (by rfl) (by rfl) (by rfl) ?_
 refine X.as ?_
 refine X.an ?_
 refine Run.sr ?_
 refine X.fl fld100_0 ?_
 refine X.ld shp3 ?_
 refine X.mv ?_
 refine X.mulW (by rfl) (by rfl) (by rfl) ?_
 refine X.mv ?_
 refine X.as ?_
 refine X.an ?_
 cases h
 refine R.fin2 Tryz.results81 (by rfl) (by rfl) (by rfl) (by repeat (first | trivial | refine ⟨by first | rfl | simp [setL], ?_⟩)) ?_
 rfl
theorem i_leastOf_pc (b0 : List TMode) (g1 : TMode → Option (Int × Bool)) (g1id : Nat) (g1c : List PV) (hg1 : ∀ (x0 : TMode) v, g1 x0 = some v → PC Tryz.prog g1id ([eTMode x0] ++ g1c) (.tuple [int v.1, bool v.2])) (r : Int) (h : i_leastOf b0 g1 = some r) : PC Tryz.prog 79 [.slice (b0.map eTMode), .fn g1id g1c] (int r) := by
 unfold i_leastOf at h
 refine PC.start Tryz.func79 Tryz.ntmps79 rfl ok79 rfl ?_
 refine Run.sr ?_
 refine X.an ?_
 refine Run.sr ?_
 refine X.an ?_
 refine Run.seq ?_
 refine Run.sr ?_
 refine X.mv ?_
 refine X.ls elt48 ?_
 refine X.mn ?_
 obtain ⟨o1, ho1, h⟩ := bindE h
 refine R.join2 (β := Int) [] [] (fun p18 S => (5, int p18) :: S) (fun p18 M => M) (fun p18 => (Sum.inl p18) = o1) ?_ ?_
 ·intro JJ4 hmeet3
  have hup2 := h; clear h; have h := ho1; clear ho1
  refine Run.block ?_
  refine R.bndS (t := 0) (by rfl) (fun hbd7 => ?_)
  replace hbd7 : b0.length ≤ 9223372036854775807 := by first | (rw [List.length_map] at hbd7; exact hbd7) | simp
  refine R.lp (β := Int × Int) [(1, .fn g1id g1c), (10, .slice (b0.map eTMode)), (11, int (b0.length : Int))] [] (fun bb S => (5, int bb.2) :: (12, int bb.1) :: S) (fun bb M => M) (fun n bb => 0 ≤ bb.1 ∧ bb.1 + n = (b0.length : Int) ∧ i_leastOf_L1 g1 (b0.drop bb.1.toNat) bb.1 bb.2 = some o1) b0.length (0, 0) ⟨Int.le_refl _, by simp, h⟩ ?_
  clear h
  rintro JJ7 n7 ⟨z8, a9⟩ hag7 ⟨hza7, hzb7, h⟩
  dsimp only at hza7 hzb7 h
  refine Run.sr ?_
  refine X.bi ?_
  refine X.nil ?_
  refine Run.seq ?_
  refine R.cd (fun hc12 => ?_) (fun hc12 => ?_)
  ·obtain ⟨x10, xs11, hd7, hx7, hds7, hlt7⟩ := drop_atI hza7 hc12
   rw [hd7] at h
   rw [i_leastOf_L1] at h
   refine Run.skip ?_
   refine Run.seq ?_
   refine Run.block ?_
   refine Run.sr ?_
   refine X.mv ?_
   refine X.ix elt48 (idxL_spec hx7).1 (idxL_map eTMode hx7) ?_
   refine X.lc shp100 ?_
   refine X.alloc zer100 (by rfl) (by rfl) (by rfl) ?_
   refine X.as ?_
   refine X.sl shp100 ?_
   refine X.nil ?_
   refine Run.sr ?_
   refine X.mv ?_
   refine X.ld shp100 ?_
   obtain ⟨v13, hv13, h⟩ := bindE h
   refine X.callT (hg1 _ _ hv13) (by rfl) (by rfl) (by rfl) (by trivial) (by rfl) (by rfl) (by rfl) (by rfl) (by rfl) (by rfl) ?_
   refine X.mv ?_
   refine X.extract (by rfl) (by rfl) (by rfl) ?_
   refine X.extract (by rfl) (by rfl) (by rfl) ?_
   refine X.as ?_
   refine X.an ?_
   refine Run.seq ?_
   refine Run.sr ?_
   refine X.mv ?_
   refine X.un (by rfl) (by rfl) (by rfl) ?_
   refine X.nil ?_
   refine R.cd (fun hc14 => ?_) (fun hc14 => ?_)
   ·replace h := condT hc14 h
    refine Run.sr ?_
    refine X.an ?_
    cases h
    have h := hup2
    replace h := elimR h
    cases h
    refine R.f1 Tryz.results79 ?_
    rfl
   ·replace h := condF hc14 h
    refine Run.skip ?_
    refine Run.seq ?_
    obtain ⟨e15, he15, h2⟩ := bindE h
    refine R.regG [(1, .fn g1id g1c), (5, int a9), (8, int v13.1), (10, .slice (b0.map eTMode)), (11, int (b0.length : Int)), (12, int z8), (31, bool e15)] [] ?_ ?_
    ·clear h; have h := he15; clear he15 h2
     refine X.mv ?_
     refine X.bi ?_
     refine X.mv ?_
     refine X.iG (fun hb16 => ?_) (fun hb16 => ?_)
     ·replace h := condF hb16 h
      refine X.mv ?_
      refine X.gy ?_
      refine X.mv ?_
      refine X.gy ?_
      refine X.bi ?_
      refine X.pF ?_
      cases h
      exact X.eG
     ·replace h := condT hb16 h
      refine X.gn ?_
      refine X.gn ?_
      refine X.pT ?_
      cases h
      exact X.eG
    replace h := h2; clear h2
    refine R.cd (fun hc17 => ?_) (fun hc17 => ?_)
    ·replace h := condT hc17 h
     refine Run.reg ?_
     refine X.mv ?_
     refine X.an ?_
     refine Run.blk ?_
     refine Run.reg ?_
     refine X.ad ?_
     refine X.mn ?_
     exact R.ag hag7 (n7 - 1) (z8 + 1, v13.1) (R.n3 (by first | (rw [hds7]; exact h) | (dsimp only; rw [hds7]; exact h)))
    ·replace h := condF hc17 h
     refine Run.skip ?_
     refine Run.blk ?_
     refine Run.reg ?_
     refine X.ad ?_
     refine X.mn ?_
     exact R.ag hag7 (n7 - 1) (z8 + 1, a9) (R.n3 (by first | (rw [hds7]; exact h) | (dsimp only; rw [hds7]; exact h)))
  ·rw [drop_endI hza7 hc12] at h
   rw [i_leastOf_L1] at h
   refine Run.exit (by rfl) ?_
   exact R.mt hmeet3 a9 (Option.some.inj h)
 rintro p18 rfl
 replace h := elimL h
 refine Run.sr ?_
 refine X.mv ?_
 refine X.an ?_
 cases h
 refine R.f1 Tryz.results79 ?_
 rfl
theorem i_MinWork_pc (b0 : TActivity) (b1 : List Int) (b2 : Int) (r : Int) (h : i_MinWork b0 b1 b2 = some r) : PC Tryz.prog 35 [eTActivity b0, .slice (b1.map int), int b2] (int r) := by
 unfold i_MinWork at h
 refine PC.start Tryz.func35 Tryz.ntmps35 rfl ok35 rfl ?_
 refine Run.sr ?_
 refine X.bx ?_
 refine X.bx ?_
 refine X.an ?_
 refine Run.seq ?_
 refine R.pubBlk (n := 320) (by rfl) (by rfl) (by repeat (first | trivial | refine ⟨by first | rfl | simp [setL], ?_⟩)) ?_
 refine Run.reg ?_
 refine X.ld shp50 ?_
 refine X.mv ?_
 obtain ⟨v1, hv1, h⟩ := bindE h
 refine X.callF (i_chosen_pc _ _ _ hv1) (by rfl) (by rfl) (by rfl) (by trivial) (by rfl) (by rfl) (by rfl) (by rfl) ?_
 refine X.makeFunc (by rfl) (by rfl) (by repeat (first | trivial | refine ⟨by first | rfl | simp [setL], ?_⟩)) (by rfl) (by rfl) ?_
 obtain ⟨v2, hv2, h⟩ := bindE h
 refine X.cp (i_leastOf_pc _ (fun x0 => i_MinWork_c1 x0 b2) _ _ (fun x0 v hv => i_MinWork_c1_pc _ _ _ hv) _ hv2) ?_
 refine X.an ?_
 cases h
 refine R.f1 Tryz.results35 ?_
 rfl
theorem i_capacityAt_pc (b0 : List TStep) (b1 : Int) (r : Int) (h : i_capacityAt b0 b1 = some r) : PC Tryz.prog 86 [.slice (b0.map eTStep), int b1] (int r) := by
 unfold i_capacityAt at h
 refine PC.start Tryz.func86 Tryz.ntmps86 rfl ok86 rfl ?_
 refine Run.sr ?_
 refine X.an ?_
 refine Run.sr ?_
 refine X.an ?_
 refine Run.seq ?_
 refine Run.sr ?_
 refine X.mv ?_
 refine X.ls elt58 ?_
 refine X.mn ?_
 obtain ⟨o1, ho1, h⟩ := bindE h
 refine R.join2 (β := Int) [] [] (fun p14 S => (5, int p14) :: S) (fun p14 M => M) (fun p14 => p14 = o1) ?_ ?_
 ·intro JJ4 hmeet3
  have hup2 := h; clear h; have h := ho1; clear ho1
  refine Run.block ?_
  refine R.bndS (t := 0) (by rfl) (fun hbd7 => ?_)
  replace hbd7 : b0.length ≤ 9223372036854775807 := by first | (rw [List.length_map] at hbd7; exact hbd7) | simp
  refine R.lp (β := Int × Int) [(1, int b1), (8, .slice (b0.map eTStep)), (9, int (b0.length : Int))] [] (fun bb S => (5, int bb.2) :: (10, int bb.1) :: S) (fun bb M => M) (fun n bb => 0 ≤ bb.1 ∧ bb.1 + n = (b0.length : Int) ∧ i_capacityAt_L1 b1 (b0.drop bb.1.toNat) bb.1 bb.2 = some o1) b0.length (0, 0) ⟨Int.le_refl _, by simp, h⟩ ?_
  clear h
  rintro JJ7 n7 ⟨z8, a9⟩ hag7 ⟨hza7, hzb7, h⟩
  dsimp only at hza7 hzb7 h
  refine Run.sr ?_
  refine X.bi ?_
  refine X.nil ?_
  refine Run.seq ?_
  refine R.cd (fun hc12 => ?_) (fun hc12 => ?_)
  ·obtain ⟨x10, xs11, hd7, hx7, hds7, hlt7⟩ := drop_atI hza7 hc12
   rw [hd7] at h
   rw [i_capacityAt_L1] at h
   refine Run.skip ?_
   refine Run.seq ?_
   refine Run.block ?_
   refine Run.sr ?_
   refine X.ix elt58 (idxL_spec hx7).1 (idxL_map eTStep hx7) ?_
   refine X.lc shp136 ?_
   refine X.alloc zer136 (by rfl) (by rfl) (by rfl) ?_
   refine X.sl shp136 ?_
   refine X.nil ?_
   refine Run.sr ?_
   refine X.fl fld136_0 ?_
   refine X.ld shp3 ?_
   refine X.mv ?_
   refine X.bi ?_
   refine X.nil ?_
   refine R.cd (fun hc13 => ?_) (fun hc13 => ?_)
   ·replace h := condT hc13 h
    refine Run.reg ?_
    refine X.fl fld136_1 ?_
    refine X.ld shp3 ?_
    refine X.an ?_
    refine Run.blk ?_
    refine Run.reg ?_
    refine X.ad ?_
    refine X.mn ?_
    exact R.ag hag7 (n7 - 1) (z8 + 1, x10.Capacity) (R.n3 (by first | (rw [hds7]; exact h) | (dsimp only; rw [hds7]; exact h)))
   ·replace h := condF hc13 h
    refine Run.skip ?_
    refine Run.blk ?_
    refine Run.reg ?_
    refine X.ad ?_
    refine X.mn ?_
    exact R.ag hag7 (n7 - 1) (z8 + 1, a9) (R.n3 (by first | (rw [hds7]; exact h) | (dsimp only; rw [hds7]; exact h)))
  ·rw [drop_endI hza7 hc12] at h
   rw [i_capacityAt_L1] at h
   refine Run.exit (by rfl) ?_
   exact R.mt hmeet3 a9 (Option.some.inj h)
 rintro p14 rfl
 refine Run.sr ?_
 refine X.mv ?_
 refine X.an ?_
 cases h
 refine R.f1 Tryz.results86 ?_
 rfl
theorem i_TotalCapacity_pc (b0 : List TStep) (b1 : Int) (b2 : Int) (r : Int) (h : i_TotalCapacity b0 b1 b2 = some r) : PC Tryz.prog 37 [.slice (b0.map eTStep), int b1, int b2] (int r) := by
 unfold i_TotalCapacity at h
 refine PC.start Tryz.func37 Tryz.ntmps37 rfl ok37 rfl ?_
 refine Run.sr ?_
 refine X.an ?_
 refine Run.seq ?_
 refine Run.seq ?_
 obtain ⟨v1, hv1, h⟩ := bindE h
 obtain ⟨e2, he2, h2⟩ := bindE h
 refine R.regG [(0, .slice (b0.map eTStep)), (1, int b1), (2, int b2), (21, bool e2)] [] ?_ ?_
 ·clear h; have h := he2; clear he2 h2
  refine X.mv ?_
  refine X.cp (i_StepsOk_pc _ _ hv1) ?_
  refine X.un (by rfl) (by rfl) (by rfl) ?_
  refine X.mv ?_
  refine X.iG (fun hb3 => ?_) (fun hb3 => ?_)
  ·replace h := condF hb3 h
   refine X.mv ?_
   refine X.gy ?_
   obtain ⟨v4, hv4, h⟩ := bindE h
   refine X.cp (i_isTime_pc _ _ hv4) ?_
   refine X.gy ?_
   refine X.un (by rfl) (by rfl) (by rfl) ?_
   refine X.pF ?_
   refine X.mv ?_
   refine X.iG (fun hb5 => ?_) (fun hb5 => ?_)
   ·replace h := condF hb5 h
    refine X.mv ?_
    refine X.gy ?_
    obtain ⟨v6, hv6, h⟩ := bindE h
    refine X.cp (i_isTime_pc _ _ hv6) ?_
    refine X.gy ?_
    refine X.un (by rfl) (by rfl) (by rfl) ?_
    refine X.pF ?_
    cases h
    exact X.eG
   ·replace h := condT hb5 h
    refine X.gn ?_
    refine X.gn ?_
    refine X.pT ?_
    cases h
    exact X.eG
  ·replace h := condT hb3 h
   refine X.gn ?_
   refine X.gn ?_
   refine X.pT ?_
   refine X.mv ?_
   refine X.gn ?_
   refine X.gn ?_
   refine X.gn ?_
   refine X.pT ?_
   cases h
   exact X.eG
 replace h := h2; clear h2
 refine R.cd (fun hc7 => ?_) (fun hc7 => ?_)
 ·replace h := condT hc7 h
  refine Run.sr ?_
  refine X.an ?_
  cases h
  refine R.f1 Tryz.results37 ?_
  rfl
 ·replace h := condF hc7 h
  refine Run.skip ?_
  refine Run.sr ?_
  refine X.an ?_
  refine Run.seq ?_
  refine Run.sr ?_
  refine X.mv ?_
  refine X.an ?_
  obtain ⟨o8, ho8, h⟩ := bindE h
  refine R.join2 (β := Int) [] [] (fun p19 S => (7, int p19) :: S) (fun p19 M => M) (fun p19 => p19 = o8) ?_ ?_
  ·intro JJ11 hmeet10
   have hup9 := h; clear h; have h := ho8; clear ho8
   refine Run.block ?_
   refine R.lp (β := Int × Int) [(0, .slice (b0.map eTStep)), (2, int b2)] [] (fun bb S => (7, int bb.1) :: (8, int bb.2) :: S) (fun bb M => M) (fun n bb => i_TotalCapacity_L1 b0 b2 n bb.1 bb.2 = some o8) F0 (0, b1) h ?_
   clear h
   rintro JJ11 n11 ⟨a13, a14⟩ hag11 h
   dsimp only at h
   obtain _ | n11 := n11
   ·exact absurd h (by simp [i_TotalCapacity_L1])
   rw [i_TotalCapacity_L1] at h
   refine Run.seq ?_
   refine Run.sr ?_
   refine X.mv ?_
   refine X.mv ?_
   refine X.bi ?_
   refine X.nil ?_
   refine R.cd (fun hc17 => ?_) (fun hc17 => ?_)
   ·replace h := condT hc17 h
    refine Run.skip ?_
    refine Run.seq ?_
    refine Run.block ?_
    refine Run.reg ?_
    refine X.mv ?_
    refine X.mv ?_
    refine X.mv ?_
    obtain ⟨v18, hv18, h⟩ := bindE h
    refine X.cp (i_capacityAt_pc _ _ _ hv18) ?_
    refine X.addW (by rfl) (by rfl) (by rfl) ?_
    refine X.an ?_
    refine Run.blk ?_
    refine Run.reg ?_
    refine X.mv ?_
    refine X.addW (by rfl) (by rfl) (by rfl) ?_
    refine X.an ?_
    exact hag11 n11 ((W (a13 + v18)), (W (a14 + 1))) _ _ (by omega) h (by trivial) (by trivial) (by rfl) (by rfl)
   ·replace h := condF hc17 h
    refine Run.exit (by rfl) ?_
    exact R.mt hmeet10 a13 (Option.some.inj h)
  rintro p19 rfl
  refine Run.sr ?_
  refine X.mv ?_
  refine X.an ?_
  cases h
  refine R.f1 Tryz.results37 ?_
  rfl
theorem i_WorkBound_pc (b0 : TProject) (r : Int) (h : i_WorkBound b0 = some r) : PC Tryz.prog 9 [eTProject b0] (int r) := by
 unfold i_WorkBound at h
 refine PC.start Tryz.func9 Tryz.ntmps9 rfl ok9 rfl ?_
 refine Run.sr ?_
 refine X.bx ?_
 refine X.an ?_
 refine Run.seq ?_
 refine Run.sr ?_
 refine X.ld shp34 ?_
 obtain ⟨v1, hv1, h⟩ := bindE h
 refine X.cp (i_ProjectOk_pc _ _ hv1) ?_
 refine X.un (by rfl) (by rfl) (by rfl) ?_
 refine X.nil ?_
 refine R.cd (fun hc2 => ?_) (fun hc2 => ?_)
 ·replace h := condT hc2 h
  refine Run.sr ?_
  refine X.an ?_
  cases h
  refine R.f1 Tryz.results9 ?_
  rfl
 ·replace h := condF hc2 h
  refine Run.skip ?_
  refine Run.seq ?_
  refine Run.sr ?_
  refine X.ld shp34 ?_
  obtain ⟨v3, hv3, h⟩ := bindE h
  refine X.cp (i_PathBound_pc _ _ hv3) ?_
  refine X.max2 (by rfl) (by rfl) (by rfl) ?_
  refine X.an ?_
  obtain ⟨o4, ho4, h⟩ := bindE h
  refine R.join2 (β := Unit) [] [] (fun p45 S => S) (fun p45 M => M) (fun p45 => (Sum.inl p45) = o4) ?_ ?_
  ·intro JJ7 hmeet6
   have hup5 := h; clear h; have h := ho4; clear ho4
   refine Run.block ?_
   refine R.lp (β := Int) [(1, .lptr 64 0)] [(64, .blk true [int b0.Deadline, .slice (b0.Activities.map eTActivity), .slice (b0.Links.map eTLink), .slice (b0.Resources.map eTResource), .slice (b0.Stocks.map int)])] (fun bb S => (3, int bb) :: S) (fun bb M => M) (fun n bb => i_WorkBound_L1 b0 n bb = some o4) F0 (max v3 1) h ?_
   clear h
   rintro JJ7 n7 a9 hag7 h
   obtain _ | n7 := n7
   ·exact absurd h (by simp [i_WorkBound_L1])
   rw [i_WorkBound_L1] at h
   refine Run.seq ?_
   refine Run.sr ?_
   refine X.mv ?_
   refine X.bi ?_
   refine X.nil ?_
   refine R.cd (fun hc12 => ?_) (fun hc12 => ?_)
   ·replace h := condT hc12 h
    refine Run.skip ?_
    refine Run.seq ?_
    refine Run.block ?_
    refine Run.sr ?_
    refine X.an ?_
    refine Run.seq ?_
    refine Run.sr ?_
    refine X.fl fld34_3 ?_
    refine X.ld shp32 ?_
    refine X.ls elt32 ?_
    refine X.mn ?_
    obtain ⟨o13, ho13, h⟩ := bindE h
    refine R.join2 (β := Bool) [(1, .lptr 64 0), (3, int a9)] [(64, .blk true [int b0.Deadline, .slice (b0.Activities.map eTActivity), .slice (b0.Links.map eTLink), .slice (b0.Resources.map eTResource), .slice (b0.Stocks.map int)])] (fun p43 S => (4, bool p43) :: S) (fun p43 M => M) (fun p43 => p43 = o13) ?_ ?_
    ·intro JJ16 hmeet15
     have hup14 := h; clear h; have h := ho13; clear ho13
     refine Run.block ?_
     refine R.bndS (t := 21) (by rfl) (fun hbd19 => ?_)
     replace hbd19 : b0.Resources.length ≤ 9223372036854775807 := by first | (rw [List.length_map] at hbd19; exact hbd19) | simp
     refine R.lp (β := Int × Bool) [(1, .lptr 64 0), (3, int a9), (21, .slice (b0.Resources.map eTResource)), (22, int (b0.Resources.length : Int))] [(64, .blk true [int b0.Deadline, .slice (b0.Activities.map eTActivity), .slice (b0.Links.map eTLink), .slice (b0.Resources.map eTResource), .slice (b0.Stocks.map int)])] (fun bb S => (4, bool bb.2) :: (23, int bb.1) :: S) (fun bb M => M) (fun n bb => 0 ≤ bb.1 ∧ bb.1 + n = (b0.Resources.length : Int) ∧ i_WorkBound_L2 b0 a9 (b0.Resources.drop bb.1.toNat) bb.1 bb.2 = some o13) b0.Resources.length (0, true) ⟨Int.le_refl _, by simp, h⟩ ?_
     clear h
     rintro JJ19 n19 ⟨z20, a21⟩ hag19 ⟨hza19, hzb19, h⟩
     dsimp only at hza19 hzb19 h
     refine Run.sr ?_
     refine X.bi ?_
     refine X.nil ?_
     refine Run.seq ?_
     refine R.cd (fun hc24 => ?_) (fun hc24 => ?_)
     ·obtain ⟨x22, xs23, hd19, hx19, hds19, hlt19⟩ := drop_atI hza19 hc24
      rw [hd19] at h
      rw [i_WorkBound_L2] at h
      refine Run.skip ?_
      refine Run.seq ?_
      refine Run.block ?_
      refine Run.sr ?_
      refine X.mv ?_
      refine X.ix elt32 (idxL_spec hx19).1 (idxL_map eTResource hx19) ?_
      refine X.lc shp61 ?_
      refine X.alloc zer61 (by rfl) (by rfl) (by rfl) ?_
      refine X.as ?_
      refine X.sl shp61 ?_
      refine X.nil ?_
      refine Run.sr ?_
      refine X.an ?_
      refine Run.seq ?_
      refine Run.sr ?_
      refine X.fl fld34_1 ?_
      refine X.ld shp30 ?_
      refine X.ls elt30 ?_
      refine X.mn ?_
      obtain ⟨o25, ho25, h⟩ := bindE h
      refine R.join2 (β := Int) [(1, .lptr 64 0), (3, int a9), (4, bool a21), (6, .lptr 384 0), (21, .slice (b0.Resources.map eTResource)), (22, int (b0.Resources.length : Int)), (23, int z20)] [(64, .blk true [int b0.Deadline, .slice (b0.Activities.map eTActivity), .slice (b0.Links.map eTLink), .slice (b0.Resources.map eTResource), .slice (b0.Stocks.map int)]), (384, .blk true [.slice (x22.Steps.map eTStep), .slice (x22.Setup.map l_int)])] (fun p39 S => (7, int p39) :: S) (fun p39 M => M) (fun p39 => p39 = o25) ?_ ?_
      ·intro JJ28 hmeet27
       have hup26 := h; clear h; have h := ho25; clear ho25
       refine Run.block ?_
       refine R.bndS (t := 29) (by rfl) (fun hbd31 => ?_)
       replace hbd31 : b0.Activities.length ≤ 9223372036854775807 := by first | (rw [List.length_map] at hbd31; exact hbd31) | simp
       refine R.lp (β := Int × Int) [(1, .lptr 64 0), (3, int a9), (4, bool a21), (5, int z20), (6, .lptr 384 0), (21, .slice (b0.Resources.map eTResource)), (22, int (b0.Resources.length : Int)), (23, int z20), (29, .slice (b0.Activities.map eTActivity)), (30, int (b0.Activities.length : Int))] [(64, .blk true [int b0.Deadline, .slice (b0.Activities.map eTActivity), .slice (b0.Links.map eTLink), .slice (b0.Resources.map eTResource), .slice (b0.Stocks.map int)]), (384, .blk true [.slice (x22.Steps.map eTStep), .slice (x22.Setup.map l_int)])] (fun bb S => (7, int bb.2) :: (31, int bb.1) :: S) (fun bb M => M) (fun n bb => 0 ≤ bb.1 ∧ bb.1 + n = (b0.Activities.length : Int) ∧ i_WorkBound_L3 z20 (b0.Activities.drop bb.1.toNat) bb.1 bb.2 = some o25) b0.Activities.length (0, 0) ⟨Int.le_refl _, by simp, h⟩ ?_
       clear h
       rintro JJ31 n31 ⟨z32, a33⟩ hag31 ⟨hza31, hzb31, h⟩
       dsimp only at hza31 hzb31 h
       refine Run.sr ?_
       refine X.bi ?_
       refine X.nil ?_
       refine Run.seq ?_
       refine R.cd (fun hc36 => ?_) (fun hc36 => ?_)
       ·obtain ⟨x34, xs35, hd31, hx31, hds31, hlt31⟩ := drop_atI hza31 hc36
        rw [hd31] at h
        rw [i_WorkBound_L3] at h
        refine Run.skip ?_
        refine Run.seq ?_
        refine Run.block ?_
        refine Run.sr ?_
        refine X.ix elt30 (idxL_spec hx31).1 (idxL_map eTActivity hx31) ?_
        refine X.lc shp50 ?_
        refine X.alloc zer50 (by rfl) (by rfl) (by rfl) ?_
        refine X.sl shp50 ?_
        refine X.nil ?_
        refine Run.draw (footOf [(1, ([576], [], [], [])), (2, ([576], [], [], [])), (3, ([], [2432], [], [])), (5, ([2432], [], [], []))]) mixed (by kernel_rfl) (by kernel_rfl) ?_
        refine X.mv ?_
        refine X.ld shp50 ?_
        refine X.ld shp50 ?_
        obtain ⟨v37, hv37, h⟩ := bindE h
        refine X.callF (i_ModeIndexes_pc _ _ hv37) (by rfl) (by rfl) (by rfl) (by trivial) (by rfl) (by rfl) (by rfl) (by rfl) ?_
        refine X.mv ?_
        obtain ⟨v38, hv38, h⟩ := bindE h
        refine X.cp (i_MinWork_pc _ _ _ _ hv38) ?_
        refine X.addW (by rfl) (by rfl) (by rfl) ?_
        refine X.an ?_
        refine Run.blk ?_
        refine Run.reg ?_
        refine X.ad ?_
        refine X.mn ?_
        exact R.ag hag31 (n31 - 1) (z32 + 1, (W (a33 + v38))) (R.n3 (by first | (rw [hds31]; exact h) | (dsimp only; rw [hds31]; exact h)))
       ·rw [drop_endI hza31 hc36] at h
        rw [i_WorkBound_L3] at h
        refine Run.exit (by rfl) ?_
        exact R.mt hmeet27 a33 (Option.some.inj h)
      rintro p39 rfl
      obtain ⟨e40, he40, h2⟩ := bindE h
      refine R.regG [(1, .lptr 64 0), (3, int a9), (4, bool e40), (21, .slice (b0.Resources.map eTResource)), (22, int (b0.Resources.length : Int)), (23, int z20)] [(64, .blk true [int b0.Deadline, .slice (b0.Activities.map eTActivity), .slice (b0.Links.map eTLink), .slice (b0.Resources.map eTResource), .slice (b0.Stocks.map int)])] ?_ ?_
      ·clear h; have h := he40; clear he40 h2
       refine X.mv ?_
       refine X.mv ?_
       refine X.iG (fun hb41 => ?_) (fun hb41 => ?_)
       ·replace h := condT hb41 h
        refine X.mv ?_
        refine X.gy ?_
        refine X.fl fld61_0 ?_
        refine X.gy ?_
        refine X.ld shp58 ?_
        refine X.gy ?_
        refine X.mv ?_
        refine X.gy ?_
        obtain ⟨v42, hv42, h⟩ := bindE h
        refine X.cp (i_TotalCapacity_pc _ _ _ _ hv42) ?_
        refine X.gy ?_
        refine X.bi ?_
        refine X.pT ?_
        refine X.as ?_
        cases h
        exact X.eG
       ·replace h := condF hb41 h
        refine X.gn ?_
        refine X.gn ?_
        refine X.gn ?_
        refine X.gn ?_
        refine X.gn ?_
        refine X.pF ?_
        refine X.as ?_
        cases h
        exact X.eG
      replace h := h2; clear h2
      refine Run.blk ?_
      refine Run.reg ?_
      refine X.ad ?_
      refine X.mn ?_
      exact R.ag hag19 (n19 - 1) (z20 + 1, e40) (R.n3 (by first | (rw [hds19]; exact h) | (dsimp only; rw [hds19]; exact h)))
     ·rw [drop_endI hza19 hc24] at h
      rw [i_WorkBound_L2] at h
      refine Run.exit (by rfl) ?_
      exact R.mt hmeet15 a21 (Option.some.inj h)
    rintro p43 rfl
    refine Run.sr ?_
    refine X.mn ?_
    refine R.cd (fun hc44 => ?_) (fun hc44 => ?_)
    ·replace h := condT hc44 h
     refine Run.sr ?_
     refine X.mv ?_
     refine X.an ?_
     cases h
     have h := hup5
     replace h := elimR h
     cases h
     refine R.f1 Tryz.results9 ?_
     rfl
    ·replace h := condF hc44 h
     refine Run.skip ?_
     refine Run.blk ?_
     refine Run.reg ?_
     refine X.mv ?_
     refine X.addW (by rfl) (by rfl) (by rfl) ?_
     refine X.an ?_
     exact hag7 n7 (W (a9 + 1)) _ _ (by omega) h (by trivial) (by trivial) (by rfl) (by rfl)
   ·replace h := condF hc12 h
    refine Run.exit (by rfl) ?_
    exact R.mt hmeet6 () (Option.some.inj h)
  rintro p45 rfl
  replace h := elimL h
  refine Run.sr ?_
  refine X.an ?_
  cases h
  refine R.f1 Tryz.results9 ?_
  rfl
theorem w_eqIntS_pc (b0 : List Int) (b1 : List Int) (r : Bool) (h : w_eqIntS b0 b1 = some r) : PC Tryz.prog 13 [.slice (b0.map int), .slice (b1.map int)] (bool r) := by
 unfold w_eqIntS at h
 refine PC.start Tryz.func13 Tryz.ntmps13 rfl ok13 rfl ?_
 refine Run.sr ?_
 refine X.an ?_
 refine Run.seq ?_
 refine Run.sr ?_
 refine X.mv ?_
 refine X.ls elt25 ?_
 refine X.mv ?_
 refine X.ls elt25 ?_
 refine X.bi ?_
 refine X.nil ?_
 refine R.cd (fun hc1 => ?_) (fun hc1 => ?_)
 ·replace h := condT hc1 h
  refine Run.sr ?_
  refine X.an ?_
  cases h
  refine R.f1 Tryz.results13 ?_
  rfl
 ·replace h := condF hc1 h
  refine Run.skip ?_
  refine Run.seq ?_
  refine Run.sr ?_
  refine X.an ?_
  obtain ⟨o2, ho2, h⟩ := bindE h
  refine R.join2 (β := Unit) [] [] (fun p15 S => S) (fun p15 M => M) (fun p15 => (Sum.inl p15) = o2) ?_ ?_
  ·intro JJ5 hmeet4
   have hup3 := h; clear h; have h := ho2; clear ho2
   refine Run.block ?_
   refine R.bndS (t := 0) (by rfl) (fun hbd8 => ?_)
   replace hbd8 : b0.length ≤ 9223372036854775807 := by first | (rw [List.length_map] at hbd8; exact hbd8) | simp
   refine R.lp (β := Int) [(0, .slice (b0.map int)), (1, .slice (b1.map int))] [] (fun bb S => (5, int bb) :: S) (fun bb M => M) (fun n bb => 0 ≤ bb ∧ bb + n = (b0.length : Int) ∧ w_eqIntS_L1 b1 (b0.drop bb.toNat) bb = some o2) b0.length (0 : Int) ⟨Int.le_refl _, by simp, h⟩ ?_
   clear h
   rintro JJ8 n8 z9 hag8 ⟨hza8, hzb8, h⟩
   refine Run.seq ?_
   refine Run.sr ?_
   refine X.mv ?_
   refine X.mv ?_
   refine X.ls elt25 ?_
   refine X.bi ?_
   refine X.nil ?_
   refine R.cd (fun hc12 => ?_) (fun hc12 => ?_)
   ·obtain ⟨x10, xs11, hd8, hx8, hds8, hlt8⟩ := drop_atI hza8 hc12
    rw [hd8] at h
    rw [w_eqIntS_L1] at h
    refine Run.skip ?_
    refine Run.seq ?_
    refine Run.block ?_
    refine Run.seq ?_
    refine Run.draw (footOf []) mixed (by kernel_rfl) (by kernel_rfl) ?_
    refine X.mv ?_
    refine X.mv ?_
    refine X.ix elt25 (idxL_spec hx8).1 (idxL_map int hx8) ?_
    refine X.lc shp3 ?_
    refine X.mv ?_
    refine X.mv ?_
    obtain ⟨v13, hv13, h⟩ := bindE h
    refine X.ix elt25 (idxL_spec hv13).1 (idxL_map int hv13) ?_
    refine X.lc shp3 ?_
    refine X.bi ?_
    refine X.nil ?_
    refine R.cd (fun hc14 => ?_) (fun hc14 => ?_)
    ·replace h := condT hc14 h
     refine Run.sr ?_
     refine X.an ?_
     cases h
     have h := hup3
     replace h := elimR h
     cases h
     refine R.f1 Tryz.results13 ?_
     rfl
    ·replace h := condF hc14 h
     refine Run.skip ?_
     refine Run.blk ?_
     refine Run.reg ?_
     refine X.mv ?_
     refine X.ad ?_
     refine X.an ?_
     exact R.ag hag8 (n8 - 1) (z9 + 1) (R.n3 (by first | (rw [hds8]; exact h) | (dsimp only; rw [hds8]; exact h)))
   ·rw [drop_endI hza8 hc12] at h
    rw [w_eqIntS_L1] at h
    refine Run.exit (by rfl) ?_
    exact R.mt hmeet4 () (Option.some.inj h)
  rintro p15 rfl
  replace h := elimL h
  refine Run.sr ?_
  refine X.an ?_
  cases h
  refine R.f1 Tryz.results13 ?_
  rfl
theorem w_eqMode_pc (b0 : TMode) (b1 : TMode) (r : Bool) (h : w_eqMode b0 b1 = some r) : PC Tryz.prog 149 [eTMode b0, eTMode b1] (bool r) := by
 unfold w_eqMode at h
 refine PC.start Tryz.func149 Tryz.ntmps149 rfl ok149 rfl ?_
 refine Run.sr ?_
 refine X.bx ?_
 refine X.bx ?_
 refine X.an ?_
 refine Run.seq ?_
 refine Run.sr ?_
 refine X.fl fld100_0 ?_
 refine X.ld shp3 ?_
 refine X.fl fld100_0 ?_
 refine X.ld shp3 ?_
 refine X.bi ?_
 refine X.nil ?_
 refine R.cd (fun hc1 => ?_) (fun hc1 => ?_)
 ·replace h := condT hc1 h
  refine Run.sr ?_
  refine X.an ?_
  cases h
  refine R.f1 Tryz.results149 ?_
  rfl
 ·replace h := condF hc1 h
  refine Run.skip ?_
  refine Run.seq ?_
  refine Run.sr ?_
  refine X.fl fld100_1 ?_
  refine X.ld shp25 ?_
  refine X.fl fld100_1 ?_
  refine X.ld shp25 ?_
  obtain ⟨v2, hv2, h⟩ := bindE h
  refine X.cp (w_eqIntS_pc _ _ _ hv2) ?_
  refine X.un (by rfl) (by rfl) (by rfl) ?_
  refine X.nil ?_
  refine R.cd (fun hc3 => ?_) (fun hc3 => ?_)
  ·replace h := condT hc3 h
   refine Run.sr ?_
   refine X.an ?_
   cases h
   refine R.f1 Tryz.results149 ?_
   rfl
  ·replace h := condF hc3 h
   refine Run.skip ?_
   refine Run.seq ?_
   refine Run.sr ?_
   refine X.fl fld100_2 ?_
   refine X.ld shp25 ?_
   refine X.fl fld100_2 ?_
   refine X.ld shp25 ?_
   obtain ⟨v4, hv4, h⟩ := bindE h
   refine X.cp (w_eqIntS_pc _ _ _ hv4) ?_
   refine X.un (by rfl) (by rfl) (by rfl) ?_
   refine X.nil ?_
   refine R.cd (fun hc5 => ?_) (fun hc5 => ?_)
   ·replace h := condT hc5 h
    refine Run.sr ?_
    refine X.an ?_
    cases h
    refine R.f1 Tryz.results149 ?_
    rfl
   ·replace h := condF hc5 h
    refine Run.skip ?_
    refine Run.sr ?_
    refine X.an ?_
    cases h
    refine R.f1 Tryz.results149 ?_
    rfl
theorem w_eqModeS_pc (b0 : List TMode) (b1 : List TMode) (r : Bool) (h : w_eqModeS b0 b1 = some r) : PC Tryz.prog 129 [.slice (b0.map eTMode), .slice (b1.map eTMode)] (bool r) := by
 unfold w_eqModeS at h
 refine PC.start Tryz.func129 Tryz.ntmps129 rfl ok129 rfl ?_
 refine Run.sr ?_
 refine X.an ?_
 refine Run.seq ?_
 refine Run.sr ?_
 refine X.mv ?_
 refine X.ls elt48 ?_
 refine X.mv ?_
 refine X.ls elt48 ?_
 refine X.bi ?_
 refine X.nil ?_
 refine R.cd (fun hc1 => ?_) (fun hc1 => ?_)
 ·replace h := condT hc1 h
  refine Run.sr ?_
  refine X.an ?_
  cases h
  refine R.f1 Tryz.results129 ?_
  rfl
 ·replace h := condF hc1 h
  refine Run.skip ?_
  refine Run.seq ?_
  refine Run.sr ?_
  refine X.an ?_
  obtain ⟨o2, ho2, h⟩ := bindE h
  refine R.join2 (β := Unit) [] [] (fun p16 S => S) (fun p16 M => M) (fun p16 => (Sum.inl p16) = o2) ?_ ?_
  ·intro JJ5 hmeet4
   have hup3 := h; clear h; have h := ho2; clear ho2
   refine Run.block ?_
   refine R.bndS (t := 0) (by rfl) (fun hbd8 => ?_)
   replace hbd8 : b0.length ≤ 9223372036854775807 := by first | (rw [List.length_map] at hbd8; exact hbd8) | simp
   refine R.lp (β := Int) [(0, .slice (b0.map eTMode)), (1, .slice (b1.map eTMode))] [] (fun bb S => (5, int bb) :: S) (fun bb M => M) (fun n bb => 0 ≤ bb ∧ bb + n = (b0.length : Int) ∧ w_eqModeS_L1 b1 (b0.drop bb.toNat) bb = some o2) b0.length (0 : Int) ⟨Int.le_refl _, by simp, h⟩ ?_
   clear h
   rintro JJ8 n8 z9 hag8 ⟨hza8, hzb8, h⟩
   refine Run.seq ?_
   refine Run.sr ?_
   refine X.mv ?_
   refine X.mv ?_
   refine X.ls elt48 ?_
   refine X.bi ?_
   refine X.nil ?_
   refine R.cd (fun hc12 => ?_) (fun hc12 => ?_)
   ·obtain ⟨x10, xs11, hd8, hx8, hds8, hlt8⟩ := drop_atI hza8 hc12
    rw [hd8] at h
    rw [w_eqModeS_L1] at h
    refine Run.skip ?_
    refine Run.seq ?_
    refine Run.block ?_
    refine Run.seq ?_
    refine Run.draw (footOf []) mixed (by kernel_rfl) (by kernel_rfl) ?_
    refine X.mv ?_
    refine X.mv ?_
    refine X.ix elt48 (idxL_spec hx8).1 (idxL_map eTMode hx8) ?_
    refine X.lc shp100 ?_
    refine X.mv ?_
    refine X.mv ?_
    obtain ⟨v13, hv13, h⟩ := bindE h
    refine X.ix elt48 (idxL_spec hv13).1 (idxL_map eTMode hv13) ?_
    refine X.lc shp100 ?_
    obtain ⟨v14, hv14, h⟩ := bindE h
    refine X.cp (w_eqMode_pc _ _ _ hv14) ?_
    refine X.un (by rfl) (by rfl) (by rfl) ?_
    refine X.nil ?_
    refine R.cd (fun hc15 => ?_) (fun hc15 => ?_)
    ·replace h := condT hc15 h
     refine Run.sr ?_
     refine X.an ?_
     cases h
     have h := hup3
     replace h := elimR h
     cases h
     refine R.f1 Tryz.results129 ?_
     rfl
    ·replace h := condF hc15 h
     refine Run.skip ?_
     refine Run.blk ?_
     refine Run.reg ?_
     refine X.mv ?_
     refine X.ad ?_
     refine X.an ?_
     exact R.ag hag8 (n8 - 1) (z9 + 1) (R.n3 (by first | (rw [hds8]; exact h) | (dsimp only; rw [hds8]; exact h)))
   ·rw [drop_endI hza8 hc12] at h
    rw [w_eqModeS_L1] at h
    refine Run.exit (by rfl) ?_
    exact R.mt hmeet4 () (Option.some.inj h)
  rintro p16 rfl
  replace h := elimL h
  refine Run.sr ?_
  refine X.an ?_
  cases h
  refine R.f1 Tryz.results129 ?_
  rfl
theorem w_eqActivity_pc (b0 : TActivity) (b1 : TActivity) (r : Bool) (h : w_eqActivity b0 b1 = some r) : PC Tryz.prog 87 [eTActivity b0, eTActivity b1] (bool r) := by
 unfold w_eqActivity at h
 refine PC.start Tryz.func87 Tryz.ntmps87 rfl ok87 rfl ?_
 refine Run.sr ?_
 refine X.bx ?_
 refine X.bx ?_
 refine X.an ?_
 refine Run.seq ?_
 refine Run.sr ?_
 refine X.fl fld50_0 ?_
 refine X.ld shp9 ?_
 refine X.fl fld50_0 ?_
 refine X.ld shp9 ?_
 refine X.bi ?_
 refine X.nil ?_
 refine R.cd (fun hc1 => ?_) (fun hc1 => ?_)
 ·replace h := condT hc1 h
  refine Run.sr ?_
  refine X.an ?_
  cases h
  refine R.f1 Tryz.results87 ?_
  rfl
 ·replace h := condF hc1 h
  refine Run.skip ?_
  refine Run.seq ?_
  refine Run.sr ?_
  refine X.fl fld50_1 ?_
  refine X.ld shp3 ?_
  refine X.fl fld50_1 ?_
  refine X.ld shp3 ?_
  refine X.bi ?_
  refine X.nil ?_
  refine R.cd (fun hc2 => ?_) (fun hc2 => ?_)
  ·replace h := condT hc2 h
   refine Run.sr ?_
   refine X.an ?_
   cases h
   refine R.f1 Tryz.results87 ?_
   rfl
  ·replace h := condF hc2 h
   refine Run.skip ?_
   refine Run.seq ?_
   refine Run.sr ?_
   refine X.fl fld50_2 ?_
   refine X.ld shp48 ?_
   refine X.fl fld50_2 ?_
   refine X.ld shp48 ?_
   obtain ⟨v3, hv3, h⟩ := bindE h
   refine X.cp (w_eqModeS_pc _ _ _ hv3) ?_
   refine X.un (by rfl) (by rfl) (by rfl) ?_
   refine X.nil ?_
   refine R.cd (fun hc4 => ?_) (fun hc4 => ?_)
   ·replace h := condT hc4 h
    refine Run.sr ?_
    refine X.an ?_
    cases h
    refine R.f1 Tryz.results87 ?_
    rfl
   ·replace h := condF hc4 h
    refine Run.skip ?_
    refine Run.sr ?_
    refine X.an ?_
    cases h
    refine R.f1 Tryz.results87 ?_
    rfl
theorem w_eqActivityS_pc (b0 : List TActivity) (b1 : List TActivity) (r : Bool) (h : w_eqActivityS b0 b1 = some r) : PC Tryz.prog 38 [.slice (b0.map eTActivity), .slice (b1.map eTActivity)] (bool r) := by
 unfold w_eqActivityS at h
 refine PC.start Tryz.func38 Tryz.ntmps38 rfl ok38 rfl ?_
 refine Run.sr ?_
 refine X.an ?_
 refine Run.seq ?_
 refine Run.sr ?_
 refine X.mv ?_
 refine X.ls elt30 ?_
 refine X.mv ?_
 refine X.ls elt30 ?_
 refine X.bi ?_
 refine X.nil ?_
 refine R.cd (fun hc1 => ?_) (fun hc1 => ?_)
 ·replace h := condT hc1 h
  refine Run.sr ?_
  refine X.an ?_
  cases h
  refine R.f1 Tryz.results38 ?_
  rfl
 ·replace h := condF hc1 h
  refine Run.skip ?_
  refine Run.seq ?_
  refine Run.sr ?_
  refine X.an ?_
  obtain ⟨o2, ho2, h⟩ := bindE h
  refine R.join2 (β := Unit) [] [] (fun p16 S => S) (fun p16 M => M) (fun p16 => (Sum.inl p16) = o2) ?_ ?_
  ·intro JJ5 hmeet4
   have hup3 := h; clear h; have h := ho2; clear ho2
   refine Run.block ?_
   refine R.bndS (t := 0) (by rfl) (fun hbd8 => ?_)
   replace hbd8 : b0.length ≤ 9223372036854775807 := by first | (rw [List.length_map] at hbd8; exact hbd8) | simp
   refine R.lp (β := Int) [(0, .slice (b0.map eTActivity)), (1, .slice (b1.map eTActivity))] [] (fun bb S => (5, int bb) :: S) (fun bb M => M) (fun n bb => 0 ≤ bb ∧ bb + n = (b0.length : Int) ∧ w_eqActivityS_L1 b1 (b0.drop bb.toNat) bb = some o2) b0.length (0 : Int) ⟨Int.le_refl _, by simp, h⟩ ?_
   clear h
   rintro JJ8 n8 z9 hag8 ⟨hza8, hzb8, h⟩
   refine Run.seq ?_
   refine Run.sr ?_
   refine X.mv ?_
   refine X.mv ?_
   refine X.ls elt30 ?_
   refine X.bi ?_
   refine X.nil ?_
   refine R.cd (fun hc12 => ?_) (fun hc12 => ?_)
   ·obtain ⟨x10, xs11, hd8, hx8, hds8, hlt8⟩ := drop_atI hza8 hc12
    rw [hd8] at h
    rw [w_eqActivityS_L1] at h
    refine Run.skip ?_
    refine Run.seq ?_
    refine Run.block ?_
    refine Run.seq ?_
    refine Run.draw (footOf []) mixed (by kernel_rfl) (by kernel_rfl) ?_
    refine X.mv ?_
    refine X.mv ?_
    refine X.ix elt30 (idxL_spec hx8).1 (idxL_map eTActivity hx8) ?_
    refine X.lc shp50 ?_
    refine X.mv ?_
    refine X.mv ?_
    obtain ⟨v13, hv13, h⟩ := bindE h
    refine X.ix elt30 (idxL_spec hv13).1 (idxL_map eTActivity hv13) ?_
    refine X.lc shp50 ?_
    obtain ⟨v14, hv14, h⟩ := bindE h
    refine X.cp (w_eqActivity_pc _ _ _ hv14) ?_
    refine X.un (by rfl) (by rfl) (by rfl) ?_
    refine X.nil ?_
    refine R.cd (fun hc15 => ?_) (fun hc15 => ?_)
    ·replace h := condT hc15 h
     refine Run.sr ?_
     refine X.an ?_
     cases h
     have h := hup3
     replace h := elimR h
     cases h
     refine R.f1 Tryz.results38 ?_
     rfl
    ·replace h := condF hc15 h
     refine Run.skip ?_
     refine Run.blk ?_
     refine Run.reg ?_
     refine X.mv ?_
     refine X.ad ?_
     refine X.an ?_
     exact R.ag hag8 (n8 - 1) (z9 + 1) (R.n3 (by first | (rw [hds8]; exact h) | (dsimp only; rw [hds8]; exact h)))
   ·rw [drop_endI hza8 hc12] at h
    rw [w_eqActivityS_L1] at h
    refine Run.exit (by rfl) ?_
    exact R.mt hmeet4 () (Option.some.inj h)
  rintro p16 rfl
  replace h := elimL h
  refine Run.sr ?_
  refine X.an ?_
  cases h
  refine R.f1 Tryz.results38 ?_
  rfl
theorem w_eqLink_pc (b0 : TLink) (b1 : TLink) (r : Bool) (h : w_eqLink b0 b1 = some r) : PC Tryz.prog 88 [eTLink b0, eTLink b1] (bool r) := by
 unfold w_eqLink at h
 refine PC.start Tryz.func88 Tryz.ntmps88 rfl ok88 rfl ?_
 refine Run.sr ?_
 refine X.bx ?_
 refine X.bx ?_
 refine X.an ?_
 refine Run.seq ?_
 refine Run.sr ?_
 refine X.fl fld87_0 ?_
 refine X.ld shp3 ?_
 refine X.fl fld87_0 ?_
 refine X.ld shp3 ?_
 refine X.bi ?_
 refine X.nil ?_
 refine R.cd (fun hc1 => ?_) (fun hc1 => ?_)
 ·replace h := condT hc1 h
  refine Run.sr ?_
  refine X.an ?_
  cases h
  refine R.f1 Tryz.results88 ?_
  rfl
 ·replace h := condF hc1 h
  refine Run.skip ?_
  refine Run.seq ?_
  refine Run.sr ?_
  refine X.fl fld87_1 ?_
  refine X.ld shp3 ?_
  refine X.fl fld87_1 ?_
  refine X.ld shp3 ?_
  refine X.bi ?_
  refine X.nil ?_
  refine R.cd (fun hc2 => ?_) (fun hc2 => ?_)
  ·replace h := condT hc2 h
   refine Run.sr ?_
   refine X.an ?_
   cases h
   refine R.f1 Tryz.results88 ?_
   rfl
  ·replace h := condF hc2 h
   refine Run.skip ?_
   refine Run.seq ?_
   refine Run.sr ?_
   refine X.fl fld87_2 ?_
   refine X.ld shp4 ?_
   refine X.fl fld87_2 ?_
   refine X.ld shp4 ?_
   refine X.neqBool Tryz.underlying4 (by rfl) (by rfl) (by rfl) ?_
   refine X.nil ?_
   refine R.cd (fun hc3 => ?_) (fun hc3 => ?_)
   ·replace h := condT hc3 h
    refine Run.sr ?_
    refine X.an ?_
    cases h
    refine R.f1 Tryz.results88 ?_
    rfl
   ·replace h := condF hc3 h
    refine Run.skip ?_
    refine Run.seq ?_
    refine Run.sr ?_
    refine X.fl fld87_3 ?_
    refine X.ld shp3 ?_
    refine X.fl fld87_3 ?_
    refine X.ld shp3 ?_
    refine X.bi ?_
    refine X.nil ?_
    refine R.cd (fun hc4 => ?_) (fun hc4 => ?_)
    ·replace h := condT hc4 h
     refine Run.sr ?_
     refine X.an ?_
     cases h
     refine R.f1 Tryz.results88 ?_
     rfl
    ·replace h := condF hc4 h
     refine Run.skip ?_
     refine Run.sr ?_
     refine X.an ?_
     cases h
     refine R.f1 Tryz.results88 ?_
     rfl
theorem w_eqLinkS_pc (b0 : List TLink) (b1 : List TLink) (r : Bool) (h : w_eqLinkS b0 b1 = some r) : PC Tryz.prog 39 [.slice (b0.map eTLink), .slice (b1.map eTLink)] (bool r) := by
 unfold w_eqLinkS at h
 refine PC.start Tryz.func39 Tryz.ntmps39 rfl ok39 rfl ?_
 refine Run.sr ?_
 refine X.an ?_
 refine Run.seq ?_
 refine Run.sr ?_
 refine X.mv ?_
 refine X.ls elt31 ?_
 refine X.mv ?_
 refine X.ls elt31 ?_
 refine X.bi ?_
 refine X.nil ?_
 refine R.cd (fun hc1 => ?_) (fun hc1 => ?_)
 ·replace h := condT hc1 h
  refine Run.sr ?_
  refine X.an ?_
  cases h
  refine R.f1 Tryz.results39 ?_
  rfl
 ·replace h := condF hc1 h
  refine Run.skip ?_
  refine Run.seq ?_
  refine Run.sr ?_
  refine X.an ?_
  obtain ⟨o2, ho2, h⟩ := bindE h
  refine R.join2 (β := Unit) [] [] (fun p16 S => S) (fun p16 M => M) (fun p16 => (Sum.inl p16) = o2) ?_ ?_
  ·intro JJ5 hmeet4
   have hup3 := h; clear h; have h := ho2; clear ho2
   refine Run.block ?_
   refine R.bndS (t := 0) (by rfl) (fun hbd8 => ?_)
   replace hbd8 : b0.length ≤ 9223372036854775807 := by first | (rw [List.length_map] at hbd8; exact hbd8) | simp
   refine R.lp (β := Int) [(0, .slice (b0.map eTLink)), (1, .slice (b1.map eTLink))] [] (fun bb S => (5, int bb) :: S) (fun bb M => M) (fun n bb => 0 ≤ bb ∧ bb + n = (b0.length : Int) ∧ w_eqLinkS_L1 b1 (b0.drop bb.toNat) bb = some o2) b0.length (0 : Int) ⟨Int.le_refl _, by simp, h⟩ ?_
   clear h
   rintro JJ8 n8 z9 hag8 ⟨hza8, hzb8, h⟩
   refine Run.seq ?_
   refine Run.sr ?_
   refine X.mv ?_
   refine X.mv ?_
   refine X.ls elt31 ?_
   refine X.bi ?_
   refine X.nil ?_
   refine R.cd (fun hc12 => ?_) (fun hc12 => ?_)
   ·obtain ⟨x10, xs11, hd8, hx8, hds8, hlt8⟩ := drop_atI hza8 hc12
    rw [hd8] at h
    rw [w_eqLinkS_L1] at h
    refine Run.skip ?_
    refine Run.seq ?_
    refine Run.block ?_
    refine Run.seq ?_
    refine Run.draw (footOf []) mixed (by kernel_rfl) (by kernel_rfl) ?_
    refine X.mv ?_
    refine X.mv ?_
    refine X.ix elt31 (idxL_spec hx8).1 (idxL_map eTLink hx8) ?_
    refine X.lc shp87 ?_
    refine X.mv ?_
    refine X.mv ?_
    obtain ⟨v13, hv13, h⟩ := bindE h
    refine X.ix elt31 (idxL_spec hv13).1 (idxL_map eTLink hv13) ?_
    refine X.lc shp87 ?_
    obtain ⟨v14, hv14, h⟩ := bindE h
    refine X.cp (w_eqLink_pc _ _ _ hv14) ?_
    refine X.un (by rfl) (by rfl) (by rfl) ?_
    refine X.nil ?_
    refine R.cd (fun hc15 => ?_) (fun hc15 => ?_)
    ·replace h := condT hc15 h
     refine Run.sr ?_
     refine X.an ?_
     cases h
     have h := hup3
     replace h := elimR h
     cases h
     refine R.f1 Tryz.results39 ?_
     rfl
    ·replace h := condF hc15 h
     refine Run.skip ?_
     refine Run.blk ?_
     refine Run.reg ?_
     refine X.mv ?_
     refine X.ad ?_
     refine X.an ?_
     exact R.ag hag8 (n8 - 1) (z9 + 1) (R.n3 (by first | (rw [hds8]; exact h) | (dsimp only; rw [hds8]; exact h)))
   ·rw [drop_endI hza8 hc12] at h
    rw [w_eqLinkS_L1] at h
    refine Run.exit (by rfl) ?_
    exact R.mt hmeet4 () (Option.some.inj h)
  rintro p16 rfl
  replace h := elimL h
  refine Run.sr ?_
  refine X.an ?_
  cases h
  refine R.f1 Tryz.results39 ?_
  rfl
theorem w_eqStep_pc (b0 : TStep) (b1 : TStep) (r : Bool) (h : w_eqStep b0 b1 = some r) : PC Tryz.prog 150 [eTStep b0, eTStep b1] (bool r) := by
 unfold w_eqStep at h
 refine PC.start Tryz.func150 Tryz.ntmps150 rfl ok150 rfl ?_
 refine Run.sr ?_
 refine X.bx ?_
 refine X.bx ?_
 refine X.an ?_
 refine Run.seq ?_
 refine Run.sr ?_
 refine X.fl fld136_0 ?_
 refine X.ld shp3 ?_
 refine X.fl fld136_0 ?_
 refine X.ld shp3 ?_
 refine X.bi ?_
 refine X.nil ?_
 refine R.cd (fun hc1 => ?_) (fun hc1 => ?_)
 ·replace h := condT hc1 h
  refine Run.sr ?_
  refine X.an ?_
  cases h
  refine R.f1 Tryz.results150 ?_
  rfl
 ·replace h := condF hc1 h
  refine Run.skip ?_
  refine Run.seq ?_
  refine Run.sr ?_
  refine X.fl fld136_1 ?_
  refine X.ld shp3 ?_
  refine X.fl fld136_1 ?_
  refine X.ld shp3 ?_
  refine X.bi ?_
  refine X.nil ?_
  refine R.cd (fun hc2 => ?_) (fun hc2 => ?_)
  ·replace h := condT hc2 h
   refine Run.sr ?_
   refine X.an ?_
   cases h
   refine R.f1 Tryz.results150 ?_
   rfl
  ·replace h := condF hc2 h
   refine Run.skip ?_
   refine Run.sr ?_
   refine X.an ?_
   cases h
   refine R.f1 Tryz.results150 ?_
   rfl
theorem w_eqStepS_pc (b0 : List TStep) (b1 : List TStep) (r : Bool) (h : w_eqStepS b0 b1 = some r) : PC Tryz.prog 130 [.slice (b0.map eTStep), .slice (b1.map eTStep)] (bool r) := by
 unfold w_eqStepS at h
 refine PC.start Tryz.func130 Tryz.ntmps130 rfl ok130 rfl ?_
 refine Run.sr ?_
 refine X.an ?_
 refine Run.seq ?_
 refine Run.sr ?_
 refine X.mv ?_
 refine X.ls elt58 ?_
 refine X.mv ?_
 refine X.ls elt58 ?_
 refine X.bi ?_
 refine X.nil ?_
 refine R.cd (fun hc1 => ?_) (fun hc1 => ?_)
 ·replace h := condT hc1 h
  refine Run.sr ?_
  refine X.an ?_
  cases h
  refine R.f1 Tryz.results130 ?_
  rfl
 ·replace h := condF hc1 h
  refine Run.skip ?_
  refine Run.seq ?_
  refine Run.sr ?_
  refine X.an ?_
  obtain ⟨o2, ho2, h⟩ := bindE h
  refine R.join2 (β := Unit) [] [] (fun p16 S => S) (fun p16 M => M) (fun p16 => (Sum.inl p16) = o2) ?_ ?_
  ·intro JJ5 hmeet4
   have hup3 := h; clear h; have h := ho2; clear ho2
   refine Run.block ?_
   refine R.bndS (t := 0) (by rfl) (fun hbd8 => ?_)
   replace hbd8 : b0.length ≤ 9223372036854775807 := by first | (rw [List.length_map] at hbd8; exact hbd8) | simp
   refine R.lp (β := Int) [(0, .slice (b0.map eTStep)), (1, .slice (b1.map eTStep))] [] (fun bb S => (5, int bb) :: S) (fun bb M => M) (fun n bb => 0 ≤ bb ∧ bb + n = (b0.length : Int) ∧ w_eqStepS_L1 b1 (b0.drop bb.toNat) bb = some o2) b0.length (0 : Int) ⟨Int.le_refl _, by simp, h⟩ ?_
   clear h
   rintro JJ8 n8 z9 hag8 ⟨hza8, hzb8, h⟩
   refine Run.seq ?_
   refine Run.sr ?_
   refine X.mv ?_
   refine X.mv ?_
   refine X.ls elt58 ?_
   refine X.bi ?_
   refine X.nil ?_
   refine R.cd (fun hc12 => ?_) (fun hc12 => ?_)
   ·obtain ⟨x10, xs11, hd8, hx8, hds8, hlt8⟩ := drop_atI hza8 hc12
    rw [hd8] at h
    rw [w_eqStepS_L1] at h
    refine Run.skip ?_
    refine Run.seq ?_
    refine Run.block ?_
    refine Run.seq ?_
    refine Run.draw (footOf []) mixed (by kernel_rfl) (by kernel_rfl) ?_
    refine X.mv ?_
    refine X.mv ?_
    refine X.ix elt58 (idxL_spec hx8).1 (idxL_map eTStep hx8) ?_
    refine X.lc shp136 ?_
    refine X.mv ?_
    refine X.mv ?_
    obtain ⟨v13, hv13, h⟩ := bindE h
    refine X.ix elt58 (idxL_spec hv13).1 (idxL_map eTStep hv13) ?_
    refine X.lc shp136 ?_
    obtain ⟨v14, hv14, h⟩ := bindE h
    refine X.cp (w_eqStep_pc _ _ _ hv14) ?_
    refine X.un (by rfl) (by rfl) (by rfl) ?_
    refine X.nil ?_
    refine R.cd (fun hc15 => ?_) (fun hc15 => ?_)
    ·replace h := condT hc15 h
     refine Run.sr ?_
     refine X.an ?_
     cases h
     have h := hup3
     replace h := elimR h
     cases h
     refine R.f1 Tryz.results130 ?_
     rfl
    ·replace h := condF hc15 h
     refine Run.skip ?_
     refine Run.blk ?_
     refine Run.reg ?_
     refine X.mv ?_
     refine X.ad ?_
     refine X.an ?_
     exact R.ag hag8 (n8 - 1) (z9 + 1) (R.n3 (by first | (rw [hds8]; exact h) | (dsimp only; rw [hds8]; exact h)))
   ·rw [drop_endI hza8 hc12] at h
    rw [w_eqStepS_L1] at h
    refine Run.exit (by rfl) ?_
    exact R.mt hmeet4 () (Option.some.inj h)
  rintro p16 rfl
  replace h := elimL h
  refine Run.sr ?_
  refine X.an ?_
  cases h
  refine R.f1 Tryz.results130 ?_
  rfl
theorem w_eqIntSS_pc (b0 : List (List Int)) (b1 : List (List Int)) (r : Bool) (h : w_eqIntSS b0 b1 = some r) : PC Tryz.prog 131 [.slice (b0.map l_int), .slice (b1.map l_int)] (bool r) := by
 unfold w_eqIntSS at h
 refine PC.start Tryz.func131 Tryz.ntmps131 rfl ok131 rfl ?_
 refine Run.sr ?_
 refine X.an ?_
 refine Run.seq ?_
 refine Run.sr ?_
 refine X.mv ?_
 refine X.ls elt59 ?_
 refine X.mv ?_
 refine X.ls elt59 ?_
 refine X.bi ?_
 refine X.nil ?_
 refine R.cd (fun hc1 => ?_) (fun hc1 => ?_)
 ·replace h := condT hc1 h
  refine Run.sr ?_
  refine X.an ?_
  cases h
  refine R.f1 Tryz.results131 ?_
  rfl
 ·replace h := condF hc1 h
  refine Run.skip ?_
  refine Run.seq ?_
  refine Run.sr ?_
  refine X.an ?_
  obtain ⟨o2, ho2, h⟩ := bindE h
  refine R.join2 (β := Unit) [] [] (fun p16 S => S) (fun p16 M => M) (fun p16 => (Sum.inl p16) = o2) ?_ ?_
  ·intro JJ5 hmeet4
   have hup3 := h; clear h; have h := ho2; clear ho2
   refine Run.block ?_
   refine R.bndS (t := 0) (by rfl) (fun hbd8 => ?_)
   replace hbd8 : b0.length ≤ 9223372036854775807 := by first | (rw [List.length_map] at hbd8; exact hbd8) | simp
   refine R.lp (β := Int) [(0, .slice (b0.map l_int)), (1, .slice (b1.map l_int))] [] (fun bb S => (5, int bb) :: S) (fun bb M => M) (fun n bb => 0 ≤ bb ∧ bb + n = (b0.length : Int) ∧ w_eqIntSS_L1 b1 (b0.drop bb.toNat) bb = some o2) b0.length (0 : Int) ⟨Int.le_refl _, by simp, h⟩ ?_
   clear h
   rintro JJ8 n8 z9 hag8 ⟨hza8, hzb8, h⟩
   refine Run.seq ?_
   refine Run.sr ?_
   refine X.mv ?_
   refine X.mv ?_
   refine X.ls elt59 ?_
   refine X.bi ?_
   refine X.nil ?_
   refine R.cd (fun hc12 => ?_) (fun hc12 => ?_)
   ·obtain ⟨x10, xs11, hd8, hx8, hds8, hlt8⟩ := drop_atI hza8 hc12
    rw [hd8] at h
    rw [w_eqIntSS_L1] at h
    refine Run.skip ?_
    refine Run.seq ?_
    refine Run.block ?_
    refine Run.seq ?_
    refine Run.draw (footOf []) mixed (by kernel_rfl) (by kernel_rfl) ?_
    refine X.mv ?_
    refine X.mv ?_
    refine X.ix elt59 (idxL_spec hx8).1 (idxL_map l_int hx8) ?_
    refine X.lc shp25 ?_
    refine X.mv ?_
    refine X.mv ?_
    obtain ⟨v13, hv13, h⟩ := bindE h
    refine X.ix elt59 (idxL_spec hv13).1 (idxL_map l_int hv13) ?_
    refine X.lc shp25 ?_
    obtain ⟨v14, hv14, h⟩ := bindE h
    refine X.cp (w_eqIntS_pc _ _ _ hv14) ?_
    refine X.un (by rfl) (by rfl) (by rfl) ?_
    refine X.nil ?_
    refine R.cd (fun hc15 => ?_) (fun hc15 => ?_)
    ·replace h := condT hc15 h
     refine Run.sr ?_
     refine X.an ?_
     cases h
     have h := hup3
     replace h := elimR h
     cases h
     refine R.f1 Tryz.results131 ?_
     rfl
    ·replace h := condF hc15 h
     refine Run.skip ?_
     refine Run.blk ?_
     refine Run.reg ?_
     refine X.mv ?_
     refine X.ad ?_
     refine X.an ?_
     exact R.ag hag8 (n8 - 1) (z9 + 1) (R.n3 (by first | (rw [hds8]; exact h) | (dsimp only; rw [hds8]; exact h)))
   ·rw [drop_endI hza8 hc12] at h
    rw [w_eqIntSS_L1] at h
    refine Run.exit (by rfl) ?_
    exact R.mt hmeet4 () (Option.some.inj h)
  rintro p16 rfl
  replace h := elimL h
  refine Run.sr ?_
  refine X.an ?_
  cases h
  refine R.f1 Tryz.results131 ?_
  rfl
theorem w_eqResource_pc (b0 : TResource) (b1 : TResource) (r : Bool) (h : w_eqResource b0 b1 = some r) : PC Tryz.prog 89 [eTResource b0, eTResource b1] (bool r) := by
 unfold w_eqResource at h
 refine PC.start Tryz.func89 Tryz.ntmps89 rfl ok89 rfl ?_
 refine Run.sr ?_
 refine X.bx ?_
 refine X.bx ?_
 refine X.an ?_
 refine Run.seq ?_
 refine Run.sr ?_
 refine X.fl fld61_0 ?_
 refine X.ld shp58 ?_
 refine X.fl fld61_0 ?_
 refine X.ld shp58 ?_
 obtain ⟨v1, hv1, h⟩ := bindE h
 refine X.cp (w_eqStepS_pc _ _ _ hv1) ?_
 refine X.un (by rfl) (by rfl) (by rfl) ?_
 refine X.nil ?_
 refine R.cd (fun hc2 => ?_) (fun hc2 => ?_)
 ·replace h := condT hc2 h
  refine Run.sr ?_
  refine X.an ?_
  cases h
  refine R.f1 Tryz.results89 ?_
  rfl
 ·replace h := condF hc2 h
  refine Run.skip ?_
  refine Run.seq ?_
  refine Run.sr ?_
  refine X.fl fld61_1 ?_
  refine X.ld shp59 ?_
  refine X.fl fld61_1 ?_
  refine X.ld shp59 ?_
  obtain ⟨v3, hv3, h⟩ := bindE h
  refine X.cp (w_eqIntSS_pc _ _ _ hv3) ?_
  refine X.un (by rfl) (by rfl) (by rfl) ?_
  refine X.nil ?_
  refine R.cd (fun hc4 => ?_) (fun hc4 => ?_)
  ·replace h := condT hc4 h
   refine Run.sr ?_
   refine X.an ?_
   cases h
   refine R.f1 Tryz.results89 ?_
   rfl
  ·replace h := condF hc4 h
   refine Run.skip ?_
   refine Run.sr ?_
   refine X.an ?_
   cases h
   refine R.f1 Tryz.results89 ?_
   rfl
theorem w_eqResourceS_pc (b0 : List TResource) (b1 : List TResource) (r : Bool) (h : w_eqResourceS b0 b1 = some r) : PC Tryz.prog 40 [.slice (b0.map eTResource), .slice (b1.map eTResource)] (bool r) := by
 unfold w_eqResourceS at h
 refine PC.start Tryz.func40 Tryz.ntmps40 rfl ok40 rfl ?_
 refine Run.sr ?_
 refine X.an ?_
 refine Run.seq ?_
 refine Run.sr ?_
 refine X.mv ?_
 refine X.ls elt32 ?_
 refine X.mv ?_
 refine X.ls elt32 ?_
 refine X.bi ?_
 refine X.nil ?_
 refine R.cd (fun hc1 => ?_) (fun hc1 => ?_)
 ·replace h := condT hc1 h
  refine Run.sr ?_
  refine X.an ?_
  cases h
  refine R.f1 Tryz.results40 ?_
  rfl
 ·replace h := condF hc1 h
  refine Run.skip ?_
  refine Run.seq ?_
  refine Run.sr ?_
  refine X.an ?_
  obtain ⟨o2, ho2, h⟩ := bindE h
  refine R.join2 (β := Unit) [] [] (fun p16 S => S) (fun p16 M => M) (fun p16 => (Sum.inl p16) = o2) ?_ ?_
  ·intro JJ5 hmeet4
   have hup3 := h; clear h; have h := ho2; clear ho2
   refine Run.block ?_
   refine R.bndS (t := 0) (by rfl) (fun hbd8 => ?_)
   replace hbd8 : b0.length ≤ 9223372036854775807 := by first | (rw [List.length_map] at hbd8; exact hbd8) | simp
   refine R.lp (β := Int) [(0, .slice (b0.map eTResource)), (1, .slice (b1.map eTResource))] [] (fun bb S => (5, int bb) :: S) (fun bb M => M) (fun n bb => 0 ≤ bb ∧ bb + n = (b0.length : Int) ∧ w_eqResourceS_L1 b1 (b0.drop bb.toNat) bb = some o2) b0.length (0 : Int) ⟨Int.le_refl _, by simp, h⟩ ?_
   clear h
   rintro JJ8 n8 z9 hag8 ⟨hza8, hzb8, h⟩
   refine Run.seq ?_
   refine Run.sr ?_
   refine X.mv ?_
   refine X.mv ?_
   refine X.ls elt32 ?_
   refine X.bi ?_
   refine X.nil ?_
   refine R.cd (fun hc12 => ?_) (fun hc12 => ?_)
   ·obtain ⟨x10, xs11, hd8, hx8, hds8, hlt8⟩ := drop_atI hza8 hc12
    rw [hd8] at h
    rw [w_eqResourceS_L1] at h
    refine Run.skip ?_
    refine Run.seq ?_
    refine Run.block ?_
    refine Run.seq ?_
    refine Run.draw (footOf []) mixed (by kernel_rfl) (by kernel_rfl) ?_
    refine X.mv ?_
    refine X.mv ?_
    refine X.ix elt32 (idxL_spec hx8).1 (idxL_map eTResource hx8) ?_
    refine X.lc shp61 ?_
    refine X.mv ?_
    refine X.mv ?_
    obtain ⟨v13, hv13, h⟩ := bindE h
    refine X.ix elt32 (idxL_spec hv13).1 (idxL_map eTResource hv13) ?_
    refine X.lc shp61 ?_
    obtain ⟨v14, hv14, h⟩ := bindE h
    refine X.cp (w_eqResource_pc _ _ _ hv14) ?_
    refine X.un (by rfl) (by rfl) (by rfl) ?_
    refine X.nil ?_
    refine R.cd (fun hc15 => ?_) (fun hc15 => ?_)
    ·replace h := condT hc15 h
     refine Run.sr ?_
     refine X.an ?_
     cases h
     have h := hup3
     replace h := elimR h
     cases h
     refine R.f1 Tryz.results40 ?_
     rfl
    ·replace h := condF hc15 h
     refine Run.skip ?_
     refine Run.blk ?_
     refine Run.reg ?_
     refine X.mv ?_
     refine X.ad ?_
     refine X.an ?_
     exact R.ag hag8 (n8 - 1) (z9 + 1) (R.n3 (by first | (rw [hds8]; exact h) | (dsimp only; rw [hds8]; exact h)))
   ·rw [drop_endI hza8 hc12] at h
    rw [w_eqResourceS_L1] at h
    refine Run.exit (by rfl) ?_
    exact R.mt hmeet4 () (Option.some.inj h)
  rintro p16 rfl
  replace h := elimL h
  refine Run.sr ?_
  refine X.an ?_
  cases h
  refine R.f1 Tryz.results40 ?_
  rfl
theorem w_eqProject_pc (b0 : TProject) (b1 : TProject) (r : Bool) (h : w_eqProject b0 b1 = some r) : PC Tryz.prog 10 [eTProject b0, eTProject b1] (bool r) := by
 unfold w_eqProject at h
 refine PC.start Tryz.func10 Tryz.ntmps10 rfl ok10 rfl ?_
 refine Run.sr ?_
 refine X.bx ?_
 refine X.bx ?_
 refine X.an ?_
 refine Run.seq ?_
 refine Run.sr ?_
 refine X.fl fld34_0 ?_
 refine X.ld shp3 ?_
 refine X.fl fld34_0 ?_
 refine X.ld shp3 ?_
 refine X.bi ?_
 refine X.nil ?_
 refine R.cd (fun hc1 => ?_) (fun hc1 => ?_)
 ·replace h := condT hc1 h
  refine Run.sr ?_
  refine X.an ?_
  cases h
  refine R.f1 Tryz.results10 ?_
  rfl
 ·replace h := condF hc1 h
  refine Run.skip ?_
  refine Run.seq ?_
  refine Run.sr ?_
  refine X.fl fld34_1 ?_
  refine X.ld shp30 ?_
  refine X.fl fld34_1 ?_
  refine X.ld shp30 ?_
  obtain ⟨v2, hv2, h⟩ := bindE h
  refine X.cp (w_eqActivityS_pc _ _ _ hv2) ?_
  refine X.un (by rfl) (by rfl) (by rfl) ?_
  refine X.nil ?_
  refine R.cd (fun hc3 => ?_) (fun hc3 => ?_)
  ·replace h := condT hc3 h
   refine Run.sr ?_
   refine X.an ?_
   cases h
   refine R.f1 Tryz.results10 ?_
   rfl
  ·replace h := condF hc3 h
   refine Run.skip ?_
   refine Run.seq ?_
   refine Run.sr ?_
   refine X.fl fld34_2 ?_
   refine X.ld shp31 ?_
   refine X.fl fld34_2 ?_
   refine X.ld shp31 ?_
   obtain ⟨v4, hv4, h⟩ := bindE h
   refine X.cp (w_eqLinkS_pc _ _ _ hv4) ?_
   refine X.un (by rfl) (by rfl) (by rfl) ?_
   refine X.nil ?_
   refine R.cd (fun hc5 => ?_) (fun hc5 => ?_)
   ·replace h := condT hc5 h
    refine Run.sr ?_
    refine X.an ?_
    cases h
    refine R.f1 Tryz.results10 ?_
    rfl
   ·replace h := condF hc5 h
    refine Run.skip ?_
    refine Run.seq ?_
    refine Run.sr ?_
    refine X.fl fld34_3 ?_
    refine X.ld shp32 ?_
    refine X.fl fld34_3 ?_
    refine X.ld shp32 ?_
    obtain ⟨v6, hv6, h⟩ := bindE h
    refine X.cp (w_eqResourceS_pc _ _ _ hv6) ?_
    refine X.un (by rfl) (by rfl) (by rfl) ?_
    refine X.nil ?_
    refine R.cd (fun hc7 => ?_) (fun hc7 => ?_)
    ·replace h := condT hc7 h
     refine Run.sr ?_
     refine X.an ?_
     cases h
     refine R.f1 Tryz.results10 ?_
     rfl
    ·replace h := condF hc7 h
     refine Run.skip ?_
     refine Run.seq ?_
     refine Run.sr ?_
     refine X.fl fld34_4 ?_
     refine X.ld shp25 ?_
     refine X.fl fld34_4 ?_
     refine X.ld shp25 ?_
     obtain ⟨v8, hv8, h⟩ := bindE h
     refine X.cp (w_eqIntS_pc _ _ _ hv8) ?_
     refine X.un (by rfl) (by rfl) (by rfl) ?_
     refine X.nil ?_
     refine R.cd (fun hc9 => ?_) (fun hc9 => ?_)
     ·replace h := condT hc9 h
      refine Run.sr ?_
      refine X.an ?_
      cases h
      refine R.f1 Tryz.results10 ?_
      rfl
     ·replace h := condF hc9 h
      refine Run.skip ?_
      refine Run.sr ?_
      refine X.an ?_
      cases h
      refine R.f1 Tryz.results10 ?_
      rfl
theorem w_FnExactWorkBound_pc (b0 : TProject) (r : Bool) (h : w_FnExactWorkBound b0 = some r) : PC Tryz.prog 3 [eTProject b0] (bool r) := by
 unfold w_FnExactWorkBound at h
 refine PC.start Tryz.func3 Tryz.ntmps3 rfl ok3 rfl ?_
 refine Run.sr ?_
 refine X.bx ?_
 refine X.an ?_
 refine Run.sr ?_
 refine X.an ?_
 refine Run.sr ?_
 refine X.ld shp27 ?_
 refine X.mv ?_
 obtain ⟨v1, hv1, h⟩ := bindE h
 refine X.cp (w_szProject_pc _ _ _ hv1) ?_
 refine X.an ?_
 refine Run.seq ?_
 refine Run.sr ?_
 refine X.mv ?_
 refine X.bi ?_
 refine X.nil ?_
 refine R.cd (fun hc2 => ?_) (fun hc2 => ?_)
 ·replace h := condT hc2 h
  refine Run.sr ?_
  refine X.an ?_
  cases h
  refine R.f1 Tryz.results3 ?_
  rfl
 ·replace h := condF hc2 h
  refine Run.skip ?_
  refine Run.sr ?_
  refine X.ld shp27 ?_
  obtain ⟨v3, hv3, h⟩ := bindE h
  refine X.callA (PC.ofY (ps := [eTProject b0]) (w_toProject_pc _ _ hv3) (by rfl) (by rfl)) (by rfl) (by rfl) (by rfl) (by trivial) (by rfl) (by rfl) (by rfl) (by rfl) (by rfl) (by rfl) ?_
  obtain ⟨v4, hv4, h⟩ := bindE h
  refine X.cp (s_WorkBound_pc _ _ hv4) ?_
  refine X.an ?_
  refine Run.sr ?_
  refine X.ld shp27 ?_
  obtain ⟨v5, hv5, h⟩ := bindE h
  refine X.callA (PC.ofY (ps := [eTProject b0]) (w_toProject_pc _ _ hv5) (by rfl) (by rfl)) (by rfl) (by rfl) (by rfl) (by trivial) (by rfl) (by rfl) (by rfl) (by rfl) (by rfl) (by rfl) ?_
  refine X.alloc zer34 (by rfl) (by rfl) (by rfl) ?_
  refine X.sl shp34 ?_
  refine X.nil ?_
  refine Run.sr ?_
  refine X.ld shp34 ?_
  obtain ⟨v6, hv6, h⟩ := bindE h
  refine X.cp (i_WorkBound_pc _ _ hv6) ?_
  refine X.an ?_
  refine Run.seq ?_
  refine Run.sr ?_
  refine X.mv ?_
  refine X.mv ?_
  refine X.bi ?_
  refine X.nil ?_
  refine R.cd (fun hc7 => ?_) (fun hc7 => ?_)
  ·replace h := condT hc7 h
   refine Run.sr ?_
   refine X.an ?_
   cases h
   refine R.f1 Tryz.results3 ?_
   rfl
  ·replace h := condF hc7 h
   refine Run.skip ?_
   refine Run.seq ?_
   refine Run.seq ?_
   refine Run.draw (footOf [(0, ([320], [], [], [])), (1, ([64], [], [], [])), (2, ([], [1536, 1537, 1538, 1539], [], [])), (3, ([1024, 1025, 1026, 1027, 1536, 1537, 1538, 1539], [], [], []))]) mixed (by kernel_rfl) (by kernel_rfl) ?_
   refine X.ld shp34 ?_
   refine X.ld shp27 ?_
   obtain ⟨v8, hv8, h⟩ := bindE h
   refine X.callA (PC.ofY (ps := [eTProject b0]) (w_toProject_pc _ _ hv8) (by rfl) (by rfl)) (by rfl) (by rfl) (by rfl) (by trivial) (by rfl) (by rfl) (by rfl) (by rfl) (by rfl) (by rfl) ?_
   obtain ⟨v9, hv9, h⟩ := bindE h
   refine X.cp (w_eqProject_pc _ _ _ hv9) ?_
   refine X.un (by rfl) (by rfl) (by rfl) ?_
   refine X.nil ?_
   refine R.cd (fun hc10 => ?_) (fun hc10 => ?_)
   ·replace h := condT hc10 h
    refine Run.sr ?_
    refine X.an ?_
    cases h
    refine R.f1 Tryz.results3 ?_
    rfl
   ·replace h := condF hc10 h
    refine Run.skip ?_
    refine Run.sr ?_
    refine X.an ?_
    cases h
    refine R.f1 Tryz.results3 ?_
    rfl
end Go.Px.YtimegoembedagaaGreat
