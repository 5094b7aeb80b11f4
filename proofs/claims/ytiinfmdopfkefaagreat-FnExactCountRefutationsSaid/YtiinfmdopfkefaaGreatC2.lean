/-
  PROVED: contracts of functions of the program over pure values. No condition beyond those that each theorem names.
-/
import Derived.Test.YtiinfmdopfkefaaGreatProg
import Derived.Test.YtiinfmdopfkefaaGreatD1
import Derived.Test.YtiinfmdopfkefaaGreatS
import Derived.Test.YtiinfmdopfkefaaGreatC1
namespace Go.Px.YtiinfmdopfkefaaGreat
set_option linter.unusedSimpArgs false
set_option linter.unusedVariables false
open Go.Px Go.Proofs
theorem s_DomainForm_pc (b0 : TProject) (b1 : TDomain) (r : Bool) (h : s_DomainForm b0 b1 = some r) : PC Tryz.prog 64 [eTProject b0, eTDomain b1] (bool r) := by
 unfold s_DomainForm at h
 refine PC.start Tryz.func64 Tryz.ntmps64 rfl ok64 rfl ?_
 refine Run.sr ?_
 refine X.bx ?_
 refine X.bx ?_
 refine X.an ?_
 refine Run.seq ?_
 refine Run.seq ?_
 obtain ⟨v1, hv1, h⟩ := bindE h
 obtain ⟨e2, he2, h2⟩ := bindE h
 refine R.regG [(2, .lptr 128 0), (3, .lptr 192 0), (36, bool e2)] [(128, .blk true [int b0.Deadline, .slice (b0.Activities.map eTActivity), .slice (b0.Links.map eTLink), .slice (b0.Resources.map eTResource), .slice (b0.Stocks.map int)]), (192, .blk true [.slice (b1.MinStart.map int), .slice (b1.MaxStart.map int), .slice (b1.Modes.map l_int)])] ?_ ?_
 ·clear h; have h := he2; clear he2 h2
  refine X.ld shp36 ?_
  refine X.cp (s_ProjectOk_pc _ _ hv1) ?_
  refine X.un (by rfl) (by rfl) (by rfl) ?_
  refine X.mv ?_
  refine X.iG (fun hb3 => ?_) (fun hb3 => ?_)
  ·replace h := condF hb3 h
   refine X.fl fld51_0 ?_
   refine X.gy ?_
   refine X.ld shp25 ?_
   refine X.gy ?_
   refine X.ls elt25 ?_
   refine X.gy ?_
   refine X.fl fld36_1 ?_
   refine X.gy ?_
   refine X.ld shp32 ?_
   refine X.gy ?_
   refine X.ls elt32 ?_
   refine X.gy ?_
   refine X.bi ?_
   refine X.pF ?_
   refine X.mv ?_
   refine X.iG (fun hb4 => ?_) (fun hb4 => ?_)
   ·replace h := condF hb4 h
    refine X.fl fld51_1 ?_
    refine X.gy ?_
    refine X.ld shp25 ?_
    refine X.gy ?_
    refine X.ls elt25 ?_
    refine X.gy ?_
    refine X.fl fld36_1 ?_
    refine X.gy ?_
    refine X.ld shp32 ?_
    refine X.gy ?_
    refine X.ls elt32 ?_
    refine X.gy ?_
    refine X.bi ?_
    refine X.pF ?_
    refine X.mv ?_
    refine X.iG (fun hb5 => ?_) (fun hb5 => ?_)
    ·replace h := condF hb5 h
     refine X.fl fld51_2 ?_
     refine X.gy ?_
     refine X.ld shp45 ?_
     refine X.gy ?_
     refine X.ls elt45 ?_
     refine X.gy ?_
     refine X.fl fld36_1 ?_
     refine X.gy ?_
     refine X.ld shp32 ?_
     refine X.gy ?_
     refine X.ls elt32 ?_
     refine X.gy ?_
     refine X.bi ?_
     refine X.pF ?_
     cases h
     exact X.eG
    ·replace h := condT hb5 h
     refine X.gn ?_
     refine X.gn ?_
     refine X.gn ?_
     refine X.gn ?_
     refine X.gn ?_
     refine X.gn ?_
     refine X.pT ?_
     cases h
     exact X.eG
   ·replace h := condT hb4 h
    refine X.gn ?_
    refine X.gn ?_
    refine X.gn ?_
    refine X.gn ?_
    refine X.gn ?_
    refine X.gn ?_
    refine X.pT ?_
    refine X.mv ?_
    refine X.gn ?_
    refine X.gn ?_
    refine X.gn ?_
    refine X.gn ?_
    refine X.gn ?_
    refine X.gn ?_
    refine X.gn ?_
    refine X.pT ?_
    cases h
    exact X.eG
  ·replace h := condT hb3 h
   refine X.gn ?_
   refine X.gn ?_
   refine X.gn ?_
   refine X.gn ?_
   refine X.gn ?_
   refine X.gn ?_
   refine X.pT ?_
   refine X.mv ?_
   refine X.gn ?_
   refine X.gn ?_
   refine X.gn ?_
   refine X.gn ?_
   refine X.gn ?_
   refine X.gn ?_
   refine X.gn ?_
   refine X.pT ?_
   refine X.mv ?_
   refine X.gn ?_
   refine X.gn ?_
   refine X.gn ?_
   refine X.gn ?_
   refine X.gn ?_
   refine X.gn ?_
   refine X.gn ?_
   refine X.pT ?_
   cases h
   exact X.eG
 replace h := h2; clear h2
 refine R.cd (fun hc6 => ?_) (fun hc6 => ?_)
 ·replace h := condT hc6 h
  refine Run.sr ?_
  refine X.an ?_
  cases h
  refine R.f1 Tryz.results64 ?_
  rfl
 ·replace h := condF hc6 h
  refine Run.skip ?_
  refine Run.seq ?_
  refine Run.sr ?_
  refine X.fl fld36_1 ?_
  refine X.ld shp32 ?_
  refine X.ls elt32 ?_
  refine X.mn ?_
  obtain ⟨o7, ho7, h⟩ := bindE h
  refine R.join2 (β := Unit) [] [] (fun p31 S => S) (fun p31 M => M) (fun p31 => (Sum.inl p31) = o7) ?_ ?_
  ·intro JJ10 hmeet9
   have hup8 := h; clear h; have h := ho7; clear ho7
   refine Run.block ?_
   refine R.bndS (t := 38) (by rfl) (fun hbd13 => ?_)
   replace hbd13 : b0.Activities.length ≤ 9223372036854775807 := by first | (rw [List.length_map] at hbd13; exact hbd13) | simp
   refine R.lp (β := Int) [(3, .lptr 192 0), (38, .slice (b0.Activities.map eTActivity)), (39, int (b0.Activities.length : Int))] [(192, .blk true [.slice (b1.MinStart.map int), .slice (b1.MaxStart.map int), .slice (b1.Modes.map l_int)])] (fun bb S => (40, int bb) :: S) (fun bb M => M) (fun n bb => 0 ≤ bb ∧ bb + n = (b0.Activities.length : Int) ∧ s_DomainForm_L1 b1 (b0.Activities.drop bb.toNat) bb = some o7) b0.Activities.length (0 : Int) ⟨Int.le_refl _, by simp, h⟩ ?_
   clear h
   rintro JJ13 n13 z14 hag13 ⟨hza13, hzb13, h⟩
   refine Run.sr ?_
   refine X.bi ?_
   refine X.nil ?_
   refine Run.seq ?_
   refine R.cd (fun hc17 => ?_) (fun hc17 => ?_)
   ·obtain ⟨x15, xs16, hd13, hx13, hds13, hlt13⟩ := drop_atI hza13 hc17
    rw [hd13] at h
    rw [s_DomainForm_L1] at h
    refine Run.skip ?_
    refine Run.seq ?_
    refine Run.block ?_
    refine Run.sr ?_
    refine X.mv ?_
    refine X.ix elt32 (idxL_spec hx13).1 (idxL_map eTActivity hx13) ?_
    refine X.lc shp108 ?_
    refine X.alloc zer108 (by rfl) (by rfl) (by rfl) ?_
    refine X.as ?_
    refine X.sl shp108 ?_
    refine X.nil ?_
    refine Run.seq ?_
    obtain ⟨v18, hv18, h⟩ := bindE h
    obtain ⟨v19, hv19, h⟩ := bindE h
    obtain ⟨e20, he20, h2⟩ := bindE h
    refine R.drawG [(3, .lptr 192 0), (38, .slice (b0.Activities.map eTActivity)), (39, int (b0.Activities.length : Int)), (40, int z14), (80, bool e20)] [(192, .blk true [.slice (b1.MinStart.map int), .slice (b1.MaxStart.map int), .slice (b1.Modes.map l_int)])] (footOf [(1, ([192], [], [], [])), (9, ([192], [], [], [])), (18, ([192], [], [], [])), (27, ([192], [], [], [])), (31, ([384], [], [], [])), (32, ([], [4928], [], [])), (33, ([4928], [], [], []))]) mixed (by kernel_rfl) (by kernel_rfl) ?_ ?_
    ·clear h; have h := he20; clear he20 h2
     refine X.fl fld51_0 ?_
     refine X.ld shp25 ?_
     refine X.mv ?_
     refine X.ix elt25 (idxL_spec hv18).1 (idxL_map int hv18) ?_
     refine X.lc shp3 ?_
     refine X.cp (s_l01In_pc _ _ _ _ hv19) ?_
     refine X.un (by rfl) (by rfl) (by rfl) ?_
     refine X.mv ?_
     refine X.iG (fun hb21 => ?_) (fun hb21 => ?_)
     ·replace h := condF hb21 h
      refine X.fl fld51_1 ?_
      refine X.gy ?_
      refine X.ld shp25 ?_
      refine X.gy ?_
      refine X.mv ?_
      refine X.gy ?_
      obtain ⟨v22, hv22, h⟩ := bindE h
      refine X.ix elt25 (idxL_spec hv22).1 (idxL_map int hv22) ?_
      refine X.gy ?_
      refine X.lc shp3 ?_
      refine X.gy ?_
      obtain ⟨v23, hv23, h⟩ := bindE h
      refine X.cp (s_l01In_pc _ _ _ _ hv23) ?_
      refine X.gy ?_
      refine X.un (by rfl) (by rfl) (by rfl) ?_
      refine X.pF ?_
      refine X.mv ?_
      refine X.iG (fun hb24 => ?_) (fun hb24 => ?_)
      ·replace h := condF hb24 h
       refine X.fl fld51_2 ?_
       refine X.gy ?_
       refine X.ld shp45 ?_
       refine X.gy ?_
       refine X.mv ?_
       refine X.gy ?_
       obtain ⟨v25, hv25, h⟩ := bindE h
       refine X.ix elt45 (idxL_spec hv25).1 (idxL_map l_int hv25) ?_
       refine X.gy ?_
       refine X.lc shp25 ?_
       refine X.gy ?_
       obtain ⟨v26, hv26, h⟩ := bindE h
       refine X.cp (s_SetOk_pc _ _ hv26) ?_
       refine X.gy ?_
       refine X.un (by rfl) (by rfl) (by rfl) ?_
       refine X.pF ?_
       refine X.mv ?_
       refine X.iG (fun hb27 => ?_) (fun hb27 => ?_)
       ·replace h := condF hb27 h
        refine X.fl fld51_2 ?_
        refine X.gy ?_
        refine X.ld shp45 ?_
        refine X.gy ?_
        refine X.mv ?_
        refine X.gy ?_
        refine X.ix elt45 (idxL_spec hv25).1 (idxL_map l_int hv25) ?_
        refine X.gy ?_
        refine X.lc shp25 ?_
        refine X.gy ?_
        refine X.ld shp108 ?_
        refine X.gy ?_
        obtain ⟨v28, hv28, h⟩ := bindE h
        refine X.callF (s_ModeIndexes_pc _ _ hv28) (by rfl) (by rfl) (by rfl) (by trivial) (by rfl) (by rfl) (by rfl) (by rfl) ?_
        refine X.gy ?_
        obtain ⟨v29, hv29, h⟩ := bindE h
        refine X.cp (s_SetSubset_pc _ _ _ hv29) ?_
        refine X.gy ?_
        refine X.un (by rfl) (by rfl) (by rfl) ?_
        refine X.pF ?_
        cases h
        exact X.eG
       ·replace h := condT hb27 h
        refine X.gn ?_
        refine X.gn ?_
        refine X.gn ?_
        refine X.gn ?_
        refine X.gn ?_
        refine X.gn ?_
        refine X.gn ?_
        refine X.gn ?_
        refine X.pT ?_
        cases h
        exact X.eG
      ·replace h := condT hb24 h
       refine X.gn ?_
       refine X.gn ?_
       refine X.gn ?_
       refine X.gn ?_
       refine X.gn ?_
       refine X.gn ?_
       refine X.pT ?_
       refine X.mv ?_
       refine X.gn ?_
       refine X.gn ?_
       refine X.gn ?_
       refine X.gn ?_
       refine X.gn ?_
       refine X.gn ?_
       refine X.gn ?_
       refine X.gn ?_
       refine X.gn ?_
       refine X.pT ?_
       cases h
       exact X.eG
     ·replace h := condT hb21 h
      refine X.gn ?_
      refine X.gn ?_
      refine X.gn ?_
      refine X.gn ?_
      refine X.gn ?_
      refine X.gn ?_
      refine X.pT ?_
      refine X.mv ?_
      refine X.gn ?_
      refine X.gn ?_
      refine X.gn ?_
      refine X.gn ?_
      refine X.gn ?_
      refine X.gn ?_
      refine X.gn ?_
      refine X.pT ?_
      refine X.mv ?_
      refine X.gn ?_
      refine X.gn ?_
      refine X.gn ?_
      refine X.gn ?_
      refine X.gn ?_
      refine X.gn ?_
      refine X.gn ?_
      refine X.gn ?_
      refine X.gn ?_
      refine X.pT ?_
      cases h
      exact X.eG
    replace h := h2; clear h2
    refine R.cd (fun hc30 => ?_) (fun hc30 => ?_)
    ·replace h := condT hc30 h
     refine Run.sr ?_
     refine X.an ?_
     cases h
     have h := hup8
     replace h := elimR h
     cases h
     refine R.f1 Tryz.results64 ?_
     rfl
    ·replace h := condF hc30 h
     refine Run.skip ?_
     refine Run.blk ?_
     refine Run.reg ?_
     refine X.ad ?_
     refine X.mn ?_
     exact R.ag hag13 (n13 - 1) (z14 + 1) (R.n3 (by first | (rw [hds13]; exact h) | (dsimp only; rw [hds13]; exact h)))
   ·rw [drop_endI hza13 hc17] at h
    rw [s_DomainForm_L1] at h
    refine Run.exit (by rfl) ?_
    exact R.mt hmeet9 () (Option.some.inj h)
  rintro p31 rfl
  replace h := elimL h
  refine Run.sr ?_
  refine X.an ?_
  cases h
  refine R.f1 Tryz.results64 ?_
  rfl
theorem s_DomainEmpty_pc (b0 : TDomain) (r : Bool) (h : s_DomainEmpty b0 = some r) : PC Tryz.prog 65 [eTDomain b0] (bool r) := by
 unfold s_DomainEmpty at h
 refine PC.start Tryz.func65 Tryz.ntmps65 rfl ok65 rfl ?_
 refine Run.sr ?_
 refine X.bx ?_
 refine X.an ?_
 refine Run.seq ?_
 refine Run.sr ?_
 refine X.fl fld51_0 ?_
 refine X.ld shp25 ?_
 refine X.ls elt25 ?_
 refine X.mn ?_
 obtain ⟨o1, ho1, h⟩ := bindE h
 refine R.join2 (β := Unit) [(1, .lptr 64 0)] [(64, .blk true [.slice (b0.MinStart.map int), .slice (b0.MaxStart.map int), .slice (b0.Modes.map l_int)])] (fun p16 S => S) (fun p16 M => M) (fun p16 => (Sum.inl p16) = o1) ?_ ?_
 ·intro JJ4 hmeet3
  have hup2 := h; clear h; have h := ho1; clear ho1
  refine Run.block ?_
  refine R.bndS (t := 8) (by rfl) (fun hbd7 => ?_)
  replace hbd7 : b0.MinStart.length ≤ 9223372036854775807 := by first | (rw [List.length_map] at hbd7; exact hbd7) | simp
  refine R.lp (β := Int) [(1, .lptr 64 0), (8, .slice (b0.MinStart.map int)), (9, int (b0.MinStart.length : Int))] [(64, .blk true [.slice (b0.MinStart.map int), .slice (b0.MaxStart.map int), .slice (b0.Modes.map l_int)])] (fun bb S => (10, int bb) :: S) (fun bb M => M) (fun n bb => 0 ≤ bb ∧ bb + n = (b0.MinStart.length : Int) ∧ s_DomainEmpty_L1 b0 (b0.MinStart.drop bb.toNat) bb = some o1) b0.MinStart.length (0 : Int) ⟨Int.le_refl _, by simp, h⟩ ?_
  clear h
  rintro JJ7 n7 z8 hag7 ⟨hza7, hzb7, h⟩
  refine Run.sr ?_
  refine X.bi ?_
  refine X.nil ?_
  refine Run.seq ?_
  refine R.cd (fun hc11 => ?_) (fun hc11 => ?_)
  ·obtain ⟨x9, xs10, hd7, hx7, hds7, hlt7⟩ := drop_atI hza7 hc11
   rw [hd7] at h
   rw [s_DomainEmpty_L1] at h
   refine Run.skip ?_
   refine Run.seq ?_
   refine Run.block ?_
   refine Run.sr ?_
   refine X.mv ?_
   refine X.ix elt25 (idxL_spec hx7).1 (idxL_map int hx7) ?_
   refine X.lc shp3 ?_
   refine X.as ?_
   refine X.an ?_
   refine Run.seq ?_
   obtain ⟨e12, he12, h2⟩ := bindE h
   refine R.regG [(1, .lptr 64 0), (8, .slice (b0.MinStart.map int)), (9, int (b0.MinStart.length : Int)), (10, int z8), (28, bool e12)] [(64, .blk true [.slice (b0.MinStart.map int), .slice (b0.MaxStart.map int), .slice (b0.Modes.map l_int)])] ?_ ?_
   ·clear h; have h := he12; clear he12 h2
    refine X.mv ?_
    refine X.fl fld51_1 ?_
    refine X.ld shp25 ?_
    refine X.ls elt25 ?_
    refine X.bi ?_
    refine X.mv ?_
    refine X.iG (fun hb13 => ?_) (fun hb13 => ?_)
    ·replace h := condT hb13 h
     refine X.mv ?_
     refine X.gy ?_
     refine X.fl fld51_1 ?_
     refine X.gy ?_
     refine X.ld shp25 ?_
     refine X.gy ?_
     refine X.mv ?_
     refine X.gy ?_
     obtain ⟨v14, hv14, h⟩ := bindE h
     refine X.ix elt25 (idxL_spec hv14).1 (idxL_map int hv14) ?_
     refine X.gy ?_
     refine X.lc shp3 ?_
     refine X.gy ?_
     refine X.bi ?_
     refine X.pT ?_
     cases h
     exact X.eG
    ·replace h := condF hb13 h
     refine X.gn ?_
     refine X.gn ?_
     refine X.gn ?_
     refine X.gn ?_
     refine X.gn ?_
     refine X.gn ?_
     refine X.pF ?_
     cases h
     exact X.eG
   replace h := h2; clear h2
   refine R.cd (fun hc15 => ?_) (fun hc15 => ?_)
   ·replace h := condT hc15 h
    refine Run.sr ?_
    refine X.an ?_
    cases h
    have h := hup2
    replace h := elimR h
    cases h
    refine R.f1 Tryz.results65 ?_
    rfl
   ·replace h := condF hc15 h
    refine Run.skip ?_
    refine Run.blk ?_
    refine Run.reg ?_
    refine X.ad ?_
    refine X.mn ?_
    exact R.ag hag7 (n7 - 1) (z8 + 1) (R.n3 (by first | (rw [hds7]; exact h) | (dsimp only; rw [hds7]; exact h)))
  ·rw [drop_endI hza7 hc11] at h
   rw [s_DomainEmpty_L1] at h
   refine Run.exit (by rfl) ?_
   exact R.mt hmeet3 () (Option.some.inj h)
 rintro p16 rfl
 replace h := elimL h
 refine Run.seq ?_
 refine Run.sr ?_
 refine X.fl fld51_2 ?_
 refine X.ld shp45 ?_
 refine X.ls elt45 ?_
 refine X.mn ?_
 obtain ⟨o18, ho18, h⟩ := bindE h
 refine R.join2 (β := Unit) [] [] (fun p30 S => S) (fun p30 M => M) (fun p30 => (Sum.inl p30) = o18) ?_ ?_
 ·intro JJ21 hmeet20
  have hup19 := h; clear h; have h := ho18; clear ho18
  refine Run.block ?_
  refine R.bndS (t := 31) (by rfl) (fun hbd24 => ?_)
  replace hbd24 : b0.Modes.length ≤ 9223372036854775807 := by first | (rw [List.length_map] at hbd24; exact hbd24) | simp
  refine R.lp (β := Int) [(31, .slice (b0.Modes.map l_int)), (32, int (b0.Modes.length : Int))] [] (fun bb S => (33, int bb) :: S) (fun bb M => M) (fun n bb => 0 ≤ bb ∧ bb + n = (b0.Modes.length : Int) ∧ s_DomainEmpty_L2 (b0.Modes.drop bb.toNat) bb = some o18) b0.Modes.length (0 : Int) ⟨Int.le_refl _, by simp, h⟩ ?_
  clear h
  rintro JJ24 n24 z25 hag24 ⟨hza24, hzb24, h⟩
  refine Run.sr ?_
  refine X.bi ?_
  refine X.nil ?_
  refine Run.seq ?_
  refine R.cd (fun hc28 => ?_) (fun hc28 => ?_)
  ·obtain ⟨x26, xs27, hd24, hx24, hds24, hlt24⟩ := drop_atI hza24 hc28
   rw [hd24] at h
   rw [s_DomainEmpty_L2] at h
   refine Run.skip ?_
   refine Run.seq ?_
   refine Run.block ?_
   refine Run.sr ?_
   refine X.ix elt45 (idxL_spec hx24).1 (idxL_map l_int hx24) ?_
   refine X.lc shp25 ?_
   refine X.an ?_
   refine Run.sr ?_
   refine X.mv ?_
   refine X.ls elt25 ?_
   refine X.bi ?_
   refine X.nil ?_
   refine R.cd (fun hc29 => ?_) (fun hc29 => ?_)
   ·replace h := condT hc29 h
    refine Run.sr ?_
    refine X.an ?_
    cases h
    have h := hup19
    replace h := elimR h
    cases h
    refine R.f1 Tryz.results65 ?_
    rfl
   ·replace h := condF hc29 h
    refine Run.skip ?_
    refine Run.blk ?_
    refine Run.reg ?_
    refine X.ad ?_
    refine X.mn ?_
    exact R.ag hag24 (n24 - 1) (z25 + 1) (R.n3 (by first | (rw [hds24]; exact h) | (dsimp only; rw [hds24]; exact h)))
  ·rw [drop_endI hza24 hc28] at h
   rw [s_DomainEmpty_L2] at h
   refine Run.exit (by rfl) ?_
   exact R.mt hmeet20 () (Option.some.inj h)
 rintro p30 rfl
 replace h := elimL h
 refine Run.sr ?_
 refine X.an ?_
 cases h
 refine R.f1 Tryz.results65 ?_
 rfl
theorem s_l14Ok_pc (b0 : TProject) (b1 : TDomain) (r : Bool) (h : s_l14Ok b0 b1 = some r) : PC Tryz.prog 54 [eTProject b0, eTDomain b1] (bool r) := by
 unfold s_l14Ok at h
 refine PC.start Tryz.func54 Tryz.ntmps54 rfl ok54 rfl ?_
 refine Run.sr ?_
 refine X.bx ?_
 refine X.bx ?_
 refine X.an ?_
 refine Run.seq ?_
 obtain ⟨v1, hv1, h⟩ := bindE h
 obtain ⟨e2, he2, h2⟩ := bindE h
 refine R.regG [(4, bool e2)] [] ?_ ?_
 ·clear h; have h := he2; clear he2 h2
  refine X.ld shp36 ?_
  refine X.ld shp51 ?_
  refine X.cp (s_DomainForm_pc _ _ _ hv1) ?_
  refine X.mv ?_
  refine X.iG (fun hb3 => ?_) (fun hb3 => ?_)
  ·replace h := condT hb3 h
   refine X.ld shp51 ?_
   refine X.gy ?_
   obtain ⟨v4, hv4, h⟩ := bindE h
   refine X.cp (s_DomainEmpty_pc _ _ hv4) ?_
   refine X.gy ?_
   refine X.un (by rfl) (by rfl) (by rfl) ?_
   refine X.pT ?_
   refine X.as ?_
   cases h
   exact X.eG
  ·replace h := condF hb3 h
   refine X.gn ?_
   refine X.gn ?_
   refine X.pF ?_
   refine X.as ?_
   cases h
   exact X.eG
 replace h := h2; clear h2
 cases h
 refine R.f1 Tryz.results54 ?_
 rfl
theorem s_MaxDuration_pc (b0 : TActivity) (b1 : List Int) (r : Int) (h : s_MaxDuration b0 b1 = some r) : PC Tryz.prog 140 [eTActivity b0, .slice (b1.map int)] (int r) := by
 unfold s_MaxDuration at h
 refine PC.start Tryz.func140 Tryz.ntmps140 rfl ok140 rfl ?_
 refine Run.sr ?_
 refine X.bx ?_
 refine X.an ?_
 refine Run.sr ?_
 refine X.an ?_
 refine Run.sr ?_
 refine X.an ?_
 refine Run.seq ?_
 refine Run.sr ?_
 refine X.fl fld108_2 ?_
 refine X.ld shp106 ?_
 refine X.ls elt106 ?_
 refine X.mn ?_
 obtain ⟨o1, ho1, h⟩ := bindE h
 refine R.join2 (β := Int) [] [] (fun p19 S => (5, int p19) :: S) (fun p19 M => M) (fun p19 => p19 = o1) ?_ ?_
 ·intro JJ4 hmeet3
  have hup2 := h; clear h; have h := ho1; clear ho1
  refine Run.block ?_
  refine R.bndS (t := 10) (by rfl) (fun hbd7 => ?_)
  replace hbd7 : b0.Modes.length ≤ 9223372036854775807 := by first | (rw [List.length_map] at hbd7; exact hbd7) | simp
  refine R.lp (β := Int × Int × Bool) [(1, .slice (b1.map int)), (10, .slice (b0.Modes.map eTMode)), (11, int (b0.Modes.length : Int))] [] (fun bb S => (5, int bb.2.1) :: (6, bool bb.2.2) :: (12, int bb.1) :: S) (fun bb M => M) (fun n bb => 0 ≤ bb.1 ∧ bb.1 + n = (b0.Modes.length : Int) ∧ s_MaxDuration_L1 b1 (b0.Modes.drop bb.1.toNat) bb.1 bb.2.1 bb.2.2 = some o1) b0.Modes.length (0, 0, false) ⟨Int.le_refl _, by simp, h⟩ ?_
  clear h
  rintro JJ7 n7 ⟨z8, a9, a10⟩ hag7 ⟨hza7, hzb7, h⟩
  dsimp only at hza7 hzb7 h
  refine Run.sr ?_
  refine X.bi ?_
  refine X.nil ?_
  refine Run.seq ?_
  refine R.cd (fun hc13 => ?_) (fun hc13 => ?_)
  ·obtain ⟨x11, xs12, hd7, hx7, hds7, hlt7⟩ := drop_atI hza7 hc13
   rw [hd7] at h
   rw [s_MaxDuration_L1] at h
   refine Run.skip ?_
   refine Run.seq ?_
   refine Run.block ?_
   refine Run.sr ?_
   refine X.mv ?_
   refine X.ix elt106 (idxL_spec hx7).1 (idxL_map eTMode hx7) ?_
   refine X.lc shp110 ?_
   refine X.alloc zer110 (by rfl) (by rfl) (by rfl) ?_
   refine X.as ?_
   refine X.sl shp110 ?_
   refine X.nil ?_
   refine Run.seq ?_
   obtain ⟨v14, hv14, h⟩ := bindE h
   obtain ⟨e15, he15, h2⟩ := bindE h
   refine R.regG [(1, .slice (b1.map int)), (5, int a9), (6, bool a10), (8, .lptr 512 0), (10, .slice (b0.Modes.map eTMode)), (11, int (b0.Modes.length : Int)), (12, int z8), (29, bool e15)] [(512, .blk true [int x11.Duration, .slice (x11.Usage.map int), .slice (x11.Consumption.map int)])] ?_ ?_
   ·clear h; have h := he15; clear he15 h2
    refine X.mv ?_
    refine X.mv ?_
    refine X.cp (s_SetHas_pc _ _ _ hv14) ?_
    refine X.mv ?_
    refine X.iG (fun hb16 => ?_) (fun hb16 => ?_)
    ·replace h := condT hb16 h
     refine X.mv ?_
     refine X.gy ?_
     refine X.un (by rfl) (by rfl) (by rfl) ?_
     refine X.gy ?_
     refine X.mv ?_
     refine X.iG (fun hb17 => ?_) (fun hb17 => ?_)
     ·replace h := condF hb17 h
      refine X.fl fld110_0 ?_
      refine X.gy ?_
      refine X.ld shp3 ?_
      refine X.gy ?_
      refine X.mv ?_
      refine X.gy ?_
      refine X.bi ?_
      refine X.gy ?_
      refine X.pF ?_
      refine X.pT ?_
      cases h
      exact X.eG
     ·replace h := condT hb17 h
      refine X.gn ?_
      refine X.gn ?_
      refine X.gn ?_
      refine X.gy ?_
      refine X.pT ?_
      refine X.pT ?_
      cases h
      exact X.eG
    ·replace h := condF hb16 h
     refine X.gn ?_
     refine X.gn ?_
     refine X.gU (by rfl) (by rfl) (by rfl) ?_
     refine X.gU (by rfl) (by rfl) (by rfl) ?_
     refine X.gU (by rfl) (by rfl) (by rfl) ?_
     refine X.gU (by rfl) (by rfl) (by rfl) ?_
     refine X.gn ?_
     refine X.pF ?_
     cases h
     exact X.eG
   replace h := h2; clear h2
   refine R.cd (fun hc18 => ?_) (fun hc18 => ?_)
   ·replace h := condT hc18 h
    refine Run.sr ?_
    refine X.fl fld110_0 ?_
    refine X.ld shp3 ?_
    refine X.an ?_
    refine Run.reg ?_
    refine X.an ?_
    refine Run.blk ?_
    refine Run.reg ?_
    refine X.ad ?_
    refine X.mn ?_
    exact R.ag hag7 (n7 - 1) (z8 + 1, x11.Duration, true) (R.n3 (by first | (rw [hds7]; exact h) | (dsimp only; rw [hds7]; exact h)))
   ·replace h := condF hc18 h
    refine Run.skip ?_
    refine Run.blk ?_
    refine Run.reg ?_
    refine X.ad ?_
    refine X.mn ?_
    exact R.ag hag7 (n7 - 1) (z8 + 1, a9, a10) (R.n3 (by first | (rw [hds7]; exact h) | (dsimp only; rw [hds7]; exact h)))
  ·rw [drop_endI hza7 hc13] at h
   rw [s_MaxDuration_L1] at h
   refine Run.exit (by rfl) ?_
   exact R.mt hmeet3 a9 (Option.some.inj h)
 rintro p19 rfl
 refine Run.sr ?_
 refine X.mv ?_
 refine X.an ?_
 cases h
 refine R.f1 Tryz.results140 ?_
 rfl
theorem s_Intervals_pc (b0 : TProject) (b1 : TDomain) (r : List (List Int)) (h : s_Intervals b0 b1 = some r) : PC Tryz.prog 97 [eTProject b0, eTDomain b1] (.fresh false 25 1 (r.map l_int)) := by
 unfold s_Intervals at h
 refine PC.start Tryz.func97 Tryz.ntmps97 rfl ok97 rfl ?_
 refine Run.sr ?_
 refine X.bx ?_
 refine X.bx ?_
 refine X.an ?_
 refine Run.sr ?_
 refine X.buildSlice false elt45 zer25 (by rfl) (by rfl) (by rfl) (by rfl) (by rfl) (by rfl) (by repeat (first | trivial | refine ⟨by first | rfl | simp [setL], ?_⟩)) (allSz_spec (by rfl)) (by rfl) (by rfl) (by rfl) ?_
 refine X.an ?_
 refine Run.seq ?_
 refine Run.sr ?_
 refine X.ld shp36 ?_
 refine X.ld shp51 ?_
 obtain ⟨v1, hv1, h⟩ := bindE h
 refine X.cp (s_l14Ok_pc _ _ _ hv1) ?_
 refine X.un (by rfl) (by rfl) (by rfl) ?_
 refine X.nil ?_
 refine R.cd (fun hc2 => ?_) (fun hc2 => ?_)
 ·replace h := condT hc2 h
  refine Run.sr ?_
  refine X.an ?_
  cases h
  refine R.fin1n (x := false) (e := 25) (sz := 1) Tryz.results97 (by rfl) (by decide) ?_
  rfl
 ·replace h := condF hc2 h
  refine Run.skip ?_
  refine Run.sr ?_
  refine X.buildSlice false elt25 zer3 (by rfl) (by rfl) (by rfl) (by rfl) (by rfl) (by rfl) (by repeat (first | trivial | refine ⟨by first | rfl | simp [setL], ?_⟩)) (allSz_spec (by rfl)) (by rfl) (by rfl) (by rfl) ?_
  refine X.an ?_
  refine Run.seq ?_
  refine Run.sr ?_
  refine X.fl fld36_1 ?_
  refine X.ld shp32 ?_
  refine X.ls elt32 ?_
  refine X.mn ?_
  obtain ⟨o3, ho3, h⟩ := bindE h
  refine R.join2 (β := (List Int)) [(3, .lptr 192 0)] [(192, .blk true [.slice (b1.MinStart.map int), .slice (b1.MaxStart.map int), .slice (b1.Modes.map l_int)]), (768, .obj false 25 1 (([] : List (List Int)).map l_int))] (fun p19 S => (5, .own 768 (([] : List (List Int)).map l_int).length) :: (6, .slice (p19.map int)) :: S) (fun p19 M => M) (fun p19 => p19 = o3) ?_ ?_
  ·intro JJ6 hmeet5
   have hup4 := h; clear h; have h := ho3; clear ho3
   refine Run.block ?_
   refine R.castS (t := 6) _ (by rfl) (.inr (.inr ⟨_, _, _, _, _, rfl, (by rfl), (by first | rfl | simp [setL] | omega), rfl⟩)) ?_
   refine R.bndS (t := 19) (by rfl) (fun hbd9 => ?_)
   replace hbd9 : b0.Activities.length ≤ 9223372036854775807 := by first | (rw [List.length_map] at hbd9; exact hbd9) | simp
   refine R.lp (β := Int × (List Int)) [(2, .lptr 128 0), (3, .lptr 192 0), (20, int (b0.Activities.length : Int))] [(128, .blk true [int b0.Deadline, .slice (b0.Activities.map eTActivity), .slice (b0.Links.map eTLink), .slice (b0.Resources.map eTResource), .slice (b0.Stocks.map int)]), (192, .blk true [.slice (b1.MinStart.map int), .slice (b1.MaxStart.map int), .slice (b1.Modes.map l_int)]), (768, .obj false 25 1 (([] : List (List Int)).map l_int))] (fun bb S => (5, .own 768 (([] : List (List Int)).map l_int).length) :: (6, .slice (bb.2.map int)) :: (21, int bb.1) :: S) (fun bb M => M) (fun n bb => 0 ≤ bb.1 ∧ bb.1 + n = (b0.Activities.length : Int) ∧ s_Intervals_L1 b1 (b0.Activities.drop bb.1.toNat) bb.1 bb.2 = some o3) b0.Activities.length (0, ([] : List Int)) ⟨Int.le_refl _, by simp, h⟩ ?_
   clear h
   rintro JJ9 n9 ⟨z10, a11⟩ hag9 ⟨hza9, hzb9, h⟩
   dsimp only at hza9 hzb9 h
   refine Run.sr ?_
   refine X.bi ?_
   refine X.nil ?_
   refine Run.seq ?_
   refine R.cd (fun hc14 => ?_) (fun hc14 => ?_)
   ·obtain ⟨x12, xs13, hd9, hx9, hds9, hlt9⟩ := drop_atI hza9 hc14
    rw [hd9] at h
    rw [s_Intervals_L1] at h
    refine Run.skip ?_
    refine Run.seq ?_
    refine Run.block ?_
    refine Run.sr ?_
    refine X.mv ?_
    refine X.an ?_
    refine Run.draw (footOf [(2, ([192], [], [], [])), (7, ([128], [], [], [])), (12, ([192], [], [], []))]) mixed (by kernel_rfl) (by kernel_rfl) ?_
    refine X.mv ?_
    refine X.fl fld51_1 ?_
    refine X.ld shp25 ?_
    refine X.mv ?_
    obtain ⟨v15, hv15, h⟩ := bindE h
    refine X.ix elt25 (idxL_spec hv15).1 (idxL_map int hv15) ?_
    refine X.lc shp3 ?_
    refine X.fl fld36_1 ?_
    refine X.ld shp32 ?_
    refine X.mv ?_
    refine X.ix elt32 (idxL_spec hx9).1 (idxL_map eTActivity hx9) ?_
    refine X.lc shp108 ?_
    refine X.fl fld51_2 ?_
    refine X.ld shp45 ?_
    refine X.mv ?_
    obtain ⟨v16, hv16, h⟩ := bindE h
    refine X.ix elt45 (idxL_spec hv16).1 (idxL_map l_int hv16) ?_
    refine X.lc shp25 ?_
    obtain ⟨v17, hv17, h⟩ := bindE h
    refine X.cp (s_MaxDuration_pc _ _ _ hv17) ?_
    refine X.addW (by rfl) (by rfl) (by rfl) ?_
    obtain ⟨v18, hv18, h⟩ := bindE h
    refine X.cp (s_SetAdd_pc _ _ _ hv18) ?_
    refine X.an ?_
    refine Run.blk ?_
    refine Run.reg ?_
    refine X.ad ?_
    refine X.mn ?_
    exact R.ag hag9 (n9 - 1) (z10 + 1, v18) (R.n3 (by first | (rw [hds9]; exact h) | (dsimp only; rw [hds9]; exact h)))
   ·rw [drop_endI hza9 hc14] at h
    rw [s_Intervals_L1] at h
    refine Run.exit (by rfl) ?_
    exact R.mt hmeet5 a11 (Option.some.inj h)
  rintro p19 rfl
  refine Run.seq ?_
  refine Run.sr ?_
  refine X.fl fld51_0 ?_
  refine X.ld shp25 ?_
  obtain ⟨v20, hv20, h⟩ := bindE h
  refine X.cp (s_SetOf_pc _ _ hv20) ?_
  refine X.ls elt25 ?_
  refine X.mn ?_
  obtain ⟨o21, ho21, h⟩ := bindE h
  refine R.join2 (β := (List (List Int))) [] [] (fun p53 S => (5, .own 768 (p53.map l_int).length) :: S) (fun p53 M => (768, .obj false 25 1 (p53.map l_int)) :: M) (fun p53 => p53 = o21) ?_ ?_
  ·intro JJ24 hmeet23
   have hup22 := h; clear h; have h := ho21; clear ho21
   refine Run.block ?_
   refine R.bndS (t := 46) (by rfl) (fun hbd27 => ?_)
   replace hbd27 : v20.length ≤ 9223372036854775807 := by first | (rw [List.length_map] at hbd27; exact hbd27) | simp
   refine R.lp (β := Int × (List (List Int))) [(6, .slice (p19.map int)), (46, .slice (v20.map int)), (47, int (v20.length : Int))] [] (fun bb S => (5, .own 768 (bb.2.map l_int).length) :: (48, int bb.1) :: S) (fun bb M => (768, .obj false 25 1 (bb.2.map l_int)) :: M) (fun n bb => 0 ≤ bb.1 ∧ bb.1 + n = (v20.length : Int) ∧ s_Intervals_L2 p19 (v20.drop bb.1.toNat) bb.1 bb.2 = some o21) v20.length (0, ([] : List (List Int))) ⟨Int.le_refl _, by simp, h⟩ ?_
   clear h
   rintro JJ27 n27 ⟨z28, a29⟩ hag27 ⟨hza27, hzb27, h⟩
   dsimp only at hza27 hzb27 h
   refine Run.sr ?_
   refine X.bi ?_
   refine X.nil ?_
   refine Run.seq ?_
   refine R.cd (fun hc32 => ?_) (fun hc32 => ?_)
   ·obtain ⟨x30, xs31, hd27, hx27, hds27, hlt27⟩ := drop_atI hza27 hc32
    rw [hd27] at h
    rw [s_Intervals_L2] at h
    refine Run.skip ?_
    refine Run.seq ?_
    refine Run.block ?_
    refine Run.sr ?_
    refine X.ix elt25 (idxL_spec hx27).1 (idxL_map int hx27) ?_
    refine X.lc shp3 ?_
    refine X.an ?_
    refine Run.sr ?_
    refine X.mv ?_
    refine X.ls elt25 ?_
    refine X.mn ?_
    obtain ⟨o33, ho33, h⟩ := bindE h
    refine R.join2 (β := (List (List Int))) [(6, .slice (p19.map int)), (46, .slice (v20.map int)), (47, int (v20.length : Int)), (48, int z28)] [] (fun p52 S => (5, .own 768 (p52.map l_int).length) :: S) (fun p52 M => (768, .obj false 25 1 (p52.map l_int)) :: M) (fun p52 => p52 = o33) ?_ ?_
    ·intro JJ36 hmeet35
     have hup34 := h; clear h; have h := ho33; clear ho33
     refine Run.block ?_
     refine R.bndS (t := 6) (by rfl) (fun hbd39 => ?_)
     replace hbd39 : p19.length ≤ 9223372036854775807 := by first | (rw [List.length_map] at hbd39; exact hbd39) | simp
     refine R.lp (β := Int × (List (List Int))) [(6, .slice (p19.map int)), (9, int x30), (46, .slice (v20.map int)), (47, int (v20.length : Int)), (48, int z28), (52, .slice (p19.map int)), (53, int (p19.length : Int))] [] (fun bb S => (5, .own 768 (bb.2.map l_int).length) :: (54, int bb.1) :: S) (fun bb M => (768, .obj false 25 1 (bb.2.map l_int)) :: M) (fun n bb => 0 ≤ bb.1 ∧ bb.1 + n = (p19.length : Int) ∧ s_Intervals_L3 x30 (p19.drop bb.1.toNat) bb.1 bb.2 = some o33) p19.length (0, a29) ⟨Int.le_refl _, by simp, h⟩ ?_
     clear h
     rintro JJ39 n39 ⟨z40, a41⟩ hag39 ⟨hza39, hzb39, h⟩
     dsimp only at hza39 hzb39 h
     refine Run.sr ?_
     refine X.bi ?_
     refine X.nil ?_
     refine Run.seq ?_
     refine R.cd (fun hc44 => ?_) (fun hc44 => ?_)
     ·obtain ⟨x42, xs43, hd39, hx39, hds39, hlt39⟩ := drop_atI hza39 hc44
      rw [hd39] at h
      rw [s_Intervals_L3] at h
      refine Run.skip ?_
      refine Run.seq ?_
      refine Run.block ?_
      refine Run.sr ?_
      refine X.ix elt25 (idxL_spec hx39).1 (idxL_map int hx39) ?_
      refine X.lc shp3 ?_
      refine X.an ?_
      refine Run.seq ?_
      obtain ⟨e45, he45, h2⟩ := bindE h
      refine R.regG [(5, .own 768 (a41.map l_int).length), (6, .slice (p19.map int)), (9, int x30), (11, int x42), (46, .slice (v20.map int)), (47, int (v20.length : Int)), (48, int z28), (52, .slice (p19.map int)), (53, int (p19.length : Int)), (54, int z40), (68, bool e45)] [(768, .obj false 25 1 (a41.map l_int))] ?_ ?_
      ·clear h; have h := he45; clear he45 h2
       refine X.mv ?_
       refine X.mv ?_
       refine X.bi ?_
       refine X.mv ?_
       refine X.iG (fun hb46 => ?_) (fun hb46 => ?_)
       ·replace h := condT hb46 h
        refine X.mv ?_
        refine X.gy ?_
        obtain ⟨v47, hv47, h⟩ := bindE h
        refine X.cp (s_l01In_pc _ _ _ _ hv47) ?_
        refine X.pT ?_
        refine X.mv ?_
        refine X.iG (fun hb48 => ?_) (fun hb48 => ?_)
        ·replace h := condT hb48 h
         refine X.mv ?_
         refine X.gy ?_
         obtain ⟨v49, hv49, h⟩ := bindE h
         refine X.cp (s_l01In_pc _ _ _ _ hv49) ?_
         refine X.pT ?_
         cases h
         exact X.eG
        ·replace h := condF hb48 h
         refine X.gn ?_
         refine X.pF ?_
         cases h
         exact X.eG
       ·replace h := condF hb46 h
        refine X.gn ?_
        refine X.pF ?_
        refine X.mv ?_
        refine X.gn ?_
        refine X.gn ?_
        refine X.pF ?_
        cases h
        exact X.eG
      replace h := h2; clear h2
      refine R.cd (fun hc50 => ?_) (fun hc50 => ?_)
      ·replace h := condT hc50 h
       refine Run.reg ?_
       refine X.mv ?_
       refine X.mv ?_
       refine X.mv ?_
       refine X.buildSlice false elt25 zer3 (by rfl) (by rfl) (by rfl) (by rfl) (by rfl) (by rfl) (by repeat (first | trivial | refine ⟨by first | rfl | simp [setL], ?_⟩)) (allSz_spec (by rfl)) (by rfl) (by rfl) (by rfl) ?_
       refine X.buildSlice false elt45 zer25 (by rfl) (by rfl) (by rfl) (by rfl) (by rfl) (by rfl) (by repeat (first | trivial | refine ⟨by first | rfl | simp [setL], ?_⟩)) (allSz_spec (by rfl)) (by rfl) (by rfl) (by rfl) ?_
       obtain ⟨v51, hv51, h⟩ := bindE h
       refine X.append elt45 zer25 (by rfl) (by rfl) (by first | rfl | simp [setL] | omega) (by rfl) (.own _ _ _ _ _ _ (look_mem (by rfl)) (by first | rfl | simp [setL] | omega)) (allSz_spec (by rfl)) (appL_len l_int hv51) (appL_map l_int hv51) (by rfl) (by rfl) (by rfl) (by rfl) ?_
       refine X.an ?_
       refine Run.blk ?_
       refine Run.reg ?_
       refine X.ad ?_
       refine X.mn ?_
       exact R.ag hag39 (n39 - 1) (z40 + 1, v51) (R.n3 (by first | (rw [hds39]; exact h) | (dsimp only; rw [hds39]; exact h)))
      ·replace h := condF hc50 h
       refine Run.skip ?_
       refine Run.blk ?_
       refine Run.reg ?_
       refine X.ad ?_
       refine X.mn ?_
       exact R.ag hag39 (n39 - 1) (z40 + 1, a41) (R.n3 (by first | (rw [hds39]; exact h) | (dsimp only; rw [hds39]; exact h)))
     ·rw [drop_endI hza39 hc44] at h
      rw [s_Intervals_L3] at h
      refine Run.exit (by rfl) ?_
      exact R.mt hmeet35 a41 (Option.some.inj h)
    rintro p52 rfl
    refine Run.blk ?_
    refine Run.reg ?_
    refine X.ad ?_
    refine X.mn ?_
    exact R.ag hag27 (n27 - 1) (z28 + 1, p52) (R.n3 (by first | (rw [hds27]; exact h) | (dsimp only; rw [hds27]; exact h)))
   ·rw [drop_endI hza27 hc32] at h
    rw [s_Intervals_L2] at h
    refine Run.exit (by rfl) ?_
    exact R.mt hmeet23 a29 (Option.some.inj h)
  rintro p53 rfl
  refine Run.sr ?_
  refine X.mv ?_
  refine X.an ?_
  cases h
  refine R.fin1o Tryz.results97 (by rfl) (by rfl) (by first | rfl | simp [setL] | omega) ?_
  rfl
theorem s_l17For_pc (b0 : TProject) (b1 : TDomain) (r : List TRule) (h : s_l17For b0 b1 = some r) : PC Tryz.prog 55 [eTProject b0, eTDomain b1] (.fresh false 38 4 (r.map eTRule)) := by
 unfold s_l17For at h
 refine PC.start Tryz.func55 Tryz.ntmps55 rfl ok55 rfl ?_
 refine Run.sr ?_
 refine X.bx ?_
 refine X.bx ?_
 refine X.an ?_
 refine Run.sr ?_
 refine X.buildSlice false elt49 zer38 (by rfl) (by rfl) (by rfl) (by rfl) (by rfl) (by rfl) (by repeat (first | trivial | refine ⟨by first | rfl | simp [setL], ?_⟩)) (allSz_spec (by rfl)) (by rfl) (by rfl) (by rfl) ?_
 refine X.an ?_
 refine Run.seq ?_
 refine Run.sr ?_
 refine X.fl fld36_2 ?_
 refine X.ld shp33 ?_
 refine X.ls elt33 ?_
 refine X.mn ?_
 obtain ⟨o1, ho1, h⟩ := bindE h
 refine R.join2 (β := (List TRule)) [(2, .lptr 128 0), (3, .lptr 192 0)] [(128, .blk true [int b0.Deadline, .slice (b0.Activities.map eTActivity), .slice (b0.Links.map eTLink), .slice (b0.Resources.map eTResource), .slice (b0.Stocks.map int)]), (192, .blk true [.slice (b1.MinStart.map int), .slice (b1.MaxStart.map int), .slice (b1.Modes.map l_int)])] (fun p14 S => (5, .own 1408 (p14.map eTRule).length) :: S) (fun p14 M => (1408, .obj false 38 4 (p14.map eTRule)) :: M) (fun p14 => p14 = o1) ?_ ?_
 ·intro JJ4 hmeet3
  have hup2 := h; clear h; have h := ho1; clear ho1
  refine Run.block ?_
  refine R.bndS (t := 24) (by rfl) (fun hbd7 => ?_)
  replace hbd7 : b0.Links.length ≤ 9223372036854775807 := by first | (rw [List.length_map] at hbd7; exact hbd7) | simp
  refine R.lp (β := Int × (List TRule)) [(2, .lptr 128 0), (3, .lptr 192 0), (25, int (b0.Links.length : Int))] [(128, .blk true [int b0.Deadline, .slice (b0.Activities.map eTActivity), .slice (b0.Links.map eTLink), .slice (b0.Resources.map eTResource), .slice (b0.Stocks.map int)]), (192, .blk true [.slice (b1.MinStart.map int), .slice (b1.MaxStart.map int), .slice (b1.Modes.map l_int)])] (fun bb S => (5, .own 1408 (bb.2.map eTRule).length) :: (26, int bb.1) :: S) (fun bb M => (1408, .obj false 38 4 (bb.2.map eTRule)) :: M) (fun n bb => 0 ≤ bb.1 ∧ bb.1 + n = (b0.Links.length : Int) ∧ s_l17For_L1 (b0.Links.drop bb.1.toNat) bb.1 bb.2 = some o1) b0.Links.length (0, ([] : List TRule)) ⟨Int.le_refl _, by simp, h⟩ ?_
  clear h
  rintro JJ7 n7 ⟨z8, a9⟩ hag7 ⟨hza7, hzb7, h⟩
  dsimp only at hza7 hzb7 h
  refine Run.sr ?_
  refine X.bi ?_
  refine X.nil ?_
  refine Run.seq ?_
  refine R.cd (fun hc12 => ?_) (fun hc12 => ?_)
  ·obtain ⟨x10, xs11, hd7, hx7, hds7, hlt7⟩ := drop_atI hza7 hc12
   rw [hd7] at h
   rw [s_l17For_L1] at h
   refine Run.skip ?_
   refine Run.seq ?_
   refine Run.block ?_
   refine Run.sr ?_
   refine X.mv ?_
   refine X.an ?_
   refine Run.reg ?_
   refine X.mv ?_
   refine X.mv ?_
   refine X.build zer38 pl38 (by rfl) (by rfl) (by repeat (first | trivial | refine ⟨by first | rfl | simp [setL], ?_⟩)) (by rfl) (by rfl) (by rfl) ?_
   refine X.buildSlice false elt49 zer38 (by rfl) (by rfl) (by rfl) (by rfl) (by rfl) (by rfl) (by repeat (first | trivial | refine ⟨by first | rfl | simp [setL], ?_⟩)) (allSz_spec (by rfl)) (by rfl) (by rfl) (by rfl) ?_
   obtain ⟨v13, hv13, h⟩ := bindE h
   refine X.append elt49 zer38 (by rfl) (by rfl) (by first | rfl | simp [setL] | omega) (by rfl) (.own _ _ _ _ _ _ (look_mem (by rfl)) (by first | rfl | simp [setL] | omega)) (allSz_spec (by rfl)) (appL_len eTRule hv13) (appL_map eTRule hv13) (by rfl) (by rfl) (by rfl) (by rfl) ?_
   refine X.an ?_
   refine Run.blk ?_
   refine Run.reg ?_
   refine X.ad ?_
   refine X.mn ?_
   exact R.ag hag7 (n7 - 1) (z8 + 1, v13) (R.n3 (by first | (rw [hds7]; exact h) | (dsimp only; rw [hds7]; exact h)))
  ·rw [drop_endI hza7 hc12] at h
   rw [s_l17For_L1] at h
   refine Run.exit (by rfl) ?_
   exact R.mt hmeet3 a9 (Option.some.inj h)
 rintro p14 rfl
 refine Run.seq ?_
 refine Run.sr ?_
 refine X.fl fld36_1 ?_
 refine X.ld shp32 ?_
 refine X.ls elt32 ?_
 refine X.mn ?_
 obtain ⟨o15, ho15, h⟩ := bindE h
 refine R.join2 (β := (List TRule)) [(2, .lptr 128 0), (3, .lptr 192 0)] [(128, .blk true [int b0.Deadline, .slice (b0.Activities.map eTActivity), .slice (b0.Links.map eTLink), .slice (b0.Resources.map eTResource), .slice (b0.Stocks.map int)]), (192, .blk true [.slice (b1.MinStart.map int), .slice (b1.MaxStart.map int), .slice (b1.Modes.map l_int)])] (fun p28 S => (5, .own 1408 (p28.map eTRule).length) :: S) (fun p28 M => (1408, .obj false 38 4 (p28.map eTRule)) :: M) (fun p28 => p28 = o15) ?_ ?_
 ·intro JJ18 hmeet17
  have hup16 := h; clear h; have h := ho15; clear ho15
  refine Run.block ?_
  refine R.bndS (t := 36) (by rfl) (fun hbd21 => ?_)
  replace hbd21 : b0.Activities.length ≤ 9223372036854775807 := by first | (rw [List.length_map] at hbd21; exact hbd21) | simp
  refine R.lp (β := Int × (List TRule)) [(2, .lptr 128 0), (3, .lptr 192 0), (37, int (b0.Activities.length : Int))] [(128, .blk true [int b0.Deadline, .slice (b0.Activities.map eTActivity), .slice (b0.Links.map eTLink), .slice (b0.Resources.map eTResource), .slice (b0.Stocks.map int)]), (192, .blk true [.slice (b1.MinStart.map int), .slice (b1.MaxStart.map int), .slice (b1.Modes.map l_int)])] (fun bb S => (5, .own 1408 (bb.2.map eTRule).length) :: (38, int bb.1) :: S) (fun bb M => (1408, .obj false 38 4 (bb.2.map eTRule)) :: M) (fun n bb => 0 ≤ bb.1 ∧ bb.1 + n = (b0.Activities.length : Int) ∧ s_l17For_L2 (b0.Activities.drop bb.1.toNat) bb.1 bb.2 = some o15) b0.Activities.length (0, p14) ⟨Int.le_refl _, by simp, h⟩ ?_
  clear h
  rintro JJ21 n21 ⟨z22, a23⟩ hag21 ⟨hza21, hzb21, h⟩
  dsimp only at hza21 hzb21 h
  refine Run.sr ?_
  refine X.bi ?_
  refine X.nil ?_
  refine Run.seq ?_
  refine R.cd (fun hc26 => ?_) (fun hc26 => ?_)
  ·obtain ⟨x24, xs25, hd21, hx21, hds21, hlt21⟩ := drop_atI hza21 hc26
   rw [hd21] at h
   rw [s_l17For_L2] at h
   refine Run.skip ?_
   refine Run.seq ?_
   refine Run.block ?_
   refine Run.sr ?_
   refine X.mv ?_
   refine X.an ?_
   refine Run.reg ?_
   refine X.mv ?_
   refine X.mv ?_
   refine X.build zer38 pl38 (by rfl) (by rfl) (by repeat (first | trivial | refine ⟨by first | rfl | simp [setL], ?_⟩)) (by rfl) (by rfl) (by rfl) ?_
   refine X.buildSlice false elt49 zer38 (by rfl) (by rfl) (by rfl) (by rfl) (by rfl) (by rfl) (by repeat (first | trivial | refine ⟨by first | rfl | simp [setL], ?_⟩)) (allSz_spec (by rfl)) (by rfl) (by rfl) (by rfl) ?_
   obtain ⟨v27, hv27, h⟩ := bindE h
   refine X.append elt49 zer38 (by rfl) (by rfl) (by first | rfl | simp [setL] | omega) (by rfl) (.own _ _ _ _ _ _ (look_mem (by rfl)) (by first | rfl | simp [setL] | omega)) (allSz_spec (by rfl)) (appL_len eTRule hv27) (appL_map eTRule hv27) (by rfl) (by rfl) (by rfl) (by rfl) ?_
   refine X.an ?_
   refine Run.blk ?_
   refine Run.reg ?_
   refine X.ad ?_
   refine X.mn ?_
   exact R.ag hag21 (n21 - 1) (z22 + 1, v27) (R.n3 (by first | (rw [hds21]; exact h) | (dsimp only; rw [hds21]; exact h)))
  ·rw [drop_endI hza21 hc26] at h
   rw [s_l17For_L2] at h
   refine Run.exit (by rfl) ?_
   exact R.mt hmeet17 a23 (Option.some.inj h)
 rintro p28 rfl
 refine Run.seq ?_
 refine Run.sr ?_
 refine X.fl fld36_4 ?_
 refine X.ld shp25 ?_
 refine X.ls elt25 ?_
 refine X.mn ?_
 obtain ⟨o29, ho29, h⟩ := bindE h
 refine R.join2 (β := (List TRule)) [(2, .lptr 128 0), (3, .lptr 192 0)] [(128, .blk true [int b0.Deadline, .slice (b0.Activities.map eTActivity), .slice (b0.Links.map eTLink), .slice (b0.Resources.map eTResource), .slice (b0.Stocks.map int)]), (192, .blk true [.slice (b1.MinStart.map int), .slice (b1.MaxStart.map int), .slice (b1.Modes.map l_int)])] (fun p42 S => (5, .own 1408 (p42.map eTRule).length) :: S) (fun p42 M => (1408, .obj false 38 4 (p42.map eTRule)) :: M) (fun p42 => p42 = o29) ?_ ?_
 ·intro JJ32 hmeet31
  have hup30 := h; clear h; have h := ho29; clear ho29
  refine Run.block ?_
  refine R.bndS (t := 48) (by rfl) (fun hbd35 => ?_)
  replace hbd35 : b0.Stocks.length ≤ 9223372036854775807 := by first | (rw [List.length_map] at hbd35; exact hbd35) | simp
  refine R.lp (β := Int × (List TRule)) [(2, .lptr 128 0), (3, .lptr 192 0), (49, int (b0.Stocks.length : Int))] [(128, .blk true [int b0.Deadline, .slice (b0.Activities.map eTActivity), .slice (b0.Links.map eTLink), .slice (b0.Resources.map eTResource), .slice (b0.Stocks.map int)]), (192, .blk true [.slice (b1.MinStart.map int), .slice (b1.MaxStart.map int), .slice (b1.Modes.map l_int)])] (fun bb S => (5, .own 1408 (bb.2.map eTRule).length) :: (50, int bb.1) :: S) (fun bb M => (1408, .obj false 38 4 (bb.2.map eTRule)) :: M) (fun n bb => 0 ≤ bb.1 ∧ bb.1 + n = (b0.Stocks.length : Int) ∧ s_l17For_L3 (b0.Stocks.drop bb.1.toNat) bb.1 bb.2 = some o29) b0.Stocks.length (0, p28) ⟨Int.le_refl _, by simp, h⟩ ?_
  clear h
  rintro JJ35 n35 ⟨z36, a37⟩ hag35 ⟨hza35, hzb35, h⟩
  dsimp only at hza35 hzb35 h
  refine Run.sr ?_
  refine X.bi ?_
  refine X.nil ?_
  refine Run.seq ?_
  refine R.cd (fun hc40 => ?_) (fun hc40 => ?_)
  ·obtain ⟨x38, xs39, hd35, hx35, hds35, hlt35⟩ := drop_atI hza35 hc40
   rw [hd35] at h
   rw [s_l17For_L3] at h
   refine Run.skip ?_
   refine Run.seq ?_
   refine Run.block ?_
   refine Run.sr ?_
   refine X.mv ?_
   refine X.an ?_
   refine Run.reg ?_
   refine X.mv ?_
   refine X.mv ?_
   refine X.build zer38 pl38 (by rfl) (by rfl) (by repeat (first | trivial | refine ⟨by first | rfl | simp [setL], ?_⟩)) (by rfl) (by rfl) (by rfl) ?_
   refine X.buildSlice false elt49 zer38 (by rfl) (by rfl) (by rfl) (by rfl) (by rfl) (by rfl) (by repeat (first | trivial | refine ⟨by first | rfl | simp [setL], ?_⟩)) (allSz_spec (by rfl)) (by rfl) (by rfl) (by rfl) ?_
   obtain ⟨v41, hv41, h⟩ := bindE h
   refine X.append elt49 zer38 (by rfl) (by rfl) (by first | rfl | simp [setL] | omega) (by rfl) (.own _ _ _ _ _ _ (look_mem (by rfl)) (by first | rfl | simp [setL] | omega)) (allSz_spec (by rfl)) (appL_len eTRule hv41) (appL_map eTRule hv41) (by rfl) (by rfl) (by rfl) (by rfl) ?_
   refine X.an ?_
   refine Run.blk ?_
   refine Run.reg ?_
   refine X.ad ?_
   refine X.mn ?_
   exact R.ag hag35 (n35 - 1) (z36 + 1, v41) (R.n3 (by first | (rw [hds35]; exact h) | (dsimp only; rw [hds35]; exact h)))
  ·rw [drop_endI hza35 hc40] at h
   rw [s_l17For_L3] at h
   refine Run.exit (by rfl) ?_
   exact R.mt hmeet31 a37 (Option.some.inj h)
 rintro p42 rfl
 refine Run.sr ?_
 refine X.fl fld51_1 ?_
 refine X.ld shp25 ?_
 obtain ⟨v43, hv43, h⟩ := bindE h
 refine X.cp (s_SetOf_pc _ _ hv43) ?_
 refine X.an ?_
 refine Run.sr ?_
 refine X.ld shp36 ?_
 refine X.ld shp51 ?_
 obtain ⟨v44, hv44, h⟩ := bindE h
 refine X.callF (s_Intervals_pc _ _ _ hv44) (by rfl) (by rfl) (by rfl) (by trivial) (by rfl) (by rfl) (by rfl) (by rfl) ?_
 refine X.an ?_
 refine Run.seq ?_
 refine Run.sr ?_
 refine X.fl fld36_3 ?_
 refine X.ld shp34 ?_
 refine X.ls elt34 ?_
 refine X.mn ?_
 obtain ⟨o45, ho45, h⟩ := bindE h
 refine R.join2 (β := (List TRule)) [(2, .lptr 128 0)] [(128, .blk true [int b0.Deadline, .slice (b0.Activities.map eTActivity), .slice (b0.Links.map eTLink), .slice (b0.Resources.map eTResource), .slice (b0.Stocks.map int)])] (fun p103 S => (5, .own 1408 (p103.map eTRule).length) :: S) (fun p103 M => (1408, .obj false 38 4 (p103.map eTRule)) :: M) (fun p103 => p103 = o45) ?_ ?_
 ·intro JJ48 hmeet47
  have hup46 := h; clear h; have h := ho45; clear ho45
  refine Run.block ?_
  refine R.bndS (t := 66) (by rfl) (fun hbd51 => ?_)
  replace hbd51 : b0.Resources.length ≤ 9223372036854775807 := by first | (rw [List.length_map] at hbd51; exact hbd51) | simp
  refine R.lp (β := Int × (List TRule)) [(2, .lptr 128 0), (9, .slice (v43.map int)), (67, int (b0.Resources.length : Int))] [(128, .blk true [int b0.Deadline, .slice (b0.Activities.map eTActivity), .slice (b0.Links.map eTLink), .slice (b0.Resources.map eTResource), .slice (b0.Stocks.map int)]), (4096, .obj false 25 1 (v44.map l_int))] (fun bb S => (5, .own 1408 (bb.2.map eTRule).length) :: (10, .own 4096 (v44.map l_int).length) :: (68, int bb.1) :: S) (fun bb M => (1408, .obj false 38 4 (bb.2.map eTRule)) :: M) (fun n bb => 0 ≤ bb.1 ∧ bb.1 + n = (b0.Resources.length : Int) ∧ s_l17For_L4 v43 v44 (b0.Resources.drop bb.1.toNat) bb.1 bb.2 = some o45) b0.Resources.length (0, p42) ⟨Int.le_refl _, by simp, h⟩ ?_
  clear h
  rintro JJ51 n51 ⟨z52, a53⟩ hag51 ⟨hza51, hzb51, h⟩
  dsimp only at hza51 hzb51 h
  refine Run.sr ?_
  refine X.bi ?_
  refine X.nil ?_
  refine Run.seq ?_
  refine R.cd (fun hc56 => ?_) (fun hc56 => ?_)
  ·obtain ⟨x54, xs55, hd51, hx51, hds51, hlt51⟩ := drop_atI hza51 hc56
   rw [hd51] at h
   rw [s_l17For_L4] at h
   refine Run.skip ?_
   refine Run.seq ?_
   refine Run.block ?_
   refine Run.sr ?_
   refine X.mv ?_
   refine X.an ?_
   refine Run.sr ?_
   refine X.mv ?_
   refine X.an ?_
   refine Run.seq ?_
   refine Run.sr ?_
   refine X.fl fld36_3 ?_
   refine X.ld shp34 ?_
   refine X.mv ?_
   refine X.ix elt34 (idxL_spec hx51).1 (idxL_map eTResource hx51) ?_
   refine X.fieldAddr_c fld86_0 (by rfl) (by rfl) ?_
   refine X.lc shp84 ?_
   refine X.ls elt84 ?_
   refine X.mn ?_
   obtain ⟨o57, ho57, h⟩ := bindE h
   refine R.join2 (β := (List Int)) [(2, .lptr 128 0), (9, .slice (v43.map int)), (11, int z52), (67, int (b0.Resources.length : Int)), (68, int z52)] [(128, .blk true [int b0.Deadline, .slice (b0.Activities.map eTActivity), .slice (b0.Links.map eTLink), .slice (b0.Resources.map eTResource), .slice (b0.Stocks.map int)]), (1408, .obj false 38 4 (a53.map eTRule)), (4096, .obj false 25 1 (v44.map l_int))] (fun p70 S => (5, .own 1408 (a53.map eTRule).length) :: (10, .own 4096 (v44.map l_int).length) :: (12, .slice (p70.map int)) :: S) (fun p70 M => M) (fun p70 => p70 = o57) ?_ ?_
   ·intro JJ60 hmeet59
    have hup58 := h; clear h; have h := ho57; clear ho57
    refine Run.block ?_
    refine R.bndS (t := 77) (by rfl) (fun hbd63 => ?_)
    replace hbd63 : x54.Steps.length ≤ 9223372036854775807 := by first | (rw [List.length_map] at hbd63; exact hbd63) | simp
    refine R.lp (β := Int × (List Int)) [(2, .lptr 128 0), (9, .slice (v43.map int)), (11, int z52), (67, int (b0.Resources.length : Int)), (68, int z52), (77, .slice (x54.Steps.map eTStep)), (78, int (x54.Steps.length : Int))] [(128, .blk true [int b0.Deadline, .slice (b0.Activities.map eTActivity), .slice (b0.Links.map eTLink), .slice (b0.Resources.map eTResource), .slice (b0.Stocks.map int)]), (1408, .obj false 38 4 (a53.map eTRule)), (4096, .obj false 25 1 (v44.map l_int))] (fun bb S => (5, .own 1408 (a53.map eTRule).length) :: (10, .own 4096 (v44.map l_int).length) :: (12, .slice (bb.2.map int)) :: (79, int bb.1) :: S) (fun bb M => M) (fun n bb => 0 ≤ bb.1 ∧ bb.1 + n = (x54.Steps.length : Int) ∧ s_l17For_L5 (x54.Steps.drop bb.1.toNat) bb.1 bb.2 = some o57) x54.Steps.length (0, v43) ⟨Int.le_refl _, by simp, h⟩ ?_
    clear h
    rintro JJ63 n63 ⟨z64, a65⟩ hag63 ⟨hza63, hzb63, h⟩
    dsimp only at hza63 hzb63 h
    refine Run.sr ?_
    refine X.bi ?_
    refine X.nil ?_
    refine Run.seq ?_
    refine R.cd (fun hc68 => ?_) (fun hc68 => ?_)
    ·obtain ⟨x66, xs67, hd63, hx63, hds63, hlt63⟩ := drop_atI hza63 hc68
     rw [hd63] at h
     rw [s_l17For_L5] at h
     refine Run.skip ?_
     refine Run.seq ?_
     refine Run.block ?_
     refine Run.sr ?_
     refine X.ix elt84 (idxL_spec hx63).1 (idxL_map eTStep hx63) ?_
     refine X.lc shp88 ?_
     refine X.alloc zer88 (by rfl) (by rfl) (by rfl) ?_
     refine X.sl shp88 ?_
     refine X.nil ?_
     refine Run.reg ?_
     refine X.mv ?_
     refine X.fl fld88_0 ?_
     refine X.ld shp3 ?_
     obtain ⟨v69, hv69, h⟩ := bindE h
     refine X.cp (s_SetAdd_pc _ _ _ hv69) ?_
     refine X.an ?_
     refine Run.blk ?_
     refine Run.reg ?_
     refine X.ad ?_
     refine X.mn ?_
     exact R.ag hag63 (n63 - 1) (z64 + 1, v69) (R.n3 (by first | (rw [hds63]; exact h) | (dsimp only; rw [hds63]; exact h)))
    ·rw [drop_endI hza63 hc68] at h
     rw [s_l17For_L5] at h
     refine Run.exit (by rfl) ?_
     exact R.mt hmeet59 a65 (Option.some.inj h)
   rintro p70 rfl
   refine Run.seq ?_
   refine Run.sr ?_
   refine X.mv ?_
   refine X.ls elt25 ?_
   refine X.mn ?_
   obtain ⟨o71, ho71, h⟩ := bindE h
   refine R.join2 (β := (List TRule)) [(2, .lptr 128 0), (9, .slice (v43.map int)), (11, int z52), (67, int (b0.Resources.length : Int)), (68, int z52)] [(128, .blk true [int b0.Deadline, .slice (b0.Activities.map eTActivity), .slice (b0.Links.map eTLink), .slice (b0.Resources.map eTResource), .slice (b0.Stocks.map int)]), (4096, .obj false 25 1 (v44.map l_int))] (fun p86 S => (5, .own 1408 (p86.map eTRule).length) :: (10, .own 4096 (v44.map l_int).length) :: S) (fun p86 M => (1408, .obj false 38 4 (p86.map eTRule)) :: M) (fun p86 => p86 = o71) ?_ ?_
   ·intro JJ74 hmeet73
    have hup72 := h; clear h; have h := ho71; clear ho71
    refine Run.block ?_
    refine R.bndS (t := 12) (by rfl) (fun hbd77 => ?_)
    replace hbd77 : p70.length ≤ 9223372036854775807 := by first | (rw [List.length_map] at hbd77; exact hbd77) | simp
    refine R.lp (β := Int × (List TRule)) [(2, .lptr 128 0), (9, .slice (v43.map int)), (11, int z52), (67, int (b0.Resources.length : Int)), (68, int z52), (88, .slice (p70.map int)), (89, int (p70.length : Int))] [(128, .blk true [int b0.Deadline, .slice (b0.Activities.map eTActivity), .slice (b0.Links.map eTLink), .slice (b0.Resources.map eTResource), .slice (b0.Stocks.map int)]), (4096, .obj false 25 1 (v44.map l_int))] (fun bb S => (5, .own 1408 (bb.2.map eTRule).length) :: (10, .own 4096 (v44.map l_int).length) :: (90, int bb.1) :: S) (fun bb M => (1408, .obj false 38 4 (bb.2.map eTRule)) :: M) (fun n bb => 0 ≤ bb.1 ∧ bb.1 + n = (p70.length : Int) ∧ s_l17For_L6 z52 (p70.drop bb.1.toNat) bb.1 bb.2 = some o71) p70.length (0, a53) ⟨Int.le_refl _, by simp, h⟩ ?_
    clear h
    rintro JJ77 n77 ⟨z78, a79⟩ hag77 ⟨hza77, hzb77, h⟩
    dsimp only at hza77 hzb77 h
    refine Run.sr ?_
    refine X.bi ?_
    refine X.nil ?_
    refine Run.seq ?_
    refine R.cd (fun hc82 => ?_) (fun hc82 => ?_)
    ·obtain ⟨x80, xs81, hd77, hx77, hds77, hlt77⟩ := drop_atI hza77 hc82
     rw [hd77] at h
     rw [s_l17For_L6] at h
     refine Run.skip ?_
     refine Run.seq ?_
     refine Run.block ?_
     refine Run.sr ?_
     refine X.ix elt25 (idxL_spec hx77).1 (idxL_map int hx77) ?_
     refine X.lc shp3 ?_
     refine X.an ?_
     refine Run.sr ?_
     refine X.mv ?_
     obtain ⟨v83, hv83, h⟩ := bindE h
     refine X.cp (s_l01In_pc _ _ _ _ hv83) ?_
     refine X.nil ?_
     refine R.cd (fun hc84 => ?_) (fun hc84 => ?_)
     ·replace h := condT hc84 h
      refine Run.reg ?_
      refine X.mv ?_
      refine X.mv ?_
      refine X.mv ?_
      refine X.build zer38 pl38 (by rfl) (by rfl) (by repeat (first | trivial | refine ⟨by first | rfl | simp [setL], ?_⟩)) (by rfl) (by rfl) (by rfl) ?_
      refine X.buildSlice false elt49 zer38 (by rfl) (by rfl) (by rfl) (by rfl) (by rfl) (by rfl) (by repeat (first | trivial | refine ⟨by first | rfl | simp [setL], ?_⟩)) (allSz_spec (by rfl)) (by rfl) (by rfl) (by rfl) ?_
      obtain ⟨v85, hv85, h⟩ := bindE h
      refine X.append elt49 zer38 (by rfl) (by rfl) (by first | rfl | simp [setL] | omega) (by rfl) (.own _ _ _ _ _ _ (look_mem (by rfl)) (by first | rfl | simp [setL] | omega)) (allSz_spec (by rfl)) (appL_len eTRule hv85) (appL_map eTRule hv85) (by rfl) (by rfl) (by rfl) (by rfl) ?_
      refine X.an ?_
      refine Run.blk ?_
      refine Run.reg ?_
      refine X.ad ?_
      refine X.mn ?_
      exact R.ag hag77 (n77 - 1) (z78 + 1, v85) (R.n3 (by first | (rw [hds77]; exact h) | (dsimp only; rw [hds77]; exact h)))
     ·replace h := condF hc84 h
      refine Run.skip ?_
      refine Run.blk ?_
      refine Run.reg ?_
      refine X.ad ?_
      refine X.mn ?_
      exact R.ag hag77 (n77 - 1) (z78 + 1, a79) (R.n3 (by first | (rw [hds77]; exact h) | (dsimp only; rw [hds77]; exact h)))
    ·rw [drop_endI hza77 hc82] at h
     rw [s_l17For_L6] at h
     refine Run.exit (by rfl) ?_
     exact R.mt hmeet73 a79 (Option.some.inj h)
   rintro p86 rfl
   refine Run.sr ?_
   refine X.mv ?_
   refine X.len_o elt45 (by rfl) (by rfl) (by first | rfl | simp [setL] | omega) (by first | exact List.length_map .. | rfl) (by rfl) (by rfl) ?_
   refine X.mn ?_
   obtain ⟨o87, ho87, h⟩ := bindE h
   refine R.join2 (β := (List TRule)) [(2, .lptr 128 0), (9, .slice (v43.map int)), (67, int (b0.Resources.length : Int)), (68, int z52)] [(128, .blk true [int b0.Deadline, .slice (b0.Activities.map eTActivity), .slice (b0.Links.map eTLink), .slice (b0.Resources.map eTResource), .slice (b0.Stocks.map int)]), (4096, .obj false 25 1 (v44.map l_int))] (fun p102 S => (5, .own 1408 (p102.map eTRule).length) :: (10, .own 4096 (v44.map l_int).length) :: S) (fun p102 M => (1408, .obj false 38 4 (p102.map eTRule)) :: M) (fun p102 => p102 = o87) ?_ ?_
   ·intro JJ90 hmeet89
    have hup88 := h; clear h; have h := ho87; clear ho87
    refine Run.block ?_
    refine R.bndO (n := 4096) (by rfl) (fun hbd93 => ?_)
    replace hbd93 : v44.length ≤ 9223372036854775807 := by first | (rw [List.length_map] at hbd93; exact hbd93) | simp
    refine R.lp (β := Int × (List TRule)) [(2, .lptr 128 0), (9, .slice (v43.map int)), (11, int z52), (67, int (b0.Resources.length : Int)), (68, int z52), (104, int (v44.length : Int))] [(128, .blk true [int b0.Deadline, .slice (b0.Activities.map eTActivity), .slice (b0.Links.map eTLink), .slice (b0.Resources.map eTResource), .slice (b0.Stocks.map int)]), (4096, .obj false 25 1 (v44.map l_int))] (fun bb S => (5, .own 1408 (bb.2.map eTRule).length) :: (10, .own 4096 (v44.map l_int).length) :: (103, .own 4096 (v44.map l_int).length) :: (105, int bb.1) :: S) (fun bb M => (1408, .obj false 38 4 (bb.2.map eTRule)) :: M) (fun n bb => 0 ≤ bb.1 ∧ bb.1 + n = (v44.length : Int) ∧ s_l17For_L7 z52 (v44.drop bb.1.toNat) bb.1 bb.2 = some o87) v44.length (0, p86) ⟨Int.le_refl _, by simp, h⟩ ?_
    clear h
    rintro JJ93 n93 ⟨z94, a95⟩ hag93 ⟨hza93, hzb93, h⟩
    dsimp only at hza93 hzb93 h
    refine Run.sr ?_
    refine X.bi ?_
    refine X.nil ?_
    refine Run.seq ?_
    refine R.cd (fun hc98 => ?_) (fun hc98 => ?_)
    ·obtain ⟨x96, xs97, hd93, hx93, hds93, hlt93⟩ := drop_atI hza93 hc98
     rw [hd93] at h
     rw [s_l17For_L7] at h
     refine Run.skip ?_
     refine Run.seq ?_
     refine Run.block ?_
     refine Run.sr ?_
     refine X.index_o elt45 (by rfl) (by rfl) (by first | rfl | simp [setL] | omega) (by rfl) (idxL_spec hx93).1 (idxL_map l_int hx93) (by rfl) (by rfl) (by rfl) ?_
     refine X.lc shp25 ?_
     refine X.an ?_
     refine Run.draw (footOf [(9, ([7552], [7552], [], [])), (10, ([1408, 7552], [1408], [], []))]) mixed (by kernel_rfl) (by kernel_rfl) ?_
     refine X.mv ?_
     refine X.mv ?_
     refine X.mv ?_
     obtain ⟨v99, hv99, h⟩ := bindE h
     refine X.ix elt25 (idxL_spec hv99).1 (idxL_map int hv99) ?_
     refine X.lc shp3 ?_
     refine X.mv ?_
     obtain ⟨v100, hv100, h⟩ := bindE h
     refine X.ix elt25 (idxL_spec hv100).1 (idxL_map int hv100) ?_
     refine X.lc shp3 ?_
     refine X.build zer38 pl38 (by rfl) (by rfl) (by repeat (first | trivial | refine ⟨by first | rfl | simp [setL], ?_⟩)) (by rfl) (by rfl) (by rfl) ?_
     refine X.buildSlice false elt49 zer38 (by rfl) (by rfl) (by rfl) (by rfl) (by rfl) (by rfl) (by repeat (first | trivial | refine ⟨by first | rfl | simp [setL], ?_⟩)) (allSz_spec (by rfl)) (by rfl) (by rfl) (by rfl) ?_
     obtain ⟨v101, hv101, h⟩ := bindE h
     refine X.append elt49 zer38 (by rfl) (by rfl) (by first | rfl | simp [setL] | omega) (by rfl) (.own _ _ _ _ _ _ (look_mem (by rfl)) (by first | rfl | simp [setL] | omega)) (allSz_spec (by rfl)) (appL_len eTRule hv101) (appL_map eTRule hv101) (by rfl) (by rfl) (by rfl) (by rfl) ?_
     refine X.an ?_
     refine Run.blk ?_
     refine Run.reg ?_
     refine X.ad ?_
     refine X.mn ?_
     exact R.ag hag93 (n93 - 1) (z94 + 1, v101) (R.n3 (by first | (rw [hds93]; exact h) | (dsimp only; rw [hds93]; exact h)))
    ·rw [drop_endI hza93 hc98] at h
     rw [s_l17For_L7] at h
     refine Run.exit (by rfl) ?_
     exact R.mt hmeet89 a95 (Option.some.inj h)
   rintro p102 rfl
   refine Run.blk ?_
   refine Run.reg ?_
   refine X.ad ?_
   refine X.mn ?_
   exact R.ag hag51 (n51 - 1) (z52 + 1, p102) (R.n3 (by first | (rw [hds51]; exact h) | (dsimp only; rw [hds51]; exact h)))
  ·rw [drop_endI hza51 hc56] at h
   rw [s_l17For_L4] at h
   refine Run.exit (by rfl) ?_
   exact R.mt hmeet47 a53 (Option.some.inj h)
 rintro p103 rfl
 refine Run.seq ?_
 refine Run.sr ?_
 refine X.fl fld36_3 ?_
 refine X.ld shp34 ?_
 refine X.ls elt34 ?_
 refine X.mn ?_
 obtain ⟨o104, ho104, h⟩ := bindE h
 refine R.join2 (β := (List TRule)) [] [] (fun p144 S => (5, .own 1408 (p144.map eTRule).length) :: S) (fun p144 M => (1408, .obj false 38 4 (p144.map eTRule)) :: M) (fun p144 => p144 = o104) ?_ ?_
 ·intro JJ107 hmeet106
  have hup105 := h; clear h; have h := ho104; clear ho104
  refine Run.block ?_
  refine R.bndS (t := 123) (by rfl) (fun hbd110 => ?_)
  replace hbd110 : b0.Resources.length ≤ 9223372036854775807 := by first | (rw [List.length_map] at hbd110; exact hbd110) | simp
  refine R.lp (β := Int × (List TRule)) [(2, .lptr 128 0), (124, int (b0.Resources.length : Int))] [(128, .blk true [int b0.Deadline, .slice (b0.Activities.map eTActivity), .slice (b0.Links.map eTLink), .slice (b0.Resources.map eTResource), .slice (b0.Stocks.map int)])] (fun bb S => (5, .own 1408 (bb.2.map eTRule).length) :: (125, int bb.1) :: S) (fun bb M => (1408, .obj false 38 4 (bb.2.map eTRule)) :: M) (fun n bb => 0 ≤ bb.1 ∧ bb.1 + n = (b0.Resources.length : Int) ∧ s_l17For_L8 b0 (b0.Resources.drop bb.1.toNat) bb.1 bb.2 = some o104) b0.Resources.length (0, p103) ⟨Int.le_refl _, by simp, h⟩ ?_
  clear h
  rintro JJ110 n110 ⟨z111, a112⟩ hag110 ⟨hza110, hzb110, h⟩
  dsimp only at hza110 hzb110 h
  refine Run.sr ?_
  refine X.bi ?_
  refine X.nil ?_
  refine Run.seq ?_
  refine R.cd (fun hc115 => ?_) (fun hc115 => ?_)
  ·obtain ⟨x113, xs114, hd110, hx110, hds110, hlt110⟩ := drop_atI hza110 hc115
   rw [hd110] at h
   rw [s_l17For_L8] at h
   refine Run.skip ?_
   refine Run.seq ?_
   refine Run.block ?_
   refine Run.sr ?_
   refine X.mv ?_
   refine X.an ?_
   refine Run.sr ?_
   refine X.fl fld36_1 ?_
   refine X.ld shp32 ?_
   refine X.ls elt32 ?_
   refine X.mn ?_
   obtain ⟨o116, ho116, h⟩ := bindE h
   refine R.join2 (β := (List TRule)) [(2, .lptr 128 0), (124, int (b0.Resources.length : Int)), (125, int z111)] [(128, .blk true [int b0.Deadline, .slice (b0.Activities.map eTActivity), .slice (b0.Links.map eTLink), .slice (b0.Resources.map eTResource), .slice (b0.Stocks.map int)])] (fun p143 S => (5, .own 1408 (p143.map eTRule).length) :: S) (fun p143 M => (1408, .obj false 38 4 (p143.map eTRule)) :: M) (fun p143 => p143 = o116) ?_ ?_
   ·intro JJ119 hmeet118
    have hup117 := h; clear h; have h := ho116; clear ho116
    refine Run.block ?_
    refine R.bndS (t := 129) (by rfl) (fun hbd122 => ?_)
    replace hbd122 : b0.Activities.length ≤ 9223372036854775807 := by first | (rw [List.length_map] at hbd122; exact hbd122) | simp
    refine R.lp (β := Int × (List TRule)) [(2, .lptr 128 0), (19, int z111), (124, int (b0.Resources.length : Int)), (125, int z111), (130, int (b0.Activities.length : Int))] [(128, .blk true [int b0.Deadline, .slice (b0.Activities.map eTActivity), .slice (b0.Links.map eTLink), .slice (b0.Resources.map eTResource), .slice (b0.Stocks.map int)])] (fun bb S => (5, .own 1408 (bb.2.map eTRule).length) :: (131, int bb.1) :: S) (fun bb M => (1408, .obj false 38 4 (bb.2.map eTRule)) :: M) (fun n bb => 0 ≤ bb.1 ∧ bb.1 + n = (b0.Activities.length : Int) ∧ s_l17For_L9 b0 z111 (b0.Activities.drop bb.1.toNat) bb.1 bb.2 = some o116) b0.Activities.length (0, a112) ⟨Int.le_refl _, by simp, h⟩ ?_
    clear h
    rintro JJ122 n122 ⟨z123, a124⟩ hag122 ⟨hza122, hzb122, h⟩
    dsimp only at hza122 hzb122 h
    refine Run.sr ?_
    refine X.bi ?_
    refine X.nil ?_
    refine Run.seq ?_
    refine R.cd (fun hc127 => ?_) (fun hc127 => ?_)
    ·obtain ⟨x125, xs126, hd122, hx122, hds122, hlt122⟩ := drop_atI hza122 hc127
     rw [hd122] at h
     rw [s_l17For_L9] at h
     refine Run.skip ?_
     refine Run.seq ?_
     refine Run.block ?_
     refine Run.sr ?_
     refine X.mv ?_
     refine X.an ?_
     refine Run.sr ?_
     refine X.mv ?_
     refine X.ad ?_
     refine X.an ?_
     obtain ⟨o128, ho128, h⟩ := bindE h
     refine R.join2 (β := (List TRule)) [(2, .lptr 128 0), (19, int z111), (124, int (b0.Resources.length : Int)), (125, int z111), (130, int (b0.Activities.length : Int)), (131, int z123)] [(128, .blk true [int b0.Deadline, .slice (b0.Activities.map eTActivity), .slice (b0.Links.map eTLink), .slice (b0.Resources.map eTResource), .slice (b0.Stocks.map int)])] (fun p142 S => (5, .own 1408 (p142.map eTRule).length) :: S) (fun p142 M => (1408, .obj false 38 4 (p142.map eTRule)) :: M) (fun p142 => p142 = o128) ?_ ?_
     ·intro JJ131 hmeet130
      have hup129 := h; clear h; have h := ho128; clear ho128
      refine Run.block ?_
      refine R.lp (β := Int × (List TRule)) [(2, .lptr 128 0), (19, int z111), (20, int z123), (124, int (b0.Resources.length : Int)), (125, int z111), (130, int (b0.Activities.length : Int)), (131, int z123)] [(128, .blk true [int b0.Deadline, .slice (b0.Activities.map eTActivity), .slice (b0.Links.map eTLink), .slice (b0.Resources.map eTResource), .slice (b0.Stocks.map int)])] (fun bb S => (5, .own 1408 (bb.2.map eTRule).length) :: (21, int bb.1) :: S) (fun bb M => (1408, .obj false 38 4 (bb.2.map eTRule)) :: M) (fun n bb => s_l17For_L10 b0 z111 z123 n bb.1 bb.2 = some o128) F0 ((z123 + 1), a124) h ?_
      clear h
      rintro JJ131 n131 ⟨a133, a134⟩ hag131 h
      dsimp only at h
      obtain _ | n131 := n131
      ·exact absurd h (by simp [s_l17For_L10])
      rw [s_l17For_L10] at h
      refine Run.seq ?_
      refine Run.seq ?_
      obtain ⟨e137, he137, h2⟩ := bindE h
      refine R.regG [(2, .lptr 128 0), (5, .own 1408 (a134.map eTRule).length), (19, int z111), (20, int z123), (21, int a133), (124, int (b0.Resources.length : Int)), (125, int z111), (130, int (b0.Activities.length : Int)), (131, int z123), (145, bool e137)] [(128, .blk true [int b0.Deadline, .slice (b0.Activities.map eTActivity), .slice (b0.Links.map eTLink), .slice (b0.Resources.map eTResource), .slice (b0.Stocks.map int)]), (1408, .obj false 38 4 (a134.map eTRule))] ?_ ?_
      ·clear h; have h := he137; clear he137 h2
       refine X.mv ?_
       refine X.fl fld36_1 ?_
       refine X.ld shp32 ?_
       refine X.ls elt32 ?_
       refine X.bi ?_
       refine X.mv ?_
       refine X.iG (fun hb138 => ?_) (fun hb138 => ?_)
       ·replace h := condT hb138 h
        refine X.ld shp36 ?_
        refine X.gy ?_
        refine X.mv ?_
        refine X.gy ?_
        obtain ⟨v139, hv139, h⟩ := bindE h
        refine X.cp (s_IsMachine_pc _ _ _ hv139) ?_
        refine X.pT ?_
        cases h
        exact X.eG
       ·replace h := condF hb138 h
        refine X.gn ?_
        refine X.gn ?_
        refine X.pF ?_
        cases h
        exact X.eG
      replace h := h2; clear h2
      refine R.cd (fun hc140 => ?_) (fun hc140 => ?_)
      ·replace h := condT hc140 h
       refine Run.skip ?_
       refine Run.seq ?_
       refine Run.block ?_
       refine Run.reg ?_
       refine X.mv ?_
       refine X.mv ?_
       refine X.mv ?_
       refine X.mv ?_
       refine X.build zer38 pl38 (by rfl) (by rfl) (by repeat (first | trivial | refine ⟨by first | rfl | simp [setL], ?_⟩)) (by rfl) (by rfl) (by rfl) ?_
       refine X.buildSlice false elt49 zer38 (by rfl) (by rfl) (by rfl) (by rfl) (by rfl) (by rfl) (by repeat (first | trivial | refine ⟨by first | rfl | simp [setL], ?_⟩)) (allSz_spec (by rfl)) (by rfl) (by rfl) (by rfl) ?_
       obtain ⟨v141, hv141, h⟩ := bindE h
       refine X.append elt49 zer38 (by rfl) (by rfl) (by first | rfl | simp [setL] | omega) (by rfl) (.own _ _ _ _ _ _ (look_mem (by rfl)) (by first | rfl | simp [setL] | omega)) (allSz_spec (by rfl)) (appL_len eTRule hv141) (appL_map eTRule hv141) (by rfl) (by rfl) (by rfl) (by rfl) ?_
       refine X.an ?_
       refine Run.blk ?_
       refine Run.reg ?_
       refine X.mv ?_
       refine X.addW (by rfl) (by rfl) (by rfl) ?_
       refine X.an ?_
       exact hag131 n131 ((W (a133 + 1)), v141) _ _ (by omega) h (by repeat (first | trivial | refine ⟨by first | rfl | simp [setL], ?_⟩)) (by repeat (first | trivial | refine ⟨by first | rfl | simp [setL], ?_⟩)) (by rfl) (by rfl)
      ·replace h := condF hc140 h
       refine Run.exit (by rfl) ?_
       exact R.mt hmeet130 a134 (Option.some.inj h)
     rintro p142 rfl
     refine Run.blk ?_
     refine Run.reg ?_
     refine X.ad ?_
     refine X.mn ?_
     exact R.ag hag122 (n122 - 1) (z123 + 1, p142) (R.n3 (by first | (rw [hds122]; exact h) | (dsimp only; rw [hds122]; exact h)))
    ·rw [drop_endI hza122 hc127] at h
     rw [s_l17For_L9] at h
     refine Run.exit (by rfl) ?_
     exact R.mt hmeet118 a124 (Option.some.inj h)
   rintro p143 rfl
   refine Run.blk ?_
   refine Run.reg ?_
   refine X.ad ?_
   refine X.mn ?_
   exact R.ag hag110 (n110 - 1) (z111 + 1, p143) (R.n3 (by first | (rw [hds110]; exact h) | (dsimp only; rw [hds110]; exact h)))
  ·rw [drop_endI hza110 hc115] at h
   rw [s_l17For_L8] at h
   refine Run.exit (by rfl) ?_
   exact R.mt hmeet106 a112 (Option.some.inj h)
 rintro p144 rfl
 refine Run.sr ?_
 refine X.mv ?_
 refine X.an ?_
 cases h
 refine R.fin1o Tryz.results55 (by rfl) (by rfl) (by first | rfl | simp [setL] | omega) ?_
 rfl
theorem s_CandidateRules_pc (b0 : TProject) (b1 : TDomain) (r : List TRule) (h : s_CandidateRules b0 b1 = some r) : PC Tryz.prog 18 [eTProject b0, eTDomain b1] (.fresh false 38 4 (r.map eTRule)) := by
 unfold s_CandidateRules at h
 refine PC.start Tryz.func18 Tryz.ntmps18 rfl ok18 rfl ?_
 refine Run.sr ?_
 refine X.bx ?_
 refine X.bx ?_
 refine X.an ?_
 refine Run.seq ?_
 refine Run.sr ?_
 refine X.ld shp36 ?_
 refine X.ld shp51 ?_
 obtain ⟨v1, hv1, h⟩ := bindE h
 refine X.cp (s_l14Ok_pc _ _ _ hv1) ?_
 refine X.un (by rfl) (by rfl) (by rfl) ?_
 refine X.nil ?_
 refine R.cd (fun hc2 => ?_) (fun hc2 => ?_)
 ·replace h := condT hc2 h
  refine Run.sr ?_
  refine X.an ?_
  cases h
  refine R.fin1n (x := false) (e := 38) (sz := 4) Tryz.results18 (by rfl) (by decide) ?_
  rfl
 ·replace h := condF hc2 h
  refine Run.skip ?_
  refine Run.sr ?_
  refine X.ld shp36 ?_
  refine X.ld shp51 ?_
  obtain ⟨v3, hv3, h⟩ := bindE h
  refine X.callF (s_l17For_pc _ _ _ hv3) (by rfl) (by rfl) (by rfl) (by trivial) (by rfl) (by rfl) (by rfl) (by rfl) ?_
  refine X.an ?_
  cases h
  refine R.fin1o Tryz.results18 (by rfl) (by rfl) (by first | rfl | simp [setL] | omega) ?_
  rfl
theorem i_isStart_pc (b0 : Int) (r : Bool) (h : i_isStart b0 = some r) : PC Tryz.prog 108 [int b0] (bool r) := by
 unfold i_isStart at h
 refine PC.start Tryz.func108 Tryz.ntmps108 rfl ok108 rfl ?_
 refine Run.sr ?_
 refine X.an ?_
 refine Run.sr ?_
 refine X.mv ?_
 obtain ⟨v1, hv1, h⟩ := bindE h
 refine X.cp (i_within_pc _ _ _ _ hv1) ?_
 refine X.an ?_
 cases h
 refine R.f1 Tryz.results108 ?_
 rfl
theorem i_SetOk_pc (b0 : List Int) (r : Bool) (h : i_SetOk b0 = some r) : PC Tryz.prog 109 [.slice (b0.map int)] (bool r) := by
 unfold i_SetOk at h
 refine PC.start Tryz.func109 Tryz.ntmps109 rfl ok109 rfl ?_
 refine Run.sr ?_
 refine X.an ?_
 refine Run.seq ?_
 refine Run.sr ?_
 refine X.an ?_
 obtain ⟨o1, ho1, h⟩ := bindE h
 refine R.join2 (β := Unit) [] [] (fun p13 S => S) (fun p13 M => M) (fun p13 => (Sum.inl p13) = o1) ?_ ?_
 ·intro JJ4 hmeet3
  have hup2 := h; clear h; have h := ho1; clear ho1
  refine Run.block ?_
  refine R.lp (β := Int) [(0, .slice (b0.map int))] [] (fun bb S => (3, int bb) :: S) (fun bb M => M) (fun n bb => i_SetOk_L1 b0 n bb = some o1) F0 1 h ?_
  clear h
  rintro JJ4 n4 a6 hag4 h
  obtain _ | n4 := n4
  ·exact absurd h (by simp [i_SetOk_L1])
  rw [i_SetOk_L1] at h
  refine Run.seq ?_
  refine Run.sr ?_
  refine X.mv ?_
  refine X.mv ?_
  refine X.ls elt25 ?_
  refine X.bi ?_
  refine X.nil ?_
  refine R.cd (fun hc9 => ?_) (fun hc9 => ?_)
  ·replace h := condT hc9 h
   refine Run.skip ?_
   refine Run.seq ?_
   refine Run.block ?_
   refine Run.seq ?_
   refine Run.draw (footOf []) mixed (by kernel_rfl) (by kernel_rfl) ?_
   refine X.mv ?_
   refine X.mv ?_
   obtain ⟨v10, hv10, h⟩ := bindE h
   refine X.ix elt25 (idxL_spec hv10).1 (idxL_map int hv10) ?_
   refine X.lc shp3 ?_
   refine X.mv ?_
   refine X.mv ?_
   refine X.subW (by rfl) (by rfl) (by rfl) ?_
   obtain ⟨v11, hv11, h⟩ := bindE h
   refine X.ix elt25 (idxL_spec hv11).1 (idxL_map int hv11) ?_
   refine X.lc shp3 ?_
   refine X.bi ?_
   refine X.nil ?_
   refine R.cd (fun hc12 => ?_) (fun hc12 => ?_)
   ·replace h := condT hc12 h
    refine Run.sr ?_
    refine X.an ?_
    cases h
    have h := hup2
    replace h := elimR h
    cases h
    refine R.f1 Tryz.results109 ?_
    rfl
   ·replace h := condF hc12 h
    refine Run.skip ?_
    refine Run.blk ?_
    refine Run.reg ?_
    refine X.mv ?_
    refine X.addW (by rfl) (by rfl) (by rfl) ?_
    refine X.an ?_
    exact hag4 n4 (W (a6 + 1)) _ _ (by omega) h (by trivial) (by trivial) (by rfl) (by rfl)
  ·replace h := condF hc9 h
   refine Run.exit (by rfl) ?_
   exact R.mt hmeet3 () (Option.some.inj h)
 rintro p13 rfl
 replace h := elimL h
 refine Run.sr ?_
 refine X.an ?_
 cases h
 refine R.f1 Tryz.results109 ?_
 rfl
theorem i_ModeIndexes_pc (b0 : TActivity) (r : List Int) (h : i_ModeIndexes b0 = some r) : PC Tryz.prog 111 [eTActivity b0] (.fresh false 3 1 (r.map int)) := by
 unfold i_ModeIndexes at h
 refine PC.start Tryz.func111 Tryz.ntmps111 rfl ok111 rfl ?_
 refine Run.sr ?_
 refine X.bx ?_
 refine X.an ?_
 refine Run.sr ?_
 refine X.fl fld108_2 ?_
 refine X.ld shp106 ?_
 refine X.ls elt106 ?_
 obtain ⟨v1, hv1, h⟩ := bindE h
 refine X.callF (PC.pubF (i_IntRange_pc _ _ hv1)) (by rfl) (by rfl) (by rfl) (by trivial) (by rfl) (by rfl) (by rfl) (by rfl) ?_
 refine X.an ?_
 cases h
 refine R.fin1o Tryz.results111 (by rfl) (by rfl) (by first | rfl | simp [setL] | omega) ?_
 rfl
theorem slices_Index_int_pc (b0 : List Int) (b1 : Int) (r : Int) (h : slices_Index_int b0 b1 = some r) : PC Tryz.prog 207 [.slice (b0.map int), int b1] (int r) := by
 unfold slices_Index_int at h
 refine PC.start Tryz.func207 Tryz.ntmps207 rfl ok207 rfl ?_
 refine Run.sr ?_
 refine X.an ?_
 refine Run.seq ?_
 refine Run.sr ?_
 refine X.mv ?_
 refine X.ls elt25 ?_
 refine X.mn ?_
 obtain ⟨o1, ho1, h⟩ := bindE h
 refine R.join2 (β := Unit) [] [] (fun p13 S => S) (fun p13 M => M) (fun p13 => (Sum.inl p13) = o1) ?_ ?_
 ·intro JJ4 hmeet3
  have hup2 := h; clear h; have h := ho1; clear ho1
  refine Run.block ?_
  refine R.bndS (t := 0) (by rfl) (fun hbd7 => ?_)
  replace hbd7 : b0.length ≤ 9223372036854775807 := by first | (rw [List.length_map] at hbd7; exact hbd7) | simp
  refine R.lp (β := Int) [(0, .slice (b0.map int)), (1, int b1), (7, int (b0.length : Int))] [] (fun bb S => (8, int bb) :: S) (fun bb M => M) (fun n bb => 0 ≤ bb ∧ bb + n = (b0.length : Int) ∧ slices_Index_int_L1 b1 (b0.drop bb.toNat) bb = some o1) b0.length (0 : Int) ⟨Int.le_refl _, by simp, h⟩ ?_
  clear h
  rintro JJ7 n7 z8 hag7 ⟨hza7, hzb7, h⟩
  refine Run.sr ?_
  refine X.bi ?_
  refine X.nil ?_
  refine Run.seq ?_
  refine R.cd (fun hc11 => ?_) (fun hc11 => ?_)
  ·obtain ⟨x9, xs10, hd7, hx7, hds7, hlt7⟩ := drop_atI hza7 hc11
   rw [hd7] at h
   rw [slices_Index_int_L1] at h
   refine Run.skip ?_
   refine Run.seq ?_
   refine Run.block ?_
   refine Run.sr ?_
   refine X.mv ?_
   refine X.an ?_
   refine Run.sr ?_
   refine X.mv ?_
   refine X.mv ?_
   refine X.mv ?_
   refine X.ix elt25 (idxL_spec hx7).1 (idxL_map int hx7) ?_
   refine X.lc shp3 ?_
   refine X.bi ?_
   refine X.nil ?_
   refine R.cd (fun hc12 => ?_) (fun hc12 => ?_)
   ·replace h := condT hc12 h
    refine Run.sr ?_
    refine X.mv ?_
    refine X.an ?_
    cases h
    have h := hup2
    replace h := elimR h
    cases h
    refine R.f1 Tryz.results207 ?_
    rfl
   ·replace h := condF hc12 h
    refine Run.skip ?_
    refine Run.blk ?_
    refine Run.reg ?_
    refine X.ad ?_
    refine X.mn ?_
    exact R.ag hag7 (n7 - 1) (z8 + 1) (R.n3 (by first | (rw [hds7]; exact h) | (dsimp only; rw [hds7]; exact h)))
  ·rw [drop_endI hza7 hc11] at h
   rw [slices_Index_int_L1] at h
   refine Run.exit (by rfl) ?_
   exact R.mt hmeet3 () (Option.some.inj h)
 rintro p13 rfl
 replace h := elimL h
 refine Run.sr ?_
 refine X.an ?_
 cases h
 refine R.f1 Tryz.results207 ?_
 rfl
theorem slices_Contains_int_pc (b0 : List Int) (b1 : Int) (r : Bool) (h : slices_Contains_int b0 b1 = some r) : PC Tryz.prog 189 [.slice (b0.map int), int b1] (bool r) := by
 unfold slices_Contains_int at h
 refine PC.start Tryz.func189 Tryz.ntmps189 rfl ok189 rfl ?_
 refine Run.sr ?_
 refine X.an ?_
 refine Run.sr ?_
 refine X.mv ?_
 refine X.mv ?_
 obtain ⟨v1, hv1, h⟩ := bindE h
 refine X.cp (slices_Index_int_pc _ _ _ hv1) ?_
 refine X.bi ?_
 refine X.an ?_
 cases h
 refine R.f1 Tryz.results189 ?_
 rfl
theorem i_SetHas_pc (b0 : List Int) (b1 : Int) (r : Bool) (h : i_SetHas b0 b1 = some r) : PC Tryz.prog 148 [.slice (b0.map int), int b1] (bool r) := by
 unfold i_SetHas at h
 refine PC.start Tryz.func148 Tryz.ntmps148 rfl ok148 rfl ?_
 refine Run.sr ?_
 refine X.an ?_
 refine Run.sr ?_
 refine X.mv ?_
 refine X.mv ?_
 obtain ⟨v1, hv1, h⟩ := bindE h
 refine X.cp (slices_Contains_int_pc _ _ _ hv1) ?_
 refine X.an ?_
 cases h
 refine R.f1 Tryz.results148 ?_
 rfl
theorem i_SetSubset_pc (b0 : List Int) (b1 : List Int) (r : Bool) (h : i_SetSubset b0 b1 = some r) : PC Tryz.prog 110 [.slice (b0.map int), .slice (b1.map int)] (bool r) := by
 unfold i_SetSubset at h
 refine PC.start Tryz.func110 Tryz.ntmps110 rfl ok110 rfl ?_
 refine Run.sr ?_
 refine X.an ?_
 refine Run.seq ?_
 refine Run.sr ?_
 refine X.mv ?_
 refine X.ls elt25 ?_
 refine X.mn ?_
 obtain ⟨o1, ho1, h⟩ := bindE h
 refine R.join2 (β := Unit) [] [] (fun p14 S => S) (fun p14 M => M) (fun p14 => (Sum.inl p14) = o1) ?_ ?_
 ·intro JJ4 hmeet3
  have hup2 := h; clear h; have h := ho1; clear ho1
  refine Run.block ?_
  refine R.bndS (t := 0) (by rfl) (fun hbd7 => ?_)
  replace hbd7 : b0.length ≤ 9223372036854775807 := by first | (rw [List.length_map] at hbd7; exact hbd7) | simp
  refine R.lp (β := Int) [(1, .slice (b1.map int)), (7, .slice (b0.map int)), (8, int (b0.length : Int))] [] (fun bb S => (9, int bb) :: S) (fun bb M => M) (fun n bb => 0 ≤ bb ∧ bb + n = (b0.length : Int) ∧ i_SetSubset_L1 b1 (b0.drop bb.toNat) bb = some o1) b0.length (0 : Int) ⟨Int.le_refl _, by simp, h⟩ ?_
  clear h
  rintro JJ7 n7 z8 hag7 ⟨hza7, hzb7, h⟩
  refine Run.sr ?_
  refine X.bi ?_
  refine X.nil ?_
  refine Run.seq ?_
  refine R.cd (fun hc11 => ?_) (fun hc11 => ?_)
  ·obtain ⟨x9, xs10, hd7, hx7, hds7, hlt7⟩ := drop_atI hza7 hc11
   rw [hd7] at h
   rw [i_SetSubset_L1] at h
   refine Run.skip ?_
   refine Run.seq ?_
   refine Run.block ?_
   refine Run.sr ?_
   refine X.ix elt25 (idxL_spec hx7).1 (idxL_map int hx7) ?_
   refine X.lc shp3 ?_
   refine X.an ?_
   refine Run.sr ?_
   refine X.mv ?_
   refine X.mv ?_
   obtain ⟨v12, hv12, h⟩ := bindE h
   refine X.cp (i_SetHas_pc _ _ _ hv12) ?_
   refine X.un (by rfl) (by rfl) (by rfl) ?_
   refine X.nil ?_
   refine R.cd (fun hc13 => ?_) (fun hc13 => ?_)
   ·replace h := condT hc13 h
    refine Run.sr ?_
    refine X.an ?_
    cases h
    have h := hup2
    replace h := elimR h
    cases h
    refine R.f1 Tryz.results110 ?_
    rfl
   ·replace h := condF hc13 h
    refine Run.skip ?_
    refine Run.blk ?_
    refine Run.reg ?_
    refine X.ad ?_
    refine X.mn ?_
    exact R.ag hag7 (n7 - 1) (z8 + 1) (R.n3 (by first | (rw [hds7]; exact h) | (dsimp only; rw [hds7]; exact h)))
  ·rw [drop_endI hza7 hc11] at h
   rw [i_SetSubset_L1] at h
   refine Run.exit (by rfl) ?_
   exact R.mt hmeet3 () (Option.some.inj h)
 rintro p14 rfl
 replace h := elimL h
 refine Run.sr ?_
 refine X.an ?_
 cases h
 refine R.f1 Tryz.results110 ?_
 rfl
theorem i_DomainForm_pc (b0 : TProject) (b1 : TDomain) (r : Bool) (h : i_DomainForm b0 b1 = some r) : PC Tryz.prog 67 [eTProject b0, eTDomain b1] (bool r) := by
 unfold i_DomainForm at h
 refine PC.start Tryz.func67 Tryz.ntmps67 rfl ok67 rfl ?_
 refine Run.sr ?_
 refine X.bx ?_
 refine X.bx ?_
 refine X.an ?_
 refine Run.sr ?_
 refine X.fl fld36_1 ?_
 refine X.ld shp32 ?_
 refine X.ls elt32 ?_
 refine X.an ?_
 refine Run.seq ?_
 refine Run.seq ?_
 obtain ⟨v1, hv1, h⟩ := bindE h
 obtain ⟨e2, he2, h2⟩ := bindE h
 refine R.regG [(2, .lptr 128 0), (3, .lptr 192 0), (34, bool e2)] [(128, .blk true [int b0.Deadline, .slice (b0.Activities.map eTActivity), .slice (b0.Links.map eTLink), .slice (b0.Resources.map eTResource), .slice (b0.Stocks.map int)]), (192, .blk true [.slice (b1.MinStart.map int), .slice (b1.MaxStart.map int), .slice (b1.Modes.map l_int)])] ?_ ?_
 ·clear h; have h := he2; clear he2 h2
  refine X.ld shp36 ?_
  refine X.cp (i_ProjectOk_pc _ _ hv1) ?_
  refine X.un (by rfl) (by rfl) (by rfl) ?_
  refine X.mv ?_
  refine X.iG (fun hb3 => ?_) (fun hb3 => ?_)
  ·replace h := condF hb3 h
   refine X.fl fld51_0 ?_
   refine X.gy ?_
   refine X.ld shp25 ?_
   refine X.gy ?_
   refine X.ls elt25 ?_
   refine X.gy ?_
   refine X.mv ?_
   refine X.gy ?_
   refine X.bi ?_
   refine X.pF ?_
   refine X.mv ?_
   refine X.iG (fun hb4 => ?_) (fun hb4 => ?_)
   ·replace h := condF hb4 h
    refine X.fl fld51_1 ?_
    refine X.gy ?_
    refine X.ld shp25 ?_
    refine X.gy ?_
    refine X.ls elt25 ?_
    refine X.gy ?_
    refine X.mv ?_
    refine X.gy ?_
    refine X.bi ?_
    refine X.pF ?_
    refine X.mv ?_
    refine X.iG (fun hb5 => ?_) (fun hb5 => ?_)
    ·replace h := condF hb5 h
     refine X.fl fld51_2 ?_
     refine X.gy ?_
     refine X.ld shp45 ?_
     refine X.gy ?_
     refine X.ls elt45 ?_
     refine X.gy ?_
     refine X.mv ?_
     refine X.gy ?_
     refine X.bi ?_
     refine X.pF ?_
     cases h
     exact X.eG
    ·replace h := condT hb5 h
     refine X.gn ?_
     refine X.gn ?_
     refine X.gn ?_
     refine X.gn ?_
     refine X.pT ?_
     cases h
     exact X.eG
   ·replace h := condT hb4 h
    refine X.gn ?_
    refine X.gn ?_
    refine X.gn ?_
    refine X.gn ?_
    refine X.pT ?_
    refine X.mv ?_
    refine X.gn ?_
    refine X.gn ?_
    refine X.gn ?_
    refine X.gn ?_
    refine X.gn ?_
    refine X.pT ?_
    cases h
    exact X.eG
  ·replace h := condT hb3 h
   refine X.gn ?_
   refine X.gn ?_
   refine X.gn ?_
   refine X.gn ?_
   refine X.pT ?_
   refine X.mv ?_
   refine X.gn ?_
   refine X.gn ?_
   refine X.gn ?_
   refine X.gn ?_
   refine X.gn ?_
   refine X.pT ?_
   refine X.mv ?_
   refine X.gn ?_
   refine X.gn ?_
   refine X.gn ?_
   refine X.gn ?_
   refine X.gn ?_
   refine X.pT ?_
   cases h
   exact X.eG
 replace h := h2; clear h2
 refine R.cd (fun hc6 => ?_) (fun hc6 => ?_)
 ·replace h := condT hc6 h
  refine Run.sr ?_
  refine X.an ?_
  cases h
  refine R.f1 Tryz.results67 ?_
  rfl
 ·replace h := condF hc6 h
  refine Run.skip ?_
  refine Run.seq ?_
  refine Run.sr ?_
  refine X.fl fld51_2 ?_
  refine X.ld shp45 ?_
  refine X.ls elt45 ?_
  refine X.mn ?_
  obtain ⟨o7, ho7, h⟩ := bindE h
  refine R.join2 (β := Unit) [] [] (fun p31 S => S) (fun p31 M => M) (fun p31 => (Sum.inl p31) = o7) ?_ ?_
  ·intro JJ10 hmeet9
   have hup8 := h; clear h; have h := ho7; clear ho7
   refine Run.block ?_
   refine R.bndS (t := 36) (by rfl) (fun hbd13 => ?_)
   replace hbd13 : b1.Modes.length ≤ 9223372036854775807 := by first | (rw [List.length_map] at hbd13; exact hbd13) | simp
   refine R.lp (β := Int) [(2, .lptr 128 0), (3, .lptr 192 0), (36, .slice (b1.Modes.map l_int)), (37, int (b1.Modes.length : Int))] [(128, .blk true [int b0.Deadline, .slice (b0.Activities.map eTActivity), .slice (b0.Links.map eTLink), .slice (b0.Resources.map eTResource), .slice (b0.Stocks.map int)]), (192, .blk true [.slice (b1.MinStart.map int), .slice (b1.MaxStart.map int), .slice (b1.Modes.map l_int)])] (fun bb S => (38, int bb) :: S) (fun bb M => M) (fun n bb => 0 ≤ bb ∧ bb + n = (b1.Modes.length : Int) ∧ i_DomainForm_L1 b0 b1 (b1.Modes.drop bb.toNat) bb = some o7) b1.Modes.length (0 : Int) ⟨Int.le_refl _, by simp, h⟩ ?_
   clear h
   rintro JJ13 n13 z14 hag13 ⟨hza13, hzb13, h⟩
   refine Run.sr ?_
   refine X.bi ?_
   refine X.nil ?_
   refine Run.seq ?_
   refine R.cd (fun hc17 => ?_) (fun hc17 => ?_)
   ·obtain ⟨x15, xs16, hd13, hx13, hds13, hlt13⟩ := drop_atI hza13 hc17
    rw [hd13] at h
    rw [i_DomainForm_L1] at h
    refine Run.skip ?_
    refine Run.seq ?_
    refine Run.block ?_
    refine Run.sr ?_
    refine X.mv ?_
    refine X.ix elt45 (idxL_spec hx13).1 (idxL_map l_int hx13) ?_
    refine X.lc shp25 ?_
    refine X.as ?_
    refine X.an ?_
    refine Run.seq ?_
    obtain ⟨v18, hv18, h⟩ := bindE h
    obtain ⟨v19, hv19, h⟩ := bindE h
    obtain ⟨e20, he20, h2⟩ := bindE h
    refine R.regG [(2, .lptr 128 0), (3, .lptr 192 0), (36, .slice (b1.Modes.map l_int)), (37, int (b1.Modes.length : Int)), (38, int z14), (74, bool e20)] [(128, .blk true [int b0.Deadline, .slice (b0.Activities.map eTActivity), .slice (b0.Links.map eTLink), .slice (b0.Resources.map eTResource), .slice (b0.Stocks.map int)]), (192, .blk true [.slice (b1.MinStart.map int), .slice (b1.MaxStart.map int), .slice (b1.Modes.map l_int)])] ?_ ?_
    ·clear h; have h := he20; clear he20 h2
     refine X.fl fld51_0 ?_
     refine X.ld shp25 ?_
     refine X.mv ?_
     refine X.ix elt25 (idxL_spec hv18).1 (idxL_map int hv18) ?_
     refine X.lc shp3 ?_
     refine X.cp (i_isStart_pc _ _ hv19) ?_
     refine X.un (by rfl) (by rfl) (by rfl) ?_
     refine X.mv ?_
     refine X.iG (fun hb21 => ?_) (fun hb21 => ?_)
     ·replace h := condF hb21 h
      refine X.fl fld51_1 ?_
      refine X.gy ?_
      refine X.ld shp25 ?_
      refine X.gy ?_
      refine X.mv ?_
      refine X.gy ?_
      obtain ⟨v22, hv22, h⟩ := bindE h
      refine X.ix elt25 (idxL_spec hv22).1 (idxL_map int hv22) ?_
      refine X.gy ?_
      refine X.lc shp3 ?_
      refine X.gy ?_
      obtain ⟨v23, hv23, h⟩ := bindE h
      refine X.cp (i_isStart_pc _ _ hv23) ?_
      refine X.gy ?_
      refine X.un (by rfl) (by rfl) (by rfl) ?_
      refine X.pF ?_
      refine X.mv ?_
      refine X.iG (fun hb24 => ?_) (fun hb24 => ?_)
      ·replace h := condF hb24 h
       refine X.mv ?_
       refine X.gy ?_
       obtain ⟨v25, hv25, h⟩ := bindE h
       refine X.cp (i_SetOk_pc _ _ hv25) ?_
       refine X.gy ?_
       refine X.un (by rfl) (by rfl) (by rfl) ?_
       refine X.pF ?_
       refine X.mv ?_
       refine X.iG (fun hb26 => ?_) (fun hb26 => ?_)
       ·replace h := condF hb26 h
        refine X.mv ?_
        refine X.gy ?_
        refine X.fl fld36_1 ?_
        refine X.gy ?_
        refine X.ld shp32 ?_
        refine X.gy ?_
        refine X.mv ?_
        refine X.gy ?_
        obtain ⟨v27, hv27, h⟩ := bindE h
        refine X.ix elt32 (idxL_spec hv27).1 (idxL_map eTActivity hv27) ?_
        refine X.gy ?_
        refine X.lc shp108 ?_
        refine X.gy ?_
        obtain ⟨v28, hv28, h⟩ := bindE h
        refine X.callF (i_ModeIndexes_pc _ _ hv28) (by rfl) (by rfl) (by rfl) (by trivial) (by rfl) (by rfl) (by rfl) (by rfl) ?_
        refine X.gy ?_
        obtain ⟨v29, hv29, h⟩ := bindE h
        refine X.cp (i_SetSubset_pc _ _ _ hv29) ?_
        refine X.gy ?_
        refine X.un (by rfl) (by rfl) (by rfl) ?_
        refine X.pF ?_
        cases h
        exact X.eG
       ·replace h := condT hb26 h
        refine X.gn ?_
        refine X.gn ?_
        refine X.gn ?_
        refine X.gn ?_
        refine X.gn ?_
        refine X.gn ?_
        refine X.gn ?_
        refine X.gn ?_
        refine X.pT ?_
        cases h
        exact X.eG
      ·replace h := condT hb24 h
       refine X.gn ?_
       refine X.gn ?_
       refine X.pT ?_
       refine X.mv ?_
       refine X.gn ?_
       refine X.gn ?_
       refine X.gn ?_
       refine X.gn ?_
       refine X.gn ?_
       refine X.gn ?_
       refine X.gn ?_
       refine X.gn ?_
       refine X.gn ?_
       refine X.pT ?_
       cases h
       exact X.eG
     ·replace h := condT hb21 h
      refine X.gn ?_
      refine X.gn ?_
      refine X.gn ?_
      refine X.gn ?_
      refine X.gn ?_
      refine X.gn ?_
      refine X.pT ?_
      refine X.mv ?_
      refine X.gn ?_
      refine X.gn ?_
      refine X.gn ?_
      refine X.pT ?_
      refine X.mv ?_
      refine X.gn ?_
      refine X.gn ?_
      refine X.gn ?_
      refine X.gn ?_
      refine X.gn ?_
      refine X.gn ?_
      refine X.gn ?_
      refine X.gn ?_
      refine X.gn ?_
      refine X.pT ?_
      cases h
      exact X.eG
    replace h := h2; clear h2
    refine R.cd (fun hc30 => ?_) (fun hc30 => ?_)
    ·replace h := condT hc30 h
     refine Run.sr ?_
     refine X.an ?_
     cases h
     have h := hup8
     replace h := elimR h
     cases h
     refine R.f1 Tryz.results67 ?_
     rfl
    ·replace h := condF hc30 h
     refine Run.skip ?_
     refine Run.blk ?_
     refine Run.reg ?_
     refine X.ad ?_
     refine X.mn ?_
     exact R.ag hag13 (n13 - 1) (z14 + 1) (R.n3 (by first | (rw [hds13]; exact h) | (dsimp only; rw [hds13]; exact h)))
   ·rw [drop_endI hza13 hc17] at h
    rw [i_DomainForm_L1] at h
    refine Run.exit (by rfl) ?_
    exact R.mt hmeet9 () (Option.some.inj h)
  rintro p31 rfl
  replace h := elimL h
  refine Run.sr ?_
  refine X.an ?_
  cases h
  refine R.f1 Tryz.results67 ?_
  rfl
theorem slices_IndexFunc__int_pc (b0 : List (List Int)) (g1 : (List Int) → Option Bool) (g1id : Nat) (g1c : List PV) (hg1 : ∀ (x0 : List Int) v, g1 x0 = some v → PC Tryz.prog g1id ([.slice (x0.map int)] ++ g1c) (bool v)) (r : Int) (h : slices_IndexFunc__int b0 g1 = some r) : PC Tryz.prog 149 [.slice (b0.map l_int), .fn g1id g1c] (int r) := by
 unfold slices_IndexFunc__int at h
 refine PC.start Tryz.func149 Tryz.ntmps149 rfl ok149 rfl ?_
 refine Run.sr ?_
 refine X.an ?_
 refine Run.seq ?_
 refine Run.sr ?_
 refine X.mv ?_
 refine X.ls elt45 ?_
 refine X.mn ?_
 obtain ⟨o1, ho1, h⟩ := bindE h
 refine R.join2 (β := Unit) [] [] (fun p14 S => S) (fun p14 M => M) (fun p14 => (Sum.inl p14) = o1) ?_ ?_
 ·intro JJ4 hmeet3
  have hup2 := h; clear h; have h := ho1; clear ho1
  refine Run.block ?_
  refine R.bndS (t := 0) (by rfl) (fun hbd7 => ?_)
  replace hbd7 : b0.length ≤ 9223372036854775807 := by first | (rw [List.length_map] at hbd7; exact hbd7) | simp
  refine R.lp (β := Int) [(0, .slice (b0.map l_int)), (1, .fn g1id g1c), (7, int (b0.length : Int))] [] (fun bb S => (8, int bb) :: S) (fun bb M => M) (fun n bb => 0 ≤ bb ∧ bb + n = (b0.length : Int) ∧ slices_IndexFunc__int_L1 g1 (b0.drop bb.toNat) bb = some o1) b0.length (0 : Int) ⟨Int.le_refl _, by simp, h⟩ ?_
  clear h
  rintro JJ7 n7 z8 hag7 ⟨hza7, hzb7, h⟩
  refine Run.sr ?_
  refine X.bi ?_
  refine X.nil ?_
  refine Run.seq ?_
  refine R.cd (fun hc11 => ?_) (fun hc11 => ?_)
  ·obtain ⟨x9, xs10, hd7, hx7, hds7, hlt7⟩ := drop_atI hza7 hc11
   rw [hd7] at h
   rw [slices_IndexFunc__int_L1] at h
   refine Run.skip ?_
   refine Run.seq ?_
   refine Run.block ?_
   refine Run.sr ?_
   refine X.mv ?_
   refine X.an ?_
   refine Run.sr ?_
   refine X.mv ?_
   refine X.mv ?_
   refine X.mv ?_
   refine X.ix elt45 (idxL_spec hx7).1 (idxL_map l_int hx7) ?_
   refine X.lc shp25 ?_
   obtain ⟨v12, hv12, h⟩ := bindE h
   refine X.cp (hg1 _ _ hv12) ?_
   refine X.nil ?_
   refine R.cd (fun hc13 => ?_) (fun hc13 => ?_)
   ·replace h := condT hc13 h
    refine Run.sr ?_
    refine X.mv ?_
    refine X.an ?_
    cases h
    have h := hup2
    replace h := elimR h
    cases h
    refine R.f1 Tryz.results149 ?_
    rfl
   ·replace h := condF hc13 h
    refine Run.skip ?_
    refine Run.blk ?_
    refine Run.reg ?_
    refine X.ad ?_
    refine X.mn ?_
    exact R.ag hag7 (n7 - 1) (z8 + 1) (R.n3 (by first | (rw [hds7]; exact h) | (dsimp only; rw [hds7]; exact h)))
  ·rw [drop_endI hza7 hc11] at h
   rw [slices_IndexFunc__int_L1] at h
   refine Run.exit (by rfl) ?_
   exact R.mt hmeet3 () (Option.some.inj h)
 rintro p14 rfl
 replace h := elimL h
 refine Run.sr ?_
 refine X.an ?_
 cases h
 refine R.f1 Tryz.results149 ?_
 rfl
theorem slices_ContainsFunc__int_pc (b0 : List (List Int)) (g1 : (List Int) → Option Bool) (g1id : Nat) (g1c : List PV) (hg1 : ∀ (x0 : List Int) v, g1 x0 = some v → PC Tryz.prog g1id ([.slice (x0.map int)] ++ g1c) (bool v)) (r : Bool) (h : slices_ContainsFunc__int b0 g1 = some r) : PC Tryz.prog 112 [.slice (b0.map l_int), .fn g1id g1c] (bool r) := by
 unfold slices_ContainsFunc__int at h
 refine PC.start Tryz.func112 Tryz.ntmps112 rfl ok112 rfl ?_
 refine Run.sr ?_
 refine X.an ?_
 refine Run.sr ?_
 refine X.mv ?_
 refine X.mv ?_
 obtain ⟨v1, hv1, h⟩ := bindE h
 refine X.cp (slices_IndexFunc__int_pc _ g1 _ _ hg1 _ hv1) ?_
 refine X.bi ?_
 refine X.an ?_
 cases h
 refine R.f1 Tryz.results112 ?_
 rfl
theorem i_DomainEmpty_c1_pc (b0 : List Int) (r : Bool) (h : i_DomainEmpty_c1 b0 = some r) : PC Tryz.prog 113 [.slice (b0.map int)] (bool r) := by
 unfold i_DomainEmpty_c1 at h
 refine PC.start Tryz.func113 Tryz.ntmps113 rfl ok113 rfl ?_
 refine Run.sr ?_
 refine X.an ?_
 refine Run.sr ?_
 refine X.mv ?_
 refine X.ls elt25 ?_
 refine X.bi ?_
 refine X.an ?_
 cases h
 refine R.f1 Tryz.results113 ?_
 rfl
theorem i_DomainEmpty_pc (b0 : TDomain) (r : Bool) (h : i_DomainEmpty b0 = some r) : PC Tryz.prog 68 [eTDomain b0] (bool r) := by
 unfold i_DomainEmpty at h
 refine PC.start Tryz.func68 Tryz.ntmps68 rfl ok68 rfl ?_
 refine Run.sr ?_
 refine X.bx ?_
 refine X.an ?_
 refine Run.seq ?_
 refine Run.sr ?_
 refine X.fl fld51_0 ?_
 refine X.ld shp25 ?_
 refine X.ls elt25 ?_
 refine X.mn ?_
 obtain ⟨o1, ho1, h⟩ := bindE h
 refine R.join2 (β := Unit) [(1, .lptr 64 0)] [(64, .blk true [.slice (b0.MinStart.map int), .slice (b0.MaxStart.map int), .slice (b0.Modes.map l_int)])] (fun p16 S => S) (fun p16 M => M) (fun p16 => (Sum.inl p16) = o1) ?_ ?_
 ·intro JJ4 hmeet3
  have hup2 := h; clear h; have h := ho1; clear ho1
  refine Run.block ?_
  refine R.bndS (t := 6) (by rfl) (fun hbd7 => ?_)
  replace hbd7 : b0.MinStart.length ≤ 9223372036854775807 := by first | (rw [List.length_map] at hbd7; exact hbd7) | simp
  refine R.lp (β := Int) [(1, .lptr 64 0), (6, .slice (b0.MinStart.map int)), (7, int (b0.MinStart.length : Int))] [(64, .blk true [.slice (b0.MinStart.map int), .slice (b0.MaxStart.map int), .slice (b0.Modes.map l_int)])] (fun bb S => (8, int bb) :: S) (fun bb M => M) (fun n bb => 0 ≤ bb ∧ bb + n = (b0.MinStart.length : Int) ∧ i_DomainEmpty_L1 b0 (b0.MinStart.drop bb.toNat) bb = some o1) b0.MinStart.length (0 : Int) ⟨Int.le_refl _, by simp, h⟩ ?_
  clear h
  rintro JJ7 n7 z8 hag7 ⟨hza7, hzb7, h⟩
  refine Run.sr ?_
  refine X.bi ?_
  refine X.nil ?_
  refine Run.seq ?_
  refine R.cd (fun hc11 => ?_) (fun hc11 => ?_)
  ·obtain ⟨x9, xs10, hd7, hx7, hds7, hlt7⟩ := drop_atI hza7 hc11
   rw [hd7] at h
   rw [i_DomainEmpty_L1] at h
   refine Run.skip ?_
   refine Run.seq ?_
   refine Run.block ?_
   refine Run.sr ?_
   refine X.mv ?_
   refine X.ix elt25 (idxL_spec hx7).1 (idxL_map int hx7) ?_
   refine X.lc shp3 ?_
   refine X.as ?_
   refine X.an ?_
   refine Run.seq ?_
   obtain ⟨e12, he12, h2⟩ := bindE h
   refine R.regG [(1, .lptr 64 0), (6, .slice (b0.MinStart.map int)), (7, int (b0.MinStart.length : Int)), (8, int z8), (26, bool e12)] [(64, .blk true [.slice (b0.MinStart.map int), .slice (b0.MaxStart.map int), .slice (b0.Modes.map l_int)])] ?_ ?_
   ·clear h; have h := he12; clear he12 h2
    refine X.mv ?_
    refine X.fl fld51_1 ?_
    refine X.ld shp25 ?_
    refine X.ls elt25 ?_
    refine X.bi ?_
    refine X.mv ?_
    refine X.iG (fun hb13 => ?_) (fun hb13 => ?_)
    ·replace h := condT hb13 h
     refine X.mv ?_
     refine X.gy ?_
     refine X.fl fld51_1 ?_
     refine X.gy ?_
     refine X.ld shp25 ?_
     refine X.gy ?_
     refine X.mv ?_
     refine X.gy ?_
     obtain ⟨v14, hv14, h⟩ := bindE h
     refine X.ix elt25 (idxL_spec hv14).1 (idxL_map int hv14) ?_
     refine X.gy ?_
     refine X.lc shp3 ?_
     refine X.gy ?_
     refine X.bi ?_
     refine X.pT ?_
     cases h
     exact X.eG
    ·replace h := condF hb13 h
     refine X.gn ?_
     refine X.gn ?_
     refine X.gn ?_
     refine X.gn ?_
     refine X.gn ?_
     refine X.gn ?_
     refine X.pF ?_
     cases h
     exact X.eG
   replace h := h2; clear h2
   refine R.cd (fun hc15 => ?_) (fun hc15 => ?_)
   ·replace h := condT hc15 h
    refine Run.sr ?_
    refine X.an ?_
    cases h
    have h := hup2
    replace h := elimR h
    cases h
    refine R.f1 Tryz.results68 ?_
    rfl
   ·replace h := condF hc15 h
    refine Run.skip ?_
    refine Run.blk ?_
    refine Run.reg ?_
    refine X.ad ?_
    refine X.mn ?_
    exact R.ag hag7 (n7 - 1) (z8 + 1) (R.n3 (by first | (rw [hds7]; exact h) | (dsimp only; rw [hds7]; exact h)))
  ·rw [drop_endI hza7 hc11] at h
   rw [i_DomainEmpty_L1] at h
   refine Run.exit (by rfl) ?_
   exact R.mt hmeet3 () (Option.some.inj h)
 rintro p16 rfl
 replace h := elimL h
 refine Run.sr ?_
 refine X.fl fld51_2 ?_
 refine X.ld shp45 ?_
 obtain ⟨v18, hv18, h⟩ := bindE h
 refine X.cp (slices_ContainsFunc__int_pc _ (fun x0 => i_DomainEmpty_c1 x0) _ _ (fun x0 v hv => i_DomainEmpty_c1_pc _ _ hv) _ hv18) ?_
 refine X.an ?_
 cases h
 refine R.f1 Tryz.results68 ?_
 rfl
theorem i_isUsable_pc (b0 : TProject) (b1 : TDomain) (r : Bool) (h : i_isUsable b0 b1 = some r) : PC Tryz.prog 57 [eTProject b0, eTDomain b1] (bool r) := by
 unfold i_isUsable at h
 refine PC.start Tryz.func57 Tryz.ntmps57 rfl ok57 rfl ?_
 refine Run.sr ?_
 refine X.bx ?_
 refine X.bx ?_
 refine X.an ?_
 refine Run.seq ?_
 obtain ⟨v1, hv1, h⟩ := bindE h
 obtain ⟨e2, he2, h2⟩ := bindE h
 refine R.regG [(4, bool e2)] [] ?_ ?_
 ·clear h; have h := he2; clear he2 h2
  refine X.ld shp36 ?_
  refine X.ld shp51 ?_
  refine X.cp (i_DomainForm_pc _ _ _ hv1) ?_
  refine X.mv ?_
  refine X.iG (fun hb3 => ?_) (fun hb3 => ?_)
  ·replace h := condT hb3 h
   refine X.ld shp51 ?_
   refine X.gy ?_
   obtain ⟨v4, hv4, h⟩ := bindE h
   refine X.cp (i_DomainEmpty_pc _ _ hv4) ?_
   refine X.gy ?_
   refine X.un (by rfl) (by rfl) (by rfl) ?_
   refine X.pT ?_
   refine X.as ?_
   cases h
   exact X.eG
  ·replace h := condF hb3 h
   refine X.gn ?_
   refine X.gn ?_
   refine X.pF ?_
   refine X.as ?_
   cases h
   exact X.eG
 replace h := h2; clear h2
 cases h
 refine R.f1 Tryz.results57 ?_
 rfl
theorem i_Project_rules_pc (b0 : TProject) (r : List TRule) (h : i_Project_rules b0 = some r) : PC Tryz.prog 58 [eTProject b0] (.fresh false 38 4 (r.map eTRule)) := by
 unfold i_Project_rules at h
 refine PC.start Tryz.func58 Tryz.ntmps58 rfl ok58 rfl ?_
 refine Run.sr ?_
 refine X.bx ?_
 refine X.an ?_
 refine Run.sr ?_
 refine X.buildSlice false elt49 zer38 (by rfl) (by rfl) (by rfl) (by rfl) (by rfl) (by rfl) (by repeat (first | trivial | refine ⟨by first | rfl | simp [setL], ?_⟩)) (allSz_spec (by rfl)) (by rfl) (by rfl) (by rfl) ?_
 refine X.an ?_
 refine Run.seq ?_
 refine Run.sr ?_
 refine X.fl fld36_2 ?_
 refine X.ld shp33 ?_
 refine X.ls elt33 ?_
 refine X.mn ?_
 obtain ⟨o1, ho1, h⟩ := bindE h
 refine R.join2 (β := (List TRule)) [(1, .lptr 64 0)] [(64, .blk true [int b0.Deadline, .slice (b0.Activities.map eTActivity), .slice (b0.Links.map eTLink), .slice (b0.Resources.map eTResource), .slice (b0.Stocks.map int)])] (fun p14 S => (3, .own 768 (p14.map eTRule).length) :: S) (fun p14 M => (768, .obj false 38 4 (p14.map eTRule)) :: M) (fun p14 => p14 = o1) ?_ ?_
 ·intro JJ4 hmeet3
  have hup2 := h; clear h; have h := ho1; clear ho1
  refine Run.block ?_
  refine R.bndS (t := 14) (by rfl) (fun hbd7 => ?_)
  replace hbd7 : b0.Links.length ≤ 9223372036854775807 := by first | (rw [List.length_map] at hbd7; exact hbd7) | simp
  refine R.lp (β := Int × (List TRule)) [(1, .lptr 64 0), (15, int (b0.Links.length : Int))] [(64, .blk true [int b0.Deadline, .slice (b0.Activities.map eTActivity), .slice (b0.Links.map eTLink), .slice (b0.Resources.map eTResource), .slice (b0.Stocks.map int)])] (fun bb S => (3, .own 768 (bb.2.map eTRule).length) :: (16, int bb.1) :: S) (fun bb M => (768, .obj false 38 4 (bb.2.map eTRule)) :: M) (fun n bb => 0 ≤ bb.1 ∧ bb.1 + n = (b0.Links.length : Int) ∧ i_Project_rules_L1 (b0.Links.drop bb.1.toNat) bb.1 bb.2 = some o1) b0.Links.length (0, ([] : List TRule)) ⟨Int.le_refl _, by simp, h⟩ ?_
  clear h
  rintro JJ7 n7 ⟨z8, a9⟩ hag7 ⟨hza7, hzb7, h⟩
  dsimp only at hza7 hzb7 h
  refine Run.sr ?_
  refine X.bi ?_
  refine X.nil ?_
  refine Run.seq ?_
  refine R.cd (fun hc12 => ?_) (fun hc12 => ?_)
  ·obtain ⟨x10, xs11, hd7, hx7, hds7, hlt7⟩ := drop_atI hza7 hc12
   rw [hd7] at h
   rw [i_Project_rules_L1] at h
   refine Run.skip ?_
   refine Run.seq ?_
   refine Run.block ?_
   refine Run.sr ?_
   refine X.mv ?_
   refine X.an ?_
   refine Run.reg ?_
   refine X.mv ?_
   refine X.mv ?_
   refine X.build zer38 pl38 (by rfl) (by rfl) (by repeat (first | trivial | refine ⟨by first | rfl | simp [setL], ?_⟩)) (by rfl) (by rfl) (by rfl) ?_
   refine X.buildSlice false elt49 zer38 (by rfl) (by rfl) (by rfl) (by rfl) (by rfl) (by rfl) (by repeat (first | trivial | refine ⟨by first | rfl | simp [setL], ?_⟩)) (allSz_spec (by rfl)) (by rfl) (by rfl) (by rfl) ?_
   obtain ⟨v13, hv13, h⟩ := bindE h
   refine X.append elt49 zer38 (by rfl) (by rfl) (by first | rfl | simp [setL] | omega) (by rfl) (.own _ _ _ _ _ _ (look_mem (by rfl)) (by first | rfl | simp [setL] | omega)) (allSz_spec (by rfl)) (appL_len eTRule hv13) (appL_map eTRule hv13) (by rfl) (by rfl) (by rfl) (by rfl) ?_
   refine X.an ?_
   refine Run.blk ?_
   refine Run.reg ?_
   refine X.ad ?_
   refine X.mn ?_
   exact R.ag hag7 (n7 - 1) (z8 + 1, v13) (R.n3 (by first | (rw [hds7]; exact h) | (dsimp only; rw [hds7]; exact h)))
  ·rw [drop_endI hza7 hc12] at h
   rw [i_Project_rules_L1] at h
   refine Run.exit (by rfl) ?_
   exact R.mt hmeet3 a9 (Option.some.inj h)
 rintro p14 rfl
 refine Run.seq ?_
 refine Run.sr ?_
 refine X.fl fld36_1 ?_
 refine X.ld shp32 ?_
 refine X.ls elt32 ?_
 refine X.mn ?_
 obtain ⟨o15, ho15, h⟩ := bindE h
 refine R.join2 (β := (List TRule)) [(1, .lptr 64 0)] [(64, .blk true [int b0.Deadline, .slice (b0.Activities.map eTActivity), .slice (b0.Links.map eTLink), .slice (b0.Resources.map eTResource), .slice (b0.Stocks.map int)])] (fun p28 S => (3, .own 768 (p28.map eTRule).length) :: S) (fun p28 M => (768, .obj false 38 4 (p28.map eTRule)) :: M) (fun p28 => p28 = o15) ?_ ?_
 ·intro JJ18 hmeet17
  have hup16 := h; clear h; have h := ho15; clear ho15
  refine Run.block ?_
  refine R.bndS (t := 26) (by rfl) (fun hbd21 => ?_)
  replace hbd21 : b0.Activities.length ≤ 9223372036854775807 := by first | (rw [List.length_map] at hbd21; exact hbd21) | simp
  refine R.lp (β := Int × (List TRule)) [(1, .lptr 64 0), (27, int (b0.Activities.length : Int))] [(64, .blk true [int b0.Deadline, .slice (b0.Activities.map eTActivity), .slice (b0.Links.map eTLink), .slice (b0.Resources.map eTResource), .slice (b0.Stocks.map int)])] (fun bb S => (3, .own 768 (bb.2.map eTRule).length) :: (28, int bb.1) :: S) (fun bb M => (768, .obj false 38 4 (bb.2.map eTRule)) :: M) (fun n bb => 0 ≤ bb.1 ∧ bb.1 + n = (b0.Activities.length : Int) ∧ i_Project_rules_L2 (b0.Activities.drop bb.1.toNat) bb.1 bb.2 = some o15) b0.Activities.length (0, p14) ⟨Int.le_refl _, by simp, h⟩ ?_
  clear h
  rintro JJ21 n21 ⟨z22, a23⟩ hag21 ⟨hza21, hzb21, h⟩
  dsimp only at hza21 hzb21 h
  refine Run.sr ?_
  refine X.bi ?_
  refine X.nil ?_
  refine Run.seq ?_
  refine R.cd (fun hc26 => ?_) (fun hc26 => ?_)
  ·obtain ⟨x24, xs25, hd21, hx21, hds21, hlt21⟩ := drop_atI hza21 hc26
   rw [hd21] at h
   rw [i_Project_rules_L2] at h
   refine Run.skip ?_
   refine Run.seq ?_
   refine Run.block ?_
   refine Run.sr ?_
   refine X.mv ?_
   refine X.an ?_
   refine Run.reg ?_
   refine X.mv ?_
   refine X.mv ?_
   refine X.build zer38 pl38 (by rfl) (by rfl) (by repeat (first | trivial | refine ⟨by first | rfl | simp [setL], ?_⟩)) (by rfl) (by rfl) (by rfl) ?_
   refine X.buildSlice false elt49 zer38 (by rfl) (by rfl) (by rfl) (by rfl) (by rfl) (by rfl) (by repeat (first | trivial | refine ⟨by first | rfl | simp [setL], ?_⟩)) (allSz_spec (by rfl)) (by rfl) (by rfl) (by rfl) ?_
   obtain ⟨v27, hv27, h⟩ := bindE h
   refine X.append elt49 zer38 (by rfl) (by rfl) (by first | rfl | simp [setL] | omega) (by rfl) (.own _ _ _ _ _ _ (look_mem (by rfl)) (by first | rfl | simp [setL] | omega)) (allSz_spec (by rfl)) (appL_len eTRule hv27) (appL_map eTRule hv27) (by rfl) (by rfl) (by rfl) (by rfl) ?_
   refine X.an ?_
   refine Run.blk ?_
   refine Run.reg ?_
   refine X.ad ?_
   refine X.mn ?_
   exact R.ag hag21 (n21 - 1) (z22 + 1, v27) (R.n3 (by first | (rw [hds21]; exact h) | (dsimp only; rw [hds21]; exact h)))
  ·rw [drop_endI hza21 hc26] at h
   rw [i_Project_rules_L2] at h
   refine Run.exit (by rfl) ?_
   exact R.mt hmeet17 a23 (Option.some.inj h)
 rintro p28 rfl
 refine Run.seq ?_
 refine Run.sr ?_
 refine X.fl fld36_3 ?_
 refine X.ld shp34 ?_
 refine X.ls elt34 ?_
 refine X.mn ?_
 obtain ⟨o29, ho29, h⟩ := bindE h
 refine R.join2 (β := (List TRule)) [(1, .lptr 64 0)] [(64, .blk true [int b0.Deadline, .slice (b0.Activities.map eTActivity), .slice (b0.Links.map eTLink), .slice (b0.Resources.map eTResource), .slice (b0.Stocks.map int)])] (fun p54 S => (3, .own 768 (p54.map eTRule).length) :: S) (fun p54 M => (768, .obj false 38 4 (p54.map eTRule)) :: M) (fun p54 => p54 = o29) ?_ ?_
 ·intro JJ32 hmeet31
  have hup30 := h; clear h; have h := ho29; clear ho29
  refine Run.block ?_
  refine R.bndS (t := 38) (by rfl) (fun hbd35 => ?_)
  replace hbd35 : b0.Resources.length ≤ 9223372036854775807 := by first | (rw [List.length_map] at hbd35; exact hbd35) | simp
  refine R.lp (β := Int × (List TRule)) [(1, .lptr 64 0), (39, int (b0.Resources.length : Int))] [(64, .blk true [int b0.Deadline, .slice (b0.Activities.map eTActivity), .slice (b0.Links.map eTLink), .slice (b0.Resources.map eTResource), .slice (b0.Stocks.map int)])] (fun bb S => (3, .own 768 (bb.2.map eTRule).length) :: (40, int bb.1) :: S) (fun bb M => (768, .obj false 38 4 (bb.2.map eTRule)) :: M) (fun n bb => 0 ≤ bb.1 ∧ bb.1 + n = (b0.Resources.length : Int) ∧ i_Project_rules_L3 (b0.Resources.drop bb.1.toNat) bb.1 bb.2 = some o29) b0.Resources.length (0, p28) ⟨Int.le_refl _, by simp, h⟩ ?_
  clear h
  rintro JJ35 n35 ⟨z36, a37⟩ hag35 ⟨hza35, hzb35, h⟩
  dsimp only at hza35 hzb35 h
  refine Run.sr ?_
  refine X.bi ?_
  refine X.nil ?_
  refine Run.seq ?_
  refine R.cd (fun hc40 => ?_) (fun hc40 => ?_)
  ·obtain ⟨x38, xs39, hd35, hx35, hds35, hlt35⟩ := drop_atI hza35 hc40
   rw [hd35] at h
   rw [i_Project_rules_L3] at h
   refine Run.skip ?_
   refine Run.seq ?_
   refine Run.block ?_
   refine Run.sr ?_
   refine X.mv ?_
   refine X.an ?_
   refine Run.sr ?_
   refine X.mn ?_
   obtain ⟨o41, ho41, h⟩ := bindE h
   refine R.join2 (β := (List TRule)) [(1, .lptr 64 0), (39, int (b0.Resources.length : Int)), (40, int z36)] [(64, .blk true [int b0.Deadline, .slice (b0.Activities.map eTActivity), .slice (b0.Links.map eTLink), .slice (b0.Resources.map eTResource), .slice (b0.Stocks.map int)])] (fun p53 S => (3, .own 768 (p53.map eTRule).length) :: S) (fun p53 M => (768, .obj false 38 4 (p53.map eTRule)) :: M) (fun p53 => p53 = o41) ?_ ?_
   ·intro JJ44 hmeet43
    have hup42 := h; clear h; have h := ho41; clear ho41
    refine Run.block ?_
    refine R.lp (β := Int × (List TRule)) [(1, .lptr 64 0), (6, int z36), (39, int (b0.Resources.length : Int)), (40, int z36)] [(64, .blk true [int b0.Deadline, .slice (b0.Activities.map eTActivity), .slice (b0.Links.map eTLink), .slice (b0.Resources.map eTResource), .slice (b0.Stocks.map int)])] (fun bb S => (3, .own 768 (bb.2.map eTRule).length) :: (43, int bb.1) :: S) (fun bb M => (768, .obj false 38 4 (bb.2.map eTRule)) :: M) (fun n bb => i_Project_rules_L4 z36 n bb.1 bb.2 = some o41) F0 (0, a37) h ?_
    clear h
    rintro JJ45 n45 ⟨a47, a48⟩ hag45 h
    dsimp only at h
    obtain _ | n45 := n45
    ·exact absurd h (by simp [i_Project_rules_L4])
    rw [i_Project_rules_L4] at h
    refine Run.sr ?_
    refine X.bi ?_
    refine X.nil ?_
    refine Run.seq ?_
    refine R.cd (fun hc51 => ?_) (fun hc51 => ?_)
    ·replace h := condT hc51 h
     refine Run.skip ?_
     refine Run.seq ?_
     refine Run.block ?_
     refine Run.sr ?_
     refine X.mv ?_
     refine X.an ?_
     refine Run.reg ?_
     refine X.mv ?_
     refine X.mv ?_
     refine X.mv ?_
     refine X.build zer38 pl38 (by rfl) (by rfl) (by repeat (first | trivial | refine ⟨by first | rfl | simp [setL], ?_⟩)) (by rfl) (by rfl) (by rfl) ?_
     refine X.buildSlice false elt49 zer38 (by rfl) (by rfl) (by rfl) (by rfl) (by rfl) (by rfl) (by repeat (first | trivial | refine ⟨by first | rfl | simp [setL], ?_⟩)) (allSz_spec (by rfl)) (by rfl) (by rfl) (by rfl) ?_
     obtain ⟨v52, hv52, h⟩ := bindE h
     refine X.append elt49 zer38 (by rfl) (by rfl) (by first | rfl | simp [setL] | omega) (by rfl) (.own _ _ _ _ _ _ (look_mem (by rfl)) (by first | rfl | simp [setL] | omega)) (allSz_spec (by rfl)) (appL_len eTRule hv52) (appL_map eTRule hv52) (by rfl) (by rfl) (by rfl) (by rfl) ?_
     refine X.an ?_
     refine Run.blk ?_
     refine Run.reg ?_
     refine X.addW (by rfl) (by rfl) (by rfl) ?_
     refine X.mn ?_
     exact hag45 n45 ((W (a47 + 1)), v52) _ _ (by omega) h (by repeat (first | trivial | refine ⟨by first | rfl | simp [setL], ?_⟩)) (by repeat (first | trivial | refine ⟨by first | rfl | simp [setL], ?_⟩)) (by rfl) (by rfl)
    ·replace h := condF hc51 h
     refine Run.exit (by rfl) ?_
     exact R.mt hmeet43 a48 (Option.some.inj h)
   rintro p53 rfl
   refine Run.blk ?_
   refine Run.reg ?_
   refine X.ad ?_
   refine X.mn ?_
   exact R.ag hag35 (n35 - 1) (z36 + 1, p53) (R.n3 (by first | (rw [hds35]; exact h) | (dsimp only; rw [hds35]; exact h)))
  ·rw [drop_endI hza35 hc40] at h
   rw [i_Project_rules_L3] at h
   refine Run.exit (by rfl) ?_
   exact R.mt hmeet31 a37 (Option.some.inj h)
 rintro p54 rfl
 refine Run.seq ?_
 refine Run.sr ?_
 refine X.fl fld36_3 ?_
 refine X.ld shp34 ?_
 refine X.ls elt34 ?_
 refine X.mn ?_
 obtain ⟨o55, ho55, h⟩ := bindE h
 refine R.join2 (β := (List TRule)) [(1, .lptr 64 0)] [(64, .blk true [int b0.Deadline, .slice (b0.Activities.map eTActivity), .slice (b0.Links.map eTLink), .slice (b0.Resources.map eTResource), .slice (b0.Stocks.map int)])] (fun p95 S => (3, .own 768 (p95.map eTRule).length) :: S) (fun p95 M => (768, .obj false 38 4 (p95.map eTRule)) :: M) (fun p95 => p95 = o55) ?_ ?_
 ·intro JJ58 hmeet57
  have hup56 := h; clear h; have h := ho55; clear ho55
  refine Run.block ?_
  refine R.bndS (t := 55) (by rfl) (fun hbd61 => ?_)
  replace hbd61 : b0.Resources.length ≤ 9223372036854775807 := by first | (rw [List.length_map] at hbd61; exact hbd61) | simp
  refine R.lp (β := Int × (List TRule)) [(1, .lptr 64 0), (56, int (b0.Resources.length : Int))] [(64, .blk true [int b0.Deadline, .slice (b0.Activities.map eTActivity), .slice (b0.Links.map eTLink), .slice (b0.Resources.map eTResource), .slice (b0.Stocks.map int)])] (fun bb S => (3, .own 768 (bb.2.map eTRule).length) :: (57, int bb.1) :: S) (fun bb M => (768, .obj false 38 4 (bb.2.map eTRule)) :: M) (fun n bb => 0 ≤ bb.1 ∧ bb.1 + n = (b0.Resources.length : Int) ∧ i_Project_rules_L5 b0 (b0.Resources.drop bb.1.toNat) bb.1 bb.2 = some o55) b0.Resources.length (0, p54) ⟨Int.le_refl _, by simp, h⟩ ?_
  clear h
  rintro JJ61 n61 ⟨z62, a63⟩ hag61 ⟨hza61, hzb61, h⟩
  dsimp only at hza61 hzb61 h
  refine Run.sr ?_
  refine X.bi ?_
  refine X.nil ?_
  refine Run.seq ?_
  refine R.cd (fun hc66 => ?_) (fun hc66 => ?_)
  ·obtain ⟨x64, xs65, hd61, hx61, hds61, hlt61⟩ := drop_atI hza61 hc66
   rw [hd61] at h
   rw [i_Project_rules_L5] at h
   refine Run.skip ?_
   refine Run.seq ?_
   refine Run.block ?_
   refine Run.sr ?_
   refine X.mv ?_
   refine X.an ?_
   refine Run.sr ?_
   refine X.fl fld36_1 ?_
   refine X.ld shp32 ?_
   refine X.ls elt32 ?_
   refine X.mn ?_
   obtain ⟨o67, ho67, h⟩ := bindE h
   refine R.join2 (β := (List TRule)) [(1, .lptr 64 0), (56, int (b0.Resources.length : Int)), (57, int z62)] [(64, .blk true [int b0.Deadline, .slice (b0.Activities.map eTActivity), .slice (b0.Links.map eTLink), .slice (b0.Resources.map eTResource), .slice (b0.Stocks.map int)])] (fun p94 S => (3, .own 768 (p94.map eTRule).length) :: S) (fun p94 M => (768, .obj false 38 4 (p94.map eTRule)) :: M) (fun p94 => p94 = o67) ?_ ?_
   ·intro JJ70 hmeet69
    have hup68 := h; clear h; have h := ho67; clear ho67
    refine Run.block ?_
    refine R.bndS (t := 61) (by rfl) (fun hbd73 => ?_)
    replace hbd73 : b0.Activities.length ≤ 9223372036854775807 := by first | (rw [List.length_map] at hbd73; exact hbd73) | simp
    refine R.lp (β := Int × (List TRule)) [(1, .lptr 64 0), (8, int z62), (56, int (b0.Resources.length : Int)), (57, int z62), (62, int (b0.Activities.length : Int))] [(64, .blk true [int b0.Deadline, .slice (b0.Activities.map eTActivity), .slice (b0.Links.map eTLink), .slice (b0.Resources.map eTResource), .slice (b0.Stocks.map int)])] (fun bb S => (3, .own 768 (bb.2.map eTRule).length) :: (63, int bb.1) :: S) (fun bb M => (768, .obj false 38 4 (bb.2.map eTRule)) :: M) (fun n bb => 0 ≤ bb.1 ∧ bb.1 + n = (b0.Activities.length : Int) ∧ i_Project_rules_L6 b0 z62 (b0.Activities.drop bb.1.toNat) bb.1 bb.2 = some o67) b0.Activities.length (0, a63) ⟨Int.le_refl _, by simp, h⟩ ?_
    clear h
    rintro JJ73 n73 ⟨z74, a75⟩ hag73 ⟨hza73, hzb73, h⟩
    dsimp only at hza73 hzb73 h
    refine Run.sr ?_
    refine X.bi ?_
    refine X.nil ?_
    refine Run.seq ?_
    refine R.cd (fun hc78 => ?_) (fun hc78 => ?_)
    ·obtain ⟨x76, xs77, hd73, hx73, hds73, hlt73⟩ := drop_atI hza73 hc78
     rw [hd73] at h
     rw [i_Project_rules_L6] at h
     refine Run.skip ?_
     refine Run.seq ?_
     refine Run.block ?_
     refine Run.sr ?_
     refine X.mv ?_
     refine X.an ?_
     refine Run.sr ?_
     refine X.mv ?_
     refine X.ad ?_
     refine X.an ?_
     obtain ⟨o79, ho79, h⟩ := bindE h
     refine R.join2 (β := (List TRule)) [(1, .lptr 64 0), (8, int z62), (56, int (b0.Resources.length : Int)), (57, int z62), (62, int (b0.Activities.length : Int)), (63, int z74)] [(64, .blk true [int b0.Deadline, .slice (b0.Activities.map eTActivity), .slice (b0.Links.map eTLink), .slice (b0.Resources.map eTResource), .slice (b0.Stocks.map int)])] (fun p93 S => (3, .own 768 (p93.map eTRule).length) :: S) (fun p93 M => (768, .obj false 38 4 (p93.map eTRule)) :: M) (fun p93 => p93 = o79) ?_ ?_
     ·intro JJ82 hmeet81
      have hup80 := h; clear h; have h := ho79; clear ho79
      refine Run.block ?_
      refine R.lp (β := Int × (List TRule)) [(1, .lptr 64 0), (8, int z62), (9, int z74), (56, int (b0.Resources.length : Int)), (57, int z62), (62, int (b0.Activities.length : Int)), (63, int z74)] [(64, .blk true [int b0.Deadline, .slice (b0.Activities.map eTActivity), .slice (b0.Links.map eTLink), .slice (b0.Resources.map eTResource), .slice (b0.Stocks.map int)])] (fun bb S => (3, .own 768 (bb.2.map eTRule).length) :: (10, int bb.1) :: S) (fun bb M => (768, .obj false 38 4 (bb.2.map eTRule)) :: M) (fun n bb => i_Project_rules_L7 b0 z62 z74 n bb.1 bb.2 = some o79) F0 ((z74 + 1), a75) h ?_
      clear h
      rintro JJ82 n82 ⟨a84, a85⟩ hag82 h
      dsimp only at h
      obtain _ | n82 := n82
      ·exact absurd h (by simp [i_Project_rules_L7])
      rw [i_Project_rules_L7] at h
      refine Run.seq ?_
      refine Run.seq ?_
      obtain ⟨e88, he88, h2⟩ := bindE h
      refine R.regG [(1, .lptr 64 0), (3, .own 768 (a85.map eTRule).length), (8, int z62), (9, int z74), (10, int a84), (56, int (b0.Resources.length : Int)), (57, int z62), (62, int (b0.Activities.length : Int)), (63, int z74), (77, bool e88)] [(64, .blk true [int b0.Deadline, .slice (b0.Activities.map eTActivity), .slice (b0.Links.map eTLink), .slice (b0.Resources.map eTResource), .slice (b0.Stocks.map int)]), (768, .obj false 38 4 (a85.map eTRule))] ?_ ?_
      ·clear h; have h := he88; clear he88 h2
       refine X.mv ?_
       refine X.fl fld36_1 ?_
       refine X.ld shp32 ?_
       refine X.ls elt32 ?_
       refine X.bi ?_
       refine X.mv ?_
       refine X.iG (fun hb89 => ?_) (fun hb89 => ?_)
       ·replace h := condT hb89 h
        refine X.ld shp36 ?_
        refine X.gy ?_
        refine X.mv ?_
        refine X.gy ?_
        obtain ⟨v90, hv90, h⟩ := bindE h
        refine X.cp (i_IsMachine_pc _ _ _ hv90) ?_
        refine X.pT ?_
        cases h
        exact X.eG
       ·replace h := condF hb89 h
        refine X.gn ?_
        refine X.gn ?_
        refine X.pF ?_
        cases h
        exact X.eG
      replace h := h2; clear h2
      refine R.cd (fun hc91 => ?_) (fun hc91 => ?_)
      ·replace h := condT hc91 h
       refine Run.skip ?_
       refine Run.seq ?_
       refine Run.block ?_
       refine Run.reg ?_
       refine X.mv ?_
       refine X.mv ?_
       refine X.mv ?_
       refine X.mv ?_
       refine X.build zer38 pl38 (by rfl) (by rfl) (by repeat (first | trivial | refine ⟨by first | rfl | simp [setL], ?_⟩)) (by rfl) (by rfl) (by rfl) ?_
       refine X.buildSlice false elt49 zer38 (by rfl) (by rfl) (by rfl) (by rfl) (by rfl) (by rfl) (by repeat (first | trivial | refine ⟨by first | rfl | simp [setL], ?_⟩)) (allSz_spec (by rfl)) (by rfl) (by rfl) (by rfl) ?_
       obtain ⟨v92, hv92, h⟩ := bindE h
       refine X.append elt49 zer38 (by rfl) (by rfl) (by first | rfl | simp [setL] | omega) (by rfl) (.own _ _ _ _ _ _ (look_mem (by rfl)) (by first | rfl | simp [setL] | omega)) (allSz_spec (by rfl)) (appL_len eTRule hv92) (appL_map eTRule hv92) (by rfl) (by rfl) (by rfl) (by rfl) ?_
       refine X.an ?_
       refine Run.blk ?_
       refine Run.reg ?_
       refine X.mv ?_
       refine X.addW (by rfl) (by rfl) (by rfl) ?_
       refine X.an ?_
       exact hag82 n82 ((W (a84 + 1)), v92) _ _ (by omega) h (by repeat (first | trivial | refine ⟨by first | rfl | simp [setL], ?_⟩)) (by repeat (first | trivial | refine ⟨by first | rfl | simp [setL], ?_⟩)) (by rfl) (by rfl)
      ·replace h := condF hc91 h
       refine Run.exit (by rfl) ?_
       exact R.mt hmeet81 a85 (Option.some.inj h)
     rintro p93 rfl
     refine Run.blk ?_
     refine Run.reg ?_
     refine X.ad ?_
     refine X.mn ?_
     exact R.ag hag73 (n73 - 1) (z74 + 1, p93) (R.n3 (by first | (rw [hds73]; exact h) | (dsimp only; rw [hds73]; exact h)))
    ·rw [drop_endI hza73 hc78] at h
     rw [i_Project_rules_L6] at h
     refine Run.exit (by rfl) ?_
     exact R.mt hmeet69 a75 (Option.some.inj h)
   rintro p94 rfl
   refine Run.blk ?_
   refine Run.reg ?_
   refine X.ad ?_
   refine X.mn ?_
   exact R.ag hag61 (n61 - 1) (z62 + 1, p94) (R.n3 (by first | (rw [hds61]; exact h) | (dsimp only; rw [hds61]; exact h)))
  ·rw [drop_endI hza61 hc66] at h
   rw [i_Project_rules_L5] at h
   refine Run.exit (by rfl) ?_
   exact R.mt hmeet57 a63 (Option.some.inj h)
 rintro p95 rfl
 refine Run.seq ?_
 refine Run.sr ?_
 refine X.fl fld36_4 ?_
 refine X.ld shp25 ?_
 refine X.ls elt25 ?_
 refine X.mn ?_
 obtain ⟨o96, ho96, h⟩ := bindE h
 refine R.join2 (β := (List TRule)) [] [] (fun p109 S => (3, .own 768 (p109.map eTRule).length) :: S) (fun p109 M => (768, .obj false 38 4 (p109.map eTRule)) :: M) (fun p109 => p109 = o96) ?_ ?_
 ·intro JJ99 hmeet98
  have hup97 := h; clear h; have h := ho96; clear ho96
  refine Run.block ?_
  refine R.bndS (t := 90) (by rfl) (fun hbd102 => ?_)
  replace hbd102 : b0.Stocks.length ≤ 9223372036854775807 := by first | (rw [List.length_map] at hbd102; exact hbd102) | simp
  refine R.lp (β := Int × (List TRule)) [(91, int (b0.Stocks.length : Int))] [] (fun bb S => (3, .own 768 (bb.2.map eTRule).length) :: (92, int bb.1) :: S) (fun bb M => (768, .obj false 38 4 (bb.2.map eTRule)) :: M) (fun n bb => 0 ≤ bb.1 ∧ bb.1 + n = (b0.Stocks.length : Int) ∧ i_Project_rules_L8 (b0.Stocks.drop bb.1.toNat) bb.1 bb.2 = some o96) b0.Stocks.length (0, p95) ⟨Int.le_refl _, by simp, h⟩ ?_
  clear h
  rintro JJ102 n102 ⟨z103, a104⟩ hag102 ⟨hza102, hzb102, h⟩
  dsimp only at hza102 hzb102 h
  refine Run.sr ?_
  refine X.bi ?_
  refine X.nil ?_
  refine Run.seq ?_
  refine R.cd (fun hc107 => ?_) (fun hc107 => ?_)
  ·obtain ⟨x105, xs106, hd102, hx102, hds102, hlt102⟩ := drop_atI hza102 hc107
   rw [hd102] at h
   rw [i_Project_rules_L8] at h
   refine Run.skip ?_
   refine Run.seq ?_
   refine Run.block ?_
   refine Run.sr ?_
   refine X.mv ?_
   refine X.an ?_
   refine Run.reg ?_
   refine X.mv ?_
   refine X.mv ?_
   refine X.build zer38 pl38 (by rfl) (by rfl) (by repeat (first | trivial | refine ⟨by first | rfl | simp [setL], ?_⟩)) (by rfl) (by rfl) (by rfl) ?_
   refine X.buildSlice false elt49 zer38 (by rfl) (by rfl) (by rfl) (by rfl) (by rfl) (by rfl) (by repeat (first | trivial | refine ⟨by first | rfl | simp [setL], ?_⟩)) (allSz_spec (by rfl)) (by rfl) (by rfl) (by rfl) ?_
   obtain ⟨v108, hv108, h⟩ := bindE h
   refine X.append elt49 zer38 (by rfl) (by rfl) (by first | rfl | simp [setL] | omega) (by rfl) (.own _ _ _ _ _ _ (look_mem (by rfl)) (by first | rfl | simp [setL] | omega)) (allSz_spec (by rfl)) (appL_len eTRule hv108) (appL_map eTRule hv108) (by rfl) (by rfl) (by rfl) (by rfl) ?_
   refine X.an ?_
   refine Run.blk ?_
   refine Run.reg ?_
   refine X.ad ?_
   refine X.mn ?_
   exact R.ag hag102 (n102 - 1) (z103 + 1, v108) (R.n3 (by first | (rw [hds102]; exact h) | (dsimp only; rw [hds102]; exact h)))
  ·rw [drop_endI hza102 hc107] at h
   rw [i_Project_rules_L8] at h
   refine Run.exit (by rfl) ?_
   exact R.mt hmeet98 a104 (Option.some.inj h)
 rintro p109 rfl
 refine Run.sr ?_
 refine X.mv ?_
 refine X.an ?_
 cases h
 refine R.fin1o Tryz.results58 (by rfl) (by rfl) (by first | rfl | simp [setL] | omega) ?_
 rfl
theorem i_SetAdd_pc (b0 : List Int) (b1 : Int) (r : List Int) (h : i_SetAdd b0 b1 = some r) : PC Tryz.prog 59 [.slice (b0.map int), int b1] (.fresh false 3 1 (r.map int)) := by
 unfold i_SetAdd at h
 refine PC.start Tryz.func59 Tryz.ntmps59 rfl ok59 rfl ?_
 refine Run.sr ?_
 refine X.an ?_
 refine Run.sr ?_
 refine X.mv ?_
 obtain ⟨v1, hv1, h⟩ := bindE h
 refine X.callF (PC.pubF (slices_Clone_int_pc _ _ hv1)) (by rfl) (by rfl) (by rfl) (by trivial) (by rfl) (by rfl) (by rfl) (by rfl) ?_
 refine X.mv ?_
 refine X.buildSlice false elt25 zer3 (by rfl) (by rfl) (by rfl) (by rfl) (by rfl) (by rfl) (by repeat (first | trivial | refine ⟨by first | rfl | simp [setL], ?_⟩)) (allSz_spec (by rfl)) (by rfl) (by rfl) (by rfl) ?_
 obtain ⟨v2, hv2, h⟩ := bindE h
 refine X.append elt25 zer3 (by rfl) (by rfl) (by first | rfl | simp [setL] | omega) (by rfl) (.own _ _ _ _ _ _ (look_mem (by rfl)) (by first | rfl | simp [setL] | omega)) (allSz_spec (by rfl)) (appL_len int hv2) (appL_map int hv2) (by rfl) (by rfl) (by rfl) (by rfl) ?_
 obtain ⟨v3, hv3, h⟩ := bindE h
 refine X.callF (PC.pubF (i_SetOf_pc _ _ hv3)) (by rfl) (by rfl) (by rfl) (by repeat (first | trivial | refine ⟨by first | rfl | simp [setL], ?_⟩)) (by rfl) (by rfl) (by rfl) (by rfl) ?_
 refine X.an ?_
 cases h
 refine R.fin1o Tryz.results59 (by rfl) (by rfl) (by first | rfl | simp [setL] | omega) ?_
 rfl
theorem i_chosen_pc (b0 : TActivity) (b1 : List Int) (r : List TMode) (h : i_chosen b0 b1 = some r) : PC Tryz.prog 141 [eTActivity b0, .slice (b1.map int)] (.fresh false 110 3 (r.map eTMode)) := by
 unfold i_chosen at h
 refine PC.start Tryz.func141 Tryz.ntmps141 rfl ok141 rfl ?_
 refine Run.sr ?_
 refine X.bx ?_
 refine X.an ?_
 refine Run.sr ?_
 refine X.buildSlice false elt106 zer110 (by rfl) (by rfl) (by rfl) (by rfl) (by rfl) (by rfl) (by repeat (first | trivial | refine ⟨by first | rfl | simp [setL], ?_⟩)) (allSz_spec (by rfl)) (by rfl) (by rfl) (by rfl) ?_
 refine X.an ?_
 refine Run.seq ?_
 refine Run.sr ?_
 refine X.fl fld108_2 ?_
 refine X.ld shp106 ?_
 refine X.ls elt106 ?_
 refine X.mn ?_
 obtain ⟨o1, ho1, h⟩ := bindE h
 refine R.join2 (β := (List TMode)) [] [] (fun p16 S => (5, .own 512 (p16.map eTMode).length) :: S) (fun p16 M => (512, .obj false 110 3 (p16.map eTMode)) :: M) (fun p16 => p16 = o1) ?_ ?_
 ·intro JJ4 hmeet3
  have hup2 := h; clear h; have h := ho1; clear ho1
  refine Run.block ?_
  refine R.bndS (t := 10) (by rfl) (fun hbd7 => ?_)
  replace hbd7 : b0.Modes.length ≤ 9223372036854775807 := by first | (rw [List.length_map] at hbd7; exact hbd7) | simp
  refine R.lp (β := Int × (List TMode)) [(1, .slice (b1.map int)), (10, .slice (b0.Modes.map eTMode)), (11, int (b0.Modes.length : Int))] [] (fun bb S => (5, .own 512 (bb.2.map eTMode).length) :: (12, int bb.1) :: S) (fun bb M => (512, .obj false 110 3 (bb.2.map eTMode)) :: M) (fun n bb => 0 ≤ bb.1 ∧ bb.1 + n = (b0.Modes.length : Int) ∧ i_chosen_L1 b1 (b0.Modes.drop bb.1.toNat) bb.1 bb.2 = some o1) b0.Modes.length (0, ([] : List TMode)) ⟨Int.le_refl _, by simp, h⟩ ?_
  clear h
  rintro JJ7 n7 ⟨z8, a9⟩ hag7 ⟨hza7, hzb7, h⟩
  dsimp only at hza7 hzb7 h
  refine Run.sr ?_
  refine X.bi ?_
  refine X.nil ?_
  refine Run.seq ?_
  refine R.cd (fun hc12 => ?_) (fun hc12 => ?_)
  ·obtain ⟨x10, xs11, hd7, hx7, hds7, hlt7⟩ := drop_atI hza7 hc12
   rw [hd7] at h
   rw [i_chosen_L1] at h
   refine Run.skip ?_
   refine Run.seq ?_
   refine Run.block ?_
   refine Run.sr ?_
   refine X.mv ?_
   refine X.ix elt106 (idxL_spec hx7).1 (idxL_map eTMode hx7) ?_
   refine X.lc shp110 ?_
   refine X.alloc zer110 (by rfl) (by rfl) (by rfl) ?_
   refine X.as ?_
   refine X.sl shp110 ?_
   refine X.nil ?_
   refine Run.sr ?_
   refine X.mv ?_
   refine X.mv ?_
   obtain ⟨v13, hv13, h⟩ := bindE h
   refine X.cp (i_SetHas_pc _ _ _ hv13) ?_
   refine X.nil ?_
   refine R.cd (fun hc14 => ?_) (fun hc14 => ?_)
   ·replace h := condT hc14 h
    refine Run.reg ?_
    refine X.mv ?_
    refine X.ld shp110 ?_
    refine X.buildSlice false elt106 zer110 (by rfl) (by rfl) (by rfl) (by rfl) (by rfl) (by rfl) (by repeat (first | trivial | refine ⟨by first | rfl | simp [setL], ?_⟩)) (allSz_spec (by rfl)) (by rfl) (by rfl) (by rfl) ?_
    obtain ⟨v15, hv15, h⟩ := bindE h
    refine X.append elt106 zer110 (by rfl) (by rfl) (by first | rfl | simp [setL] | omega) (by rfl) (.own _ _ _ _ _ _ (look_mem (by rfl)) (by first | rfl | simp [setL] | omega)) (allSz_spec (by rfl)) (appL_len eTMode hv15) (appL_map eTMode hv15) (by rfl) (by rfl) (by rfl) (by rfl) ?_
    refine X.an ?_
    refine Run.blk ?_
    refine Run.reg ?_
    refine X.ad ?_
    refine X.mn ?_
    exact R.ag hag7 (n7 - 1) (z8 + 1, v15) (R.n3 (by first | (rw [hds7]; exact h) | (dsimp only; rw [hds7]; exact h)))
   ·replace h := condF hc14 h
    refine Run.skip ?_
    refine Run.blk ?_
    refine Run.reg ?_
    refine X.ad ?_
    refine X.mn ?_
    exact R.ag hag7 (n7 - 1) (z8 + 1, a9) (R.n3 (by first | (rw [hds7]; exact h) | (dsimp only; rw [hds7]; exact h)))
  ·rw [drop_endI hza7 hc12] at h
   rw [i_chosen_L1] at h
   refine Run.exit (by rfl) ?_
   exact R.mt hmeet3 a9 (Option.some.inj h)
 rintro p16 rfl
 refine Run.sr ?_
 refine X.mv ?_
 refine X.an ?_
 cases h
 refine R.fin1o Tryz.results141 (by rfl) (by rfl) (by first | rfl | simp [setL] | omega) ?_
 rfl
theorem i_MaxDuration_pc (b0 : TActivity) (b1 : List Int) (r : Int) (h : i_MaxDuration b0 b1 = some r) : PC Tryz.prog 98 [eTActivity b0, .slice (b1.map int)] (int r) := by
 unfold i_MaxDuration at h
 refine PC.start Tryz.func98 Tryz.ntmps98 rfl ok98 rfl ?_
 refine Run.sr ?_
 refine X.bx ?_
 refine X.an ?_
 refine Run.sr ?_
 refine X.an ?_
 refine Run.seq ?_
 refine Run.sr ?_
 refine X.ld shp108 ?_
 refine X.mv ?_
 obtain ⟨v1, hv1, h⟩ := bindE h
 refine X.callF (i_chosen_pc _ _ _ hv1) (by rfl) (by rfl) (by rfl) (by trivial) (by rfl) (by rfl) (by rfl) (by rfl) ?_
 refine X.len_o elt106 (by rfl) (by rfl) (by first | rfl | simp [setL] | omega) (by first | exact List.length_map .. | rfl) (by rfl) (by rfl) ?_
 refine X.mn ?_
 obtain ⟨o2, ho2, h⟩ := bindE h
 refine R.join2 (β := Int) [] [] (fun p17 S => (5, int p17) :: S) (fun p17 M => M) (fun p17 => p17 = o2) ?_ ?_
 ·intro JJ5 hmeet4
  have hup3 := h; clear h; have h := ho2; clear ho2
  refine Run.block ?_
  refine R.bndO (n := 640) (by rfl) (fun hbd8 => ?_)
  replace hbd8 : v1.length ≤ 9223372036854775807 := by first | (rw [List.length_map] at hbd8; exact hbd8) | simp
  refine R.lp (β := Int × Int) [(11, int (v1.length : Int))] [(640, .obj false 110 3 (v1.map eTMode))] (fun bb S => (5, int bb.2) :: (10, .own 640 (v1.map eTMode).length) :: (12, int bb.1) :: S) (fun bb M => M) (fun n bb => 0 ≤ bb.1 ∧ bb.1 + n = (v1.length : Int) ∧ i_MaxDuration_L1 (v1.drop bb.1.toNat) bb.1 bb.2 = some o2) v1.length (0, 0) ⟨Int.le_refl _, by simp, h⟩ ?_
  clear h
  rintro JJ8 n8 ⟨z9, a10⟩ hag8 ⟨hza8, hzb8, h⟩
  dsimp only at hza8 hzb8 h
  refine Run.sr ?_
  refine X.bi ?_
  refine X.nil ?_
  refine Run.seq ?_
  refine R.cd (fun hc13 => ?_) (fun hc13 => ?_)
  ·obtain ⟨x11, xs12, hd8, hx8, hds8, hlt8⟩ := drop_atI hza8 hc13
   rw [hd8] at h
   rw [i_MaxDuration_L1] at h
   refine Run.skip ?_
   refine Run.seq ?_
   refine Run.block ?_
   refine Run.sr ?_
   refine X.mv ?_
   refine X.index_o elt106 (by rfl) (by rfl) (by first | rfl | simp [setL] | omega) (by rfl) (idxL_spec hx8).1 (idxL_map eTMode hx8) (by rfl) (by rfl) (by rfl) ?_
   refine X.lc shp110 ?_
   refine X.alloc zer110 (by rfl) (by rfl) (by rfl) ?_
   refine X.as ?_
   refine X.sl shp110 ?_
   refine X.nil ?_
   refine Run.seq ?_
   obtain ⟨e14, he14, h2⟩ := bindE h
   refine R.regG [(5, int a10), (7, .lptr 448 0), (10, .own 640 (v1.map eTMode).length), (11, int (v1.length : Int)), (12, int z9), (24, bool e14)] [(448, .blk true [int x11.Duration, .slice (x11.Usage.map int), .slice (x11.Consumption.map int)]), (640, .obj false 110 3 (v1.map eTMode))] ?_ ?_
   ·clear h; have h := he14; clear he14 h2
    refine X.mv ?_
    refine X.bi ?_
    refine X.mv ?_
    refine X.iG (fun hb15 => ?_) (fun hb15 => ?_)
    ·replace h := condF hb15 h
     refine X.fl fld110_0 ?_
     refine X.gy ?_
     refine X.ld shp3 ?_
     refine X.gy ?_
     refine X.mv ?_
     refine X.gy ?_
     refine X.bi ?_
     refine X.pF ?_
     cases h
     exact X.eG
    ·replace h := condT hb15 h
     refine X.gn ?_
     refine X.gn ?_
     refine X.gn ?_
     refine X.pT ?_
     cases h
     exact X.eG
   replace h := h2; clear h2
   refine R.cd (fun hc16 => ?_) (fun hc16 => ?_)
   ·replace h := condT hc16 h
    refine Run.reg ?_
    refine X.fl fld110_0 ?_
    refine X.ld shp3 ?_
    refine X.an ?_
    refine Run.blk ?_
    refine Run.reg ?_
    refine X.ad ?_
    refine X.mn ?_
    exact R.ag hag8 (n8 - 1) (z9 + 1, x11.Duration) (R.n3 (by first | (rw [hds8]; exact h) | (dsimp only; rw [hds8]; exact h)))
   ·replace h := condF hc16 h
    refine Run.skip ?_
    refine Run.blk ?_
    refine Run.reg ?_
    refine X.ad ?_
    refine X.mn ?_
    exact R.ag hag8 (n8 - 1) (z9 + 1, a10) (R.n3 (by first | (rw [hds8]; exact h) | (dsimp only; rw [hds8]; exact h)))
  ·rw [drop_endI hza8 hc13] at h
   rw [i_MaxDuration_L1] at h
   refine Run.exit (by rfl) ?_
   exact R.mt hmeet4 a10 (Option.some.inj h)
 rintro p17 rfl
 refine Run.sr ?_
 refine X.mv ?_
 refine X.an ?_
 cases h
 refine R.f1 Tryz.results98 ?_
 rfl
theorem i_Intervals_pc (b0 : TProject) (b1 : TDomain) (r : List (List Int)) (h : i_Intervals b0 b1 = some r) : PC Tryz.prog 61 [eTProject b0, eTDomain b1] (.fresh false 25 1 (r.map l_int)) := by
 unfold i_Intervals at h
 refine PC.start Tryz.func61 Tryz.ntmps61 rfl ok61 rfl ?_
 refine Run.sr ?_
 refine X.bx ?_
 refine X.bx ?_
 refine X.an ?_
 refine Run.seq ?_
 refine Run.sr ?_
 refine X.ld shp36 ?_
 refine X.ld shp51 ?_
 obtain ⟨v1, hv1, h⟩ := bindE h
 refine X.cp (i_isUsable_pc _ _ _ hv1) ?_
 refine X.un (by rfl) (by rfl) (by rfl) ?_
 refine X.nil ?_
 refine R.cd (fun hc2 => ?_) (fun hc2 => ?_)
 ·replace h := condT hc2 h
  refine Run.sr ?_
  refine X.an ?_
  cases h
  refine R.fin1n (x := false) (e := 25) (sz := 1) Tryz.results61 (by rfl) (by decide) ?_
  rfl
 ·replace h := condF hc2 h
  refine Run.skip ?_
  refine Run.sr ?_
  refine X.buildSlice false elt25 zer3 (by rfl) (by rfl) (by rfl) (by rfl) (by rfl) (by rfl) (by repeat (first | trivial | refine ⟨by first | rfl | simp [setL], ?_⟩)) (allSz_spec (by rfl)) (by rfl) (by rfl) (by rfl) ?_
  refine X.buildSlice false elt45 zer25 (by rfl) (by rfl) (by rfl) (by rfl) (by rfl) (by rfl) (by repeat (first | trivial | refine ⟨by first | rfl | simp [setL], ?_⟩)) (allSz_spec (by rfl)) (by rfl) (by rfl) (by rfl) ?_
  refine X.as ?_
  refine X.an ?_
  refine Run.seq ?_
  refine Run.sr ?_
  refine X.fl fld36_1 ?_
  refine X.ld shp32 ?_
  refine X.ls elt32 ?_
  refine X.mn ?_
  obtain ⟨o3, ho3, h⟩ := bindE h
  refine R.join2 (β := (List Int)) [(3, .lptr 192 0)] [(192, .blk true [.slice (b1.MinStart.map int), .slice (b1.MaxStart.map int), .slice (b1.Modes.map l_int)]), (1152, .obj false 25 1 (([] : List (List Int)).map l_int))] (fun p19 S => (5, .own 1088 (p19.map int).length) :: (6, .own 1152 (([] : List (List Int)).map l_int).length) :: S) (fun p19 M => (1088, .obj false 3 1 (p19.map int)) :: M) (fun p19 => p19 = o3) ?_ ?_
  ·intro JJ6 hmeet5
   have hup4 := h; clear h; have h := ho3; clear ho3
   refine Run.block ?_
   refine R.bndS (t := 20) (by rfl) (fun hbd9 => ?_)
   replace hbd9 : b0.Activities.length ≤ 9223372036854775807 := by first | (rw [List.length_map] at hbd9; exact hbd9) | simp
   refine R.lp (β := Int × (List Int)) [(3, .lptr 192 0), (20, .slice (b0.Activities.map eTActivity)), (21, int (b0.Activities.length : Int))] [(192, .blk true [.slice (b1.MinStart.map int), .slice (b1.MaxStart.map int), .slice (b1.Modes.map l_int)]), (1152, .obj false 25 1 (([] : List (List Int)).map l_int))] (fun bb S => (5, .own 1088 (bb.2.map int).length) :: (6, .own 1152 (([] : List (List Int)).map l_int).length) :: (22, int bb.1) :: S) (fun bb M => (1088, .obj false 3 1 (bb.2.map int)) :: M) (fun n bb => 0 ≤ bb.1 ∧ bb.1 + n = (b0.Activities.length : Int) ∧ i_Intervals_L1 b1 (b0.Activities.drop bb.1.toNat) bb.1 bb.2 = some o3) b0.Activities.length (0, ([] : List Int)) ⟨Int.le_refl _, by simp, h⟩ ?_
   clear h
   rintro JJ9 n9 ⟨z10, a11⟩ hag9 ⟨hza9, hzb9, h⟩
   dsimp only at hza9 hzb9 h
   refine Run.sr ?_
   refine X.bi ?_
   refine X.nil ?_
   refine Run.seq ?_
   refine R.cd (fun hc14 => ?_) (fun hc14 => ?_)
   ·obtain ⟨x12, xs13, hd9, hx9, hds9, hlt9⟩ := drop_atI hza9 hc14
    rw [hd9] at h
    rw [i_Intervals_L1] at h
    refine Run.skip ?_
    refine Run.seq ?_
    refine Run.block ?_
    refine Run.sr ?_
    refine X.mv ?_
    refine X.ix elt32 (idxL_spec hx9).1 (idxL_map eTActivity hx9) ?_
    refine X.lc shp108 ?_
    refine X.alloc zer108 (by rfl) (by rfl) (by rfl) ?_
    refine X.as ?_
    refine X.sl shp108 ?_
    refine X.nil ?_
    refine Run.draw (footOf [(2, ([192], [], [], [])), (6, ([512], [], [], [])), (8, ([192], [], [], [])), (14, ([2624], [2624], [], [])), (15, ([1088, 2624], [1088], [], []))]) mixed (by kernel_rfl) (by kernel_rfl) ?_
    refine X.mv ?_
    refine X.fl fld51_1 ?_
    refine X.ld shp25 ?_
    refine X.mv ?_
    obtain ⟨v15, hv15, h⟩ := bindE h
    refine X.ix elt25 (idxL_spec hv15).1 (idxL_map int hv15) ?_
    refine X.lc shp3 ?_
    refine X.ld shp108 ?_
    refine X.fl fld51_2 ?_
    refine X.ld shp45 ?_
    refine X.mv ?_
    obtain ⟨v16, hv16, h⟩ := bindE h
    refine X.ix elt45 (idxL_spec hv16).1 (idxL_map l_int hv16) ?_
    refine X.lc shp25 ?_
    obtain ⟨v17, hv17, h⟩ := bindE h
    refine X.cp (i_MaxDuration_pc _ _ _ hv17) ?_
    refine X.addW (by rfl) (by rfl) (by rfl) ?_
    refine X.buildSlice false elt25 zer3 (by rfl) (by rfl) (by rfl) (by rfl) (by rfl) (by rfl) (by repeat (first | trivial | refine ⟨by first | rfl | simp [setL], ?_⟩)) (allSz_spec (by rfl)) (by rfl) (by rfl) (by rfl) ?_
    obtain ⟨v18, hv18, h⟩ := bindE h
    refine X.append elt25 zer3 (by rfl) (by rfl) (by first | rfl | simp [setL] | omega) (by rfl) (.own _ _ _ _ _ _ (look_mem (by rfl)) (by first | rfl | simp [setL] | omega)) (allSz_spec (by rfl)) (appL_len int hv18) (appL_map int hv18) (by rfl) (by rfl) (by rfl) (by rfl) ?_
    refine X.an ?_
    refine Run.blk ?_
    refine Run.reg ?_
    refine X.ad ?_
    refine X.mn ?_
    exact R.ag hag9 (n9 - 1) (z10 + 1, v18) (R.n3 (by first | (rw [hds9]; exact h) | (dsimp only; rw [hds9]; exact h)))
   ·rw [drop_endI hza9 hc14] at h
    rw [i_Intervals_L1] at h
    refine Run.exit (by rfl) ?_
    exact R.mt hmeet5 a11 (Option.some.inj h)
  rintro p19 rfl
  refine Run.seq ?_
  refine Run.sr ?_
  refine X.fl fld51_0 ?_
  refine X.ld shp25 ?_
  obtain ⟨v20, hv20, h⟩ := bindE h
  refine X.callF (PC.pubF (i_SetOf_pc _ _ hv20)) (by rfl) (by rfl) (by rfl) (by trivial) (by rfl) (by rfl) (by rfl) (by rfl) ?_
  refine X.len_o elt25 (by rfl) (by rfl) (by first | rfl | simp [setL] | omega) (by first | exact List.length_map .. | rfl) (by rfl) (by rfl) ?_
  refine X.mn ?_
  obtain ⟨o21, ho21, h⟩ := bindE h
  refine R.join2 (β := (List (List Int))) [] [] (fun p54 S => (6, .own 1152 (p54.map l_int).length) :: S) (fun p54 M => (1152, .obj false 25 1 (p54.map l_int)) :: M) (fun p54 => p54 = o21) ?_ ?_
  ·intro JJ24 hmeet23
   have hup22 := h; clear h; have h := ho21; clear ho21
   refine Run.block ?_
   refine R.bndO (n := 2944) (by rfl) (fun hbd27 => ?_)
   replace hbd27 : v20.length ≤ 9223372036854775807 := by first | (rw [List.length_map] at hbd27; exact hbd27) | simp
   refine R.lp (β := Int × (List (List Int))) [(47, int (v20.length : Int))] [(1088, .obj false 3 1 (p19.map int)), (2944, .obj false 3 1 (v20.map int))] (fun bb S => (5, .own 1088 (p19.map int).length) :: (6, .own 1152 (bb.2.map l_int).length) :: (46, .own 2944 (v20.map int).length) :: (48, int bb.1) :: S) (fun bb M => (1152, .obj false 25 1 (bb.2.map l_int)) :: M) (fun n bb => 0 ≤ bb.1 ∧ bb.1 + n = (v20.length : Int) ∧ i_Intervals_L2 p19 (v20.drop bb.1.toNat) bb.1 bb.2 = some o21) v20.length (0, ([] : List (List Int))) ⟨Int.le_refl _, by simp, h⟩ ?_
   clear h
   rintro JJ27 n27 ⟨z28, a29⟩ hag27 ⟨hza27, hzb27, h⟩
   dsimp only at hza27 hzb27 h
   refine Run.sr ?_
   refine X.bi ?_
   refine X.nil ?_
   refine Run.seq ?_
   refine R.cd (fun hc32 => ?_) (fun hc32 => ?_)
   ·obtain ⟨x30, xs31, hd27, hx27, hds27, hlt27⟩ := drop_atI hza27 hc32
    rw [hd27] at h
    rw [i_Intervals_L2] at h
    refine Run.skip ?_
    refine Run.seq ?_
    refine Run.block ?_
    refine Run.sr ?_
    refine X.index_o elt25 (by rfl) (by rfl) (by first | rfl | simp [setL] | omega) (by rfl) (idxL_spec hx27).1 (idxL_map int hx27) (by rfl) (by rfl) (by rfl) ?_
    refine X.lc shp3 ?_
    refine X.an ?_
    refine Run.sr ?_
    refine X.mv ?_
    obtain ⟨v33, hv33, h⟩ := bindE h
    refine X.callF (PC.pubF (i_SetOf_pc _ _ hv33)) (by rfl) (by rfl) (by rfl) (by repeat (first | trivial | refine ⟨by first | rfl | simp [setL], ?_⟩)) (by rfl) (by rfl) (by rfl) (by rfl) ?_
    refine X.len_o elt25 (by rfl) (by rfl) (by first | rfl | simp [setL] | omega) (by first | exact List.length_map .. | rfl) (by rfl) (by rfl) ?_
    refine X.mn ?_
    obtain ⟨o34, ho34, h⟩ := bindE h
    refine R.join2 (β := (List (List Int))) [(47, int (v20.length : Int)), (48, int z28)] [(1088, .obj false 3 1 (p19.map int)), (2944, .obj false 3 1 (v20.map int))] (fun p53 S => (5, .own 1088 (p19.map int).length) :: (6, .own 1152 (p53.map l_int).length) :: (46, .own 2944 (v20.map int).length) :: S) (fun p53 M => (1152, .obj false 25 1 (p53.map l_int)) :: M) (fun p53 => p53 = o34) ?_ ?_
    ·intro JJ37 hmeet36
     have hup35 := h; clear h; have h := ho34; clear ho34
     refine Run.block ?_
     refine R.bndO (n := 3392) (by rfl) (fun hbd40 => ?_)
     replace hbd40 : v33.length ≤ 9223372036854775807 := by first | (rw [List.length_map] at hbd40; exact hbd40) | simp
     refine R.lp (β := Int × (List (List Int))) [(10, int x30), (47, int (v20.length : Int)), (48, int z28), (54, int (v33.length : Int))] [(1088, .obj false 3 1 (p19.map int)), (2944, .obj false 3 1 (v20.map int)), (3392, .obj false 3 1 (v33.map int))] (fun bb S => (5, .own 1088 (p19.map int).length) :: (6, .own 1152 (bb.2.map l_int).length) :: (46, .own 2944 (v20.map int).length) :: (53, .own 3392 (v33.map int).length) :: (55, int bb.1) :: S) (fun bb M => (1152, .obj false 25 1 (bb.2.map l_int)) :: M) (fun n bb => 0 ≤ bb.1 ∧ bb.1 + n = (v33.length : Int) ∧ i_Intervals_L3 x30 (v33.drop bb.1.toNat) bb.1 bb.2 = some o34) v33.length (0, a29) ⟨Int.le_refl _, by simp, h⟩ ?_
     clear h
     rintro JJ40 n40 ⟨z41, a42⟩ hag40 ⟨hza40, hzb40, h⟩
     dsimp only at hza40 hzb40 h
     refine Run.sr ?_
     refine X.bi ?_
     refine X.nil ?_
     refine Run.seq ?_
     refine R.cd (fun hc45 => ?_) (fun hc45 => ?_)
     ·obtain ⟨x43, xs44, hd40, hx40, hds40, hlt40⟩ := drop_atI hza40 hc45
      rw [hd40] at h
      rw [i_Intervals_L3] at h
      refine Run.skip ?_
      refine Run.seq ?_
      refine Run.block ?_
      refine Run.sr ?_
      refine X.index_o elt25 (by rfl) (by rfl) (by first | rfl | simp [setL] | omega) (by rfl) (idxL_spec hx40).1 (idxL_map int hx40) (by rfl) (by rfl) (by rfl) ?_
      refine X.lc shp3 ?_
      refine X.an ?_
      refine Run.seq ?_
      obtain ⟨v46, hv46, h⟩ := bindE h
      obtain ⟨e47, he47, h2⟩ := bindE h
      refine R.regG [(5, .own 1088 (p19.map int).length), (6, .own 1152 (a42.map l_int).length), (10, int x30), (12, int x43), (46, .own 2944 (v20.map int).length), (47, int (v20.length : Int)), (48, int z28), (53, .own 3392 (v33.map int).length), (54, int (v33.length : Int)), (55, int z41), (69, bool e47)] [(1088, .obj false 3 1 (p19.map int)), (1152, .obj false 25 1 (a42.map l_int)), (2944, .obj false 3 1 (v20.map int)), (3392, .obj false 3 1 (v33.map int))] ?_ ?_
      ·clear h; have h := he47; clear he47 h2
       refine X.mv ?_
       refine X.cp (i_isTime_pc _ _ hv46) ?_
       refine X.mv ?_
       refine X.iG (fun hb48 => ?_) (fun hb48 => ?_)
       ·replace h := condT hb48 h
        refine X.mv ?_
        refine X.gy ?_
        obtain ⟨v49, hv49, h⟩ := bindE h
        refine X.cp (i_isTime_pc _ _ hv49) ?_
        refine X.pT ?_
        refine X.mv ?_
        refine X.iG (fun hb50 => ?_) (fun hb50 => ?_)
        ·replace h := condT hb50 h
         refine X.mv ?_
         refine X.gy ?_
         refine X.mv ?_
         refine X.gy ?_
         refine X.bi ?_
         refine X.pT ?_
         cases h
         exact X.eG
        ·replace h := condF hb50 h
         refine X.gn ?_
         refine X.gn ?_
         refine X.pF ?_
         cases h
         exact X.eG
       ·replace h := condF hb48 h
        refine X.gn ?_
        refine X.pF ?_
        refine X.mv ?_
        refine X.gn ?_
        refine X.gn ?_
        refine X.gn ?_
        refine X.pF ?_
        cases h
        exact X.eG
      replace h := h2; clear h2
      refine R.cd (fun hc51 => ?_) (fun hc51 => ?_)
      ·replace h := condT hc51 h
       refine Run.reg ?_
       refine X.mv ?_
       refine X.mv ?_
       refine X.mv ?_
       refine X.buildSlice false elt25 zer3 (by rfl) (by rfl) (by rfl) (by rfl) (by rfl) (by rfl) (by repeat (first | trivial | refine ⟨by first | rfl | simp [setL], ?_⟩)) (allSz_spec (by rfl)) (by rfl) (by rfl) (by rfl) ?_
       refine X.buildSlice false elt45 zer25 (by rfl) (by rfl) (by rfl) (by rfl) (by rfl) (by rfl) (by repeat (first | trivial | refine ⟨by first | rfl | simp [setL], ?_⟩)) (allSz_spec (by rfl)) (by rfl) (by rfl) (by rfl) ?_
       obtain ⟨v52, hv52, h⟩ := bindE h
       refine X.append elt45 zer25 (by rfl) (by rfl) (by first | rfl | simp [setL] | omega) (by rfl) (.own _ _ _ _ _ _ (look_mem (by rfl)) (by first | rfl | simp [setL] | omega)) (allSz_spec (by rfl)) (appL_len l_int hv52) (appL_map l_int hv52) (by rfl) (by rfl) (by rfl) (by rfl) ?_
       refine X.an ?_
       refine Run.blk ?_
       refine Run.reg ?_
       refine X.ad ?_
       refine X.mn ?_
       exact R.ag hag40 (n40 - 1) (z41 + 1, v52) (R.n3 (by first | (rw [hds40]; exact h) | (dsimp only; rw [hds40]; exact h)))
      ·replace h := condF hc51 h
       refine Run.skip ?_
       refine Run.blk ?_
       refine Run.reg ?_
       refine X.ad ?_
       refine X.mn ?_
       exact R.ag hag40 (n40 - 1) (z41 + 1, a42) (R.n3 (by first | (rw [hds40]; exact h) | (dsimp only; rw [hds40]; exact h)))
     ·rw [drop_endI hza40 hc45] at h
      rw [i_Intervals_L3] at h
      refine Run.exit (by rfl) ?_
      exact R.mt hmeet36 a42 (Option.some.inj h)
    rintro p53 rfl
    refine Run.blk ?_
    refine Run.reg ?_
    refine X.ad ?_
    refine X.mn ?_
    exact R.ag hag27 (n27 - 1) (z28 + 1, p53) (R.n3 (by first | (rw [hds27]; exact h) | (dsimp only; rw [hds27]; exact h)))
   ·rw [drop_endI hza27 hc32] at h
    rw [i_Intervals_L2] at h
    refine Run.exit (by rfl) ?_
    exact R.mt hmeet23 a29 (Option.some.inj h)
  rintro p54 rfl
  refine Run.sr ?_
  refine X.mv ?_
  refine X.an ?_
  cases h
  refine R.fin1o Tryz.results61 (by rfl) (by rfl) (by first | rfl | simp [setL] | omega) ?_
  rfl
theorem i_CandidateRules_pc (b0 : TProject) (b1 : TDomain) (r : List TRule) (h : i_CandidateRules b0 b1 = some r) : PC Tryz.prog 20 [eTProject b0, eTDomain b1] (.fresh true 38 4 (r.map eTRule)) := by
 unfold i_CandidateRules at h
 refine PC.start Tryz.func20 Tryz.ntmps20 rfl ok20 rfl ?_
 refine Run.sr ?_
 refine X.bx ?_
 refine X.bx ?_
 refine X.an ?_
 refine Run.seq ?_
 refine Run.sr ?_
 refine X.ld shp36 ?_
 refine X.ld shp51 ?_
 obtain ⟨v1, hv1, h⟩ := bindE h
 refine X.cp (i_isUsable_pc _ _ _ hv1) ?_
 refine X.un (by rfl) (by rfl) (by rfl) ?_
 refine X.nil ?_
 refine R.cd (fun hc2 => ?_) (fun hc2 => ?_)
 ·replace h := condT hc2 h
  refine Run.sr ?_
  refine X.an ?_
  cases h
  refine R.fin1n (x := true) (e := 38) (sz := 4) Tryz.results20 (by rfl) (by decide) ?_
  rfl
 ·replace h := condF hc2 h
  refine Run.skip ?_
  refine Run.sr ?_
  refine X.buildSlice true elt49 zer38 (by rfl) (by rfl) (by rfl) (by rfl) (by rfl) (by rfl) (by repeat (first | trivial | refine ⟨by first | rfl | simp [setL], ?_⟩)) (allSz_spec (by rfl)) (by rfl) (by rfl) (by rfl) ?_
  refine X.buildSlice true elt49 zer38 (by rfl) (by rfl) (by rfl) (by rfl) (by rfl) (by rfl) (by repeat (first | trivial | refine ⟨by first | rfl | simp [setL], ?_⟩)) (allSz_spec (by rfl)) (by rfl) (by rfl) (by rfl) ?_
  refine X.as ?_
  refine X.an ?_
  refine Run.seq ?_
  refine Run.sr ?_
  refine X.ld shp36 ?_
  obtain ⟨v3, hv3, h⟩ := bindE h
  refine X.callF (i_Project_rules_pc _ _ hv3) (by rfl) (by rfl) (by rfl) (by trivial) (by rfl) (by rfl) (by rfl) (by rfl) ?_
  refine X.len_o elt49 (by rfl) (by rfl) (by first | rfl | simp [setL] | omega) (by first | exact List.length_map .. | rfl) (by rfl) (by rfl) ?_
  refine X.mn ?_
  obtain ⟨o4, ho4, h⟩ := bindE h
  refine R.join2 (β := (List TRule) × (List TRule)) [(2, .lptr 128 0), (3, .lptr 192 0)] [(128, .blk true [int b0.Deadline, .slice (b0.Activities.map eTActivity), .slice (b0.Links.map eTLink), .slice (b0.Resources.map eTResource), .slice (b0.Stocks.map int)]), (192, .blk true [.slice (b1.MinStart.map int), .slice (b1.MaxStart.map int), .slice (b1.Modes.map l_int)])] (fun p28 S => (5, .own 1408 (p28.1.map eTRule).length) :: (6, .own 1472 (p28.2.map eTRule).length) :: S) (fun p28 M => (1408, .obj true 38 4 (p28.1.map eTRule)) :: (1472, .obj true 38 4 (p28.2.map eTRule)) :: M) (fun p28 => p28 = o4) ?_ ?_
  ·intro JJ7 hmeet6
   have hup5 := h; clear h; have h := ho4; clear ho4
   refine Run.block ?_
   refine R.bndO (n := 1600) (by rfl) (fun hbd10 => ?_)
   replace hbd10 : v3.length ≤ 9223372036854775807 := by first | (rw [List.length_map] at hbd10; exact hbd10) | simp
   refine R.lp (β := Int × (List TRule) × (List TRule)) [(2, .lptr 128 0), (3, .lptr 192 0), (26, int (v3.length : Int))] [(128, .blk true [int b0.Deadline, .slice (b0.Activities.map eTActivity), .slice (b0.Links.map eTLink), .slice (b0.Resources.map eTResource), .slice (b0.Stocks.map int)]), (192, .blk true [.slice (b1.MinStart.map int), .slice (b1.MaxStart.map int), .slice (b1.Modes.map l_int)]), (1600, .obj false 38 4 (v3.map eTRule))] (fun bb S => (5, .own 1408 (bb.2.1.map eTRule).length) :: (6, .own 1472 (bb.2.2.map eTRule).length) :: (25, .own 1600 (v3.map eTRule).length) :: (27, int bb.1) :: S) (fun bb M => (1408, .obj true 38 4 (bb.2.1.map eTRule)) :: (1472, .obj true 38 4 (bb.2.2.map eTRule)) :: M) (fun n bb => 0 ≤ bb.1 ∧ bb.1 + n = (v3.length : Int) ∧ i_CandidateRules_L1 (v3.drop bb.1.toNat) bb.1 bb.2.1 bb.2.2 = some o4) v3.length (0, ([] : List TRule), ([] : List TRule)) ⟨Int.le_refl _, by simp, h⟩ ?_
   clear h
   rintro JJ10 n10 ⟨z11, a12, a13⟩ hag10 ⟨hza10, hzb10, h⟩
   dsimp only at hza10 hzb10 h
   refine Run.sr ?_
   refine X.bi ?_
   refine X.nil ?_
   refine Run.seq ?_
   refine R.cd (fun hc16 => ?_) (fun hc16 => ?_)
   ·obtain ⟨x14, xs15, hd10, hx10, hds10, hlt10⟩ := drop_atI hza10 hc16
    rw [hd10] at h
    rw [i_CandidateRules_L1] at h
    refine Run.skip ?_
    refine Run.seq ?_
    refine Run.block ?_
    refine Run.sr ?_
    refine X.index_o elt49 (by rfl) (by rfl) (by first | rfl | simp [setL] | omega) (by rfl) (idxL_spec hx10).1 (idxL_map eTRule hx10) (by rfl) (by rfl) (by rfl) ?_
    refine X.lc shp38 ?_
    refine X.alloc zer38 (by rfl) (by rfl) (by rfl) ?_
    refine X.sl shp38 ?_
    refine X.nil ?_
    refine Run.sr ?_
    refine X.fl fld38_0 ?_
    refine X.ld shp3 ?_
    refine X.nil ?_
    refine Run.block ?_
    refine Run.seq ?_
    refine Run.sr ?_
    refine X.bi ?_
    refine X.an ?_
    obtain ⟨o17, ho17, h⟩ := bindE h
    refine R.join2 (β := Bool) [(2, .lptr 128 0), (3, .lptr 192 0), (8, .lptr 512 0), (26, int (v3.length : Int)), (27, int z11), (32, int x14.Kind)] [(128, .blk true [int b0.Deadline, .slice (b0.Activities.map eTActivity), .slice (b0.Links.map eTLink), .slice (b0.Resources.map eTResource), .slice (b0.Stocks.map int)]), (192, .blk true [.slice (b1.MinStart.map int), .slice (b1.MaxStart.map int), .slice (b1.Modes.map l_int)]), (1408, .obj true 38 4 (a12.map eTRule)), (1472, .obj true 38 4 (a13.map eTRule)), (512, .blk true [int x14.Kind, int x14.A, int x14.B, int x14.C]), (1600, .obj false 38 4 (v3.map eTRule))] (fun p23 S => (5, .own 1408 (a12.map eTRule).length) :: (6, .own 1472 (a13.map eTRule).length) :: (25, .own 1600 (v3.map eTRule).length) :: (33, bool p23) :: S) (fun p23 M => M) (fun p23 => p23 = o17) ?_ ?_
    ·intro JJ20 hmeet19
     have hup18 := h; clear h; have h := ho17; clear ho17
     refine R.cd (fun hc21 => ?_) (fun hc21 => ?_)
     ·replace h := condT hc21 h
      refine Run.skip ?_
      exact R.mt hmeet19 (x14.Kind == 1) (Option.some.inj h)
     ·replace h := condF hc21 h
      refine Run.sr ?_
      refine X.bi ?_
      refine X.an ?_
      refine R.cd (fun hc22 => ?_) (fun hc22 => ?_)
      ·replace h := condT hc22 h
       refine Run.skip ?_
       exact R.mt hmeet19 (x14.Kind == 2) (Option.some.inj h)
      ·replace h := condF hc22 h
       refine Run.reg ?_
       refine X.bi ?_
       refine X.an ?_
       exact R.mt hmeet19 (x14.Kind == 6) (Option.some.inj h)
    rintro p23 rfl
    refine R.cd (fun hc24 => ?_) (fun hc24 => ?_)
    ·replace h := condT hc24 h
     refine Run.reg ?_
     refine X.mv ?_
     refine X.ld shp38 ?_
     refine X.buildSlice true elt49 zer38 (by rfl) (by rfl) (by rfl) (by rfl) (by rfl) (by rfl) (by repeat (first | trivial | refine ⟨by first | rfl | simp [setL], ?_⟩)) (allSz_spec (by rfl)) (by rfl) (by rfl) (by rfl) ?_
     obtain ⟨v25, hv25, h⟩ := bindE h
     refine X.append elt49 zer38 (by rfl) (by rfl) (by first | rfl | simp [setL] | omega) (by rfl) (.own _ _ _ _ _ _ (look_mem (by rfl)) (by first | rfl | simp [setL] | omega)) (allSz_spec (by rfl)) (appL_len eTRule hv25) (appL_map eTRule hv25) (by rfl) (by rfl) (by rfl) (by rfl) ?_
     refine X.an ?_
     refine Run.blk ?_
     refine Run.blk ?_
     refine Run.reg ?_
     refine X.ad ?_
     refine X.mn ?_
     exact R.ag hag10 (n10 - 1) (z11 + 1, v25, a13) (R.n3 (by first | (rw [hds10]; exact h) | (dsimp only; rw [hds10]; exact h)))
    ·replace h := condF hc24 h
     refine Run.sr ?_
     refine X.bi ?_
     refine X.an ?_
     refine R.cd (fun hc26 => ?_) (fun hc26 => ?_)
     ·replace h := condT hc26 h
      refine Run.reg ?_
      refine X.mv ?_
      refine X.ld shp38 ?_
      refine X.buildSlice true elt49 zer38 (by rfl) (by rfl) (by rfl) (by rfl) (by rfl) (by rfl) (by repeat (first | trivial | refine ⟨by first | rfl | simp [setL], ?_⟩)) (allSz_spec (by rfl)) (by rfl) (by rfl) (by rfl) ?_
      obtain ⟨v27, hv27, h⟩ := bindE h
      refine X.append elt49 zer38 (by rfl) (by rfl) (by first | rfl | simp [setL] | omega) (by rfl) (.own _ _ _ _ _ _ (look_mem (by rfl)) (by first | rfl | simp [setL] | omega)) (allSz_spec (by rfl)) (appL_len eTRule hv27) (appL_map eTRule hv27) (by rfl) (by rfl) (by rfl) (by rfl) ?_
      refine X.an ?_
      refine Run.blk ?_
      refine Run.blk ?_
      refine Run.reg ?_
      refine X.ad ?_
      refine X.mn ?_
      exact R.ag hag10 (n10 - 1) (z11 + 1, a12, v27) (R.n3 (by first | (rw [hds10]; exact h) | (dsimp only; rw [hds10]; exact h)))
     ·replace h := condF hc26 h
      refine Run.skip ?_
      refine Run.blk ?_
      refine Run.blk ?_
      refine Run.reg ?_
      refine X.ad ?_
      refine X.mn ?_
      exact R.ag hag10 (n10 - 1) (z11 + 1, a12, a13) (R.n3 (by first | (rw [hds10]; exact h) | (dsimp only; rw [hds10]; exact h)))
   ·rw [drop_endI hza10 hc16] at h
    rw [i_CandidateRules_L1] at h
    refine Run.exit (by rfl) ?_
    exact R.mt hmeet6 (a12, a13) (Option.some.inj h)
  rintro p28 rfl
  refine Run.seq ?_
  refine Run.sr ?_
  refine X.fl fld36_3 ?_
  refine X.ld shp34 ?_
  refine X.ls elt34 ?_
  refine X.mn ?_
  obtain ⟨o29, ho29, h⟩ := bindE h
  refine R.join2 (β := (List TRule)) [] [(1472, .obj true 38 4 (p28.2.map eTRule))] (fun p89 S => (5, .own 1408 (p89.map eTRule).length) :: (6, .own 1472 (p28.2.map eTRule).length) :: S) (fun p89 M => (1408, .obj true 38 4 (p89.map eTRule)) :: M) (fun p89 => p89 = o29) ?_ ?_
  ·intro JJ32 hmeet31
   have hup30 := h; clear h; have h := ho29; clear ho29
   refine Run.block ?_
   refine R.bndS (t := 49) (by rfl) (fun hbd35 => ?_)
   replace hbd35 : b0.Resources.length ≤ 9223372036854775807 := by first | (rw [List.length_map] at hbd35; exact hbd35) | simp
   refine R.lp (β := Int × (List TRule)) [(2, .lptr 128 0), (3, .lptr 192 0), (49, .slice (b0.Resources.map eTResource)), (50, int (b0.Resources.length : Int))] [(128, .blk true [int b0.Deadline, .slice (b0.Activities.map eTActivity), .slice (b0.Links.map eTLink), .slice (b0.Resources.map eTResource), .slice (b0.Stocks.map int)]), (192, .blk true [.slice (b1.MinStart.map int), .slice (b1.MaxStart.map int), .slice (b1.Modes.map l_int)]), (1472, .obj true 38 4 (p28.2.map eTRule))] (fun bb S => (5, .own 1408 (bb.2.map eTRule).length) :: (6, .own 1472 (p28.2.map eTRule).length) :: (51, int bb.1) :: S) (fun bb M => (1408, .obj true 38 4 (bb.2.map eTRule)) :: M) (fun n bb => 0 ≤ bb.1 ∧ bb.1 + n = (b0.Resources.length : Int) ∧ i_CandidateRules_L2 b0 b1 (b0.Resources.drop bb.1.toNat) bb.1 bb.2 = some o29) b0.Resources.length (0, p28.1) ⟨Int.le_refl _, by simp, h⟩ ?_
   clear h
   rintro JJ35 n35 ⟨z36, a37⟩ hag35 ⟨hza35, hzb35, h⟩
   dsimp only at hza35 hzb35 h
   refine Run.sr ?_
   refine X.bi ?_
   refine X.nil ?_
   refine Run.seq ?_
   refine R.cd (fun hc40 => ?_) (fun hc40 => ?_)
   ·obtain ⟨x38, xs39, hd35, hx35, hds35, hlt35⟩ := drop_atI hza35 hc40
    rw [hd35] at h
    rw [i_CandidateRules_L2] at h
    refine Run.skip ?_
    refine Run.seq ?_
    refine Run.block ?_
    refine Run.sr ?_
    refine X.mv ?_
    refine X.ix elt34 (idxL_spec hx35).1 (idxL_map eTResource hx35) ?_
    refine X.lc shp86 ?_
    refine X.alloc zer86 (by rfl) (by rfl) (by rfl) ?_
    refine X.as ?_
    refine X.sl shp86 ?_
    refine X.nil ?_
    refine Run.sr ?_
    refine X.fl fld51_1 ?_
    refine X.ld shp25 ?_
    refine X.an ?_
    refine Run.seq ?_
    refine Run.sr ?_
    refine X.fl fld86_0 ?_
    refine X.ld shp84 ?_
    refine X.ls elt84 ?_
    refine X.mn ?_
    obtain ⟨o41, ho41, h⟩ := bindE h
    refine R.join2 (β := (List Int)) [(2, .lptr 128 0), (3, .lptr 192 0), (9, int z36), (49, .slice (b0.Resources.map eTResource)), (50, int (b0.Resources.length : Int)), (51, int z36)] [(128, .blk true [int b0.Deadline, .slice (b0.Activities.map eTActivity), .slice (b0.Links.map eTLink), .slice (b0.Resources.map eTResource), .slice (b0.Stocks.map int)]), (192, .blk true [.slice (b1.MinStart.map int), .slice (b1.MaxStart.map int), .slice (b1.Modes.map l_int)]), (1408, .obj true 38 4 (a37.map eTRule)), (1472, .obj true 38 4 (p28.2.map eTRule))] (fun p54 S => (5, .own 1408 (a37.map eTRule).length) :: (6, .own 1472 (p28.2.map eTRule).length) :: (11, .slice (p54.map int)) :: S) (fun p54 M => M) (fun p54 => p54 = o41) ?_ ?_
    ·intro JJ44 hmeet43
     have hup42 := h; clear h; have h := ho41; clear ho41
     refine Run.block ?_
     refine R.bndS (t := 59) (by rfl) (fun hbd47 => ?_)
     replace hbd47 : x38.Steps.length ≤ 9223372036854775807 := by first | (rw [List.length_map] at hbd47; exact hbd47) | simp
     refine R.lp (β := Int × (List Int)) [(2, .lptr 128 0), (3, .lptr 192 0), (9, int z36), (49, .slice (b0.Resources.map eTResource)), (50, int (b0.Resources.length : Int)), (51, int z36), (59, .slice (x38.Steps.map eTStep)), (60, int (x38.Steps.length : Int))] [(128, .blk true [int b0.Deadline, .slice (b0.Activities.map eTActivity), .slice (b0.Links.map eTLink), .slice (b0.Resources.map eTResource), .slice (b0.Stocks.map int)]), (192, .blk true [.slice (b1.MinStart.map int), .slice (b1.MaxStart.map int), .slice (b1.Modes.map l_int)]), (1408, .obj true 38 4 (a37.map eTRule)), (1472, .obj true 38 4 (p28.2.map eTRule))] (fun bb S => (5, .own 1408 (a37.map eTRule).length) :: (6, .own 1472 (p28.2.map eTRule).length) :: (11, .slice (bb.2.map int)) :: (61, int bb.1) :: S) (fun bb M => M) (fun n bb => 0 ≤ bb.1 ∧ bb.1 + n = (x38.Steps.length : Int) ∧ i_CandidateRules_L3 (x38.Steps.drop bb.1.toNat) bb.1 bb.2 = some o41) x38.Steps.length (0, b1.MaxStart) ⟨Int.le_refl _, by simp, h⟩ ?_
     clear h
     rintro JJ47 n47 ⟨z48, a49⟩ hag47 ⟨hza47, hzb47, h⟩
     dsimp only at hza47 hzb47 h
     refine Run.sr ?_
     refine X.bi ?_
     refine X.nil ?_
     refine Run.seq ?_
     refine R.cd (fun hc52 => ?_) (fun hc52 => ?_)
     ·obtain ⟨x50, xs51, hd47, hx47, hds47, hlt47⟩ := drop_atI hza47 hc52
      rw [hd47] at h
      rw [i_CandidateRules_L3] at h
      refine Run.skip ?_
      refine Run.seq ?_
      refine Run.block ?_
      refine Run.sr ?_
      refine X.ix elt84 (idxL_spec hx47).1 (idxL_map eTStep hx47) ?_
      refine X.lc shp88 ?_
      refine X.alloc zer88 (by rfl) (by rfl) (by rfl) ?_
      refine X.sl shp88 ?_
      refine X.nil ?_
      refine Run.reg ?_
      refine X.mv ?_
      refine X.fl fld88_0 ?_
      refine X.ld shp3 ?_
      obtain ⟨v53, hv53, h⟩ := bindE h
      refine X.callF (i_SetAdd_pc _ _ _ hv53) (by rfl) (by rfl) (by rfl) (by trivial) (by rfl) (by rfl) (by rfl) (by rfl) ?_
      refine X.an ?_
      refine Run.blk ?_
      refine Run.reg ?_
      refine X.ad ?_
      refine X.mn ?_
      refine R.castS (t := 11) _ (by rfl) (.inr (.inr ⟨_, _, _, _, _, rfl, (by rfl), (by first | rfl | simp [setL] | omega), rfl⟩)) ?_
      exact R.ag hag47 (n47 - 1) (z48 + 1, v53) (R.n3 (by first | (rw [hds47]; exact h) | (dsimp only; rw [hds47]; exact h)))
     ·rw [drop_endI hza47 hc52] at h
      rw [i_CandidateRules_L3] at h
      refine Run.exit (by rfl) ?_
      exact R.mt hmeet43 a49 (Option.some.inj h)
    rintro p54 rfl
    refine Run.seq ?_
    refine Run.sr ?_
    refine X.mv ?_
    obtain ⟨v55, hv55, h⟩ := bindE h
    refine X.callF (PC.pubF (i_SetOf_pc _ _ hv55)) (by rfl) (by rfl) (by rfl) (by trivial) (by rfl) (by rfl) (by rfl) (by rfl) ?_
    refine X.len_o elt25 (by rfl) (by rfl) (by first | rfl | simp [setL] | omega) (by first | exact List.length_map .. | rfl) (by rfl) (by rfl) ?_
    refine X.mn ?_
    obtain ⟨o56, ho56, h⟩ := bindE h
    refine R.join2 (β := (List TRule)) [(2, .lptr 128 0), (3, .lptr 192 0), (9, int z36), (49, .slice (b0.Resources.map eTResource)), (50, int (b0.Resources.length : Int)), (51, int z36)] [(128, .blk true [int b0.Deadline, .slice (b0.Activities.map eTActivity), .slice (b0.Links.map eTLink), .slice (b0.Resources.map eTResource), .slice (b0.Stocks.map int)]), (192, .blk true [.slice (b1.MinStart.map int), .slice (b1.MaxStart.map int), .slice (b1.Modes.map l_int)]), (1472, .obj true 38 4 (p28.2.map eTRule))] (fun p71 S => (5, .own 1408 (p71.map eTRule).length) :: (6, .own 1472 (p28.2.map eTRule).length) :: S) (fun p71 M => (1408, .obj true 38 4 (p71.map eTRule)) :: M) (fun p71 => p71 = o56) ?_ ?_
    ·intro JJ59 hmeet58
     have hup57 := h; clear h; have h := ho56; clear ho56
     refine Run.block ?_
     refine R.bndO (n := 4544) (by rfl) (fun hbd62 => ?_)
     replace hbd62 : v55.length ≤ 9223372036854775807 := by first | (rw [List.length_map] at hbd62; exact hbd62) | simp
     refine R.lp (β := Int × (List TRule)) [(2, .lptr 128 0), (3, .lptr 192 0), (9, int z36), (49, .slice (b0.Resources.map eTResource)), (50, int (b0.Resources.length : Int)), (51, int z36), (72, int (v55.length : Int))] [(128, .blk true [int b0.Deadline, .slice (b0.Activities.map eTActivity), .slice (b0.Links.map eTLink), .slice (b0.Resources.map eTResource), .slice (b0.Stocks.map int)]), (192, .blk true [.slice (b1.MinStart.map int), .slice (b1.MaxStart.map int), .slice (b1.Modes.map l_int)]), (1472, .obj true 38 4 (p28.2.map eTRule)), (4544, .obj false 3 1 (v55.map int))] (fun bb S => (5, .own 1408 (bb.2.map eTRule).length) :: (6, .own 1472 (p28.2.map eTRule).length) :: (71, .own 4544 (v55.map int).length) :: (73, int bb.1) :: S) (fun bb M => (1408, .obj true 38 4 (bb.2.map eTRule)) :: M) (fun n bb => 0 ≤ bb.1 ∧ bb.1 + n = (v55.length : Int) ∧ i_CandidateRules_L4 z36 (v55.drop bb.1.toNat) bb.1 bb.2 = some o56) v55.length (0, a37) ⟨Int.le_refl _, by simp, h⟩ ?_
     clear h
     rintro JJ62 n62 ⟨z63, a64⟩ hag62 ⟨hza62, hzb62, h⟩
     dsimp only at hza62 hzb62 h
     refine Run.sr ?_
     refine X.bi ?_
     refine X.nil ?_
     refine Run.seq ?_
     refine R.cd (fun hc67 => ?_) (fun hc67 => ?_)
     ·obtain ⟨x65, xs66, hd62, hx62, hds62, hlt62⟩ := drop_atI hza62 hc67
      rw [hd62] at h
      rw [i_CandidateRules_L4] at h
      refine Run.skip ?_
      refine Run.seq ?_
      refine Run.block ?_
      refine Run.sr ?_
      refine X.index_o elt25 (by rfl) (by rfl) (by first | rfl | simp [setL] | omega) (by rfl) (idxL_spec hx62).1 (idxL_map int hx62) (by rfl) (by rfl) (by rfl) ?_
      refine X.lc shp3 ?_
      refine X.an ?_
      refine Run.sr ?_
      refine X.mv ?_
      obtain ⟨v68, hv68, h⟩ := bindE h
      refine X.cp (i_isTime_pc _ _ hv68) ?_
      refine X.nil ?_
      refine R.cd (fun hc69 => ?_) (fun hc69 => ?_)
      ·replace h := condT hc69 h
       refine Run.reg ?_
       refine X.mv ?_
       refine X.mv ?_
       refine X.mv ?_
       refine X.build zer38 pl38 (by rfl) (by rfl) (by repeat (first | trivial | refine ⟨by first | rfl | simp [setL], ?_⟩)) (by rfl) (by rfl) (by rfl) ?_
       refine X.buildSlice true elt49 zer38 (by rfl) (by rfl) (by rfl) (by rfl) (by rfl) (by rfl) (by repeat (first | trivial | refine ⟨by first | rfl | simp [setL], ?_⟩)) (allSz_spec (by rfl)) (by rfl) (by rfl) (by rfl) ?_
       obtain ⟨v70, hv70, h⟩ := bindE h
       refine X.append elt49 zer38 (by rfl) (by rfl) (by first | rfl | simp [setL] | omega) (by rfl) (.own _ _ _ _ _ _ (look_mem (by rfl)) (by first | rfl | simp [setL] | omega)) (allSz_spec (by rfl)) (appL_len eTRule hv70) (appL_map eTRule hv70) (by rfl) (by rfl) (by rfl) (by rfl) ?_
       refine X.an ?_
       refine Run.blk ?_
       refine Run.reg ?_
       refine X.ad ?_
       refine X.mn ?_
       exact R.ag hag62 (n62 - 1) (z63 + 1, v70) (R.n3 (by first | (rw [hds62]; exact h) | (dsimp only; rw [hds62]; exact h)))
      ·replace h := condF hc69 h
       refine Run.skip ?_
       refine Run.blk ?_
       refine Run.reg ?_
       refine X.ad ?_
       refine X.mn ?_
       exact R.ag hag62 (n62 - 1) (z63 + 1, a64) (R.n3 (by first | (rw [hds62]; exact h) | (dsimp only; rw [hds62]; exact h)))
     ·rw [drop_endI hza62 hc67] at h
      rw [i_CandidateRules_L4] at h
      refine Run.exit (by rfl) ?_
      exact R.mt hmeet58 a64 (Option.some.inj h)
    rintro p71 rfl
    refine Run.sr ?_
    refine X.ld shp36 ?_
    refine X.ld shp51 ?_
    obtain ⟨v72, hv72, h⟩ := bindE h
    refine X.callF (i_Intervals_pc _ _ _ hv72) (by rfl) (by rfl) (by rfl) (by trivial) (by rfl) (by rfl) (by rfl) (by rfl) ?_
    refine X.len_o elt45 (by rfl) (by rfl) (by first | rfl | simp [setL] | omega) (by first | exact List.length_map .. | rfl) (by rfl) (by rfl) ?_
    refine X.mn ?_
    obtain ⟨o73, ho73, h⟩ := bindE h
    refine R.join2 (β := (List TRule)) [(2, .lptr 128 0), (3, .lptr 192 0), (49, .slice (b0.Resources.map eTResource)), (50, int (b0.Resources.length : Int)), (51, int z36)] [(128, .blk true [int b0.Deadline, .slice (b0.Activities.map eTActivity), .slice (b0.Links.map eTLink), .slice (b0.Resources.map eTResource), .slice (b0.Stocks.map int)]), (192, .blk true [.slice (b1.MinStart.map int), .slice (b1.MaxStart.map int), .slice (b1.Modes.map l_int)]), (1472, .obj true 38 4 (p28.2.map eTRule))] (fun p88 S => (5, .own 1408 (p88.map eTRule).length) :: (6, .own 1472 (p28.2.map eTRule).length) :: S) (fun p88 M => (1408, .obj true 38 4 (p88.map eTRule)) :: M) (fun p88 => p88 = o73) ?_ ?_
    ·intro JJ76 hmeet75
     have hup74 := h; clear h; have h := ho73; clear ho73
     refine Run.block ?_
     refine R.bndO (n := 5632) (by rfl) (fun hbd79 => ?_)
     replace hbd79 : v72.length ≤ 9223372036854775807 := by first | (rw [List.length_map] at hbd79; exact hbd79) | simp
     refine R.lp (β := Int × (List TRule)) [(2, .lptr 128 0), (3, .lptr 192 0), (9, int z36), (49, .slice (b0.Resources.map eTResource)), (50, int (b0.Resources.length : Int)), (51, int z36), (89, int (v72.length : Int))] [(128, .blk true [int b0.Deadline, .slice (b0.Activities.map eTActivity), .slice (b0.Links.map eTLink), .slice (b0.Resources.map eTResource), .slice (b0.Stocks.map int)]), (192, .blk true [.slice (b1.MinStart.map int), .slice (b1.MaxStart.map int), .slice (b1.Modes.map l_int)]), (1472, .obj true 38 4 (p28.2.map eTRule)), (5632, .obj false 25 1 (v72.map l_int))] (fun bb S => (5, .own 1408 (bb.2.map eTRule).length) :: (6, .own 1472 (p28.2.map eTRule).length) :: (88, .own 5632 (v72.map l_int).length) :: (90, int bb.1) :: S) (fun bb M => (1408, .obj true 38 4 (bb.2.map eTRule)) :: M) (fun n bb => 0 ≤ bb.1 ∧ bb.1 + n = (v72.length : Int) ∧ i_CandidateRules_L5 z36 (v72.drop bb.1.toNat) bb.1 bb.2 = some o73) v72.length (0, p71) ⟨Int.le_refl _, by simp, h⟩ ?_
     clear h
     rintro JJ79 n79 ⟨z80, a81⟩ hag79 ⟨hza79, hzb79, h⟩
     dsimp only at hza79 hzb79 h
     refine Run.sr ?_
     refine X.bi ?_
     refine X.nil ?_
     refine Run.seq ?_
     refine R.cd (fun hc84 => ?_) (fun hc84 => ?_)
     ·obtain ⟨x82, xs83, hd79, hx79, hds79, hlt79⟩ := drop_atI hza79 hc84
      rw [hd79] at h
      rw [i_CandidateRules_L5] at h
      refine Run.skip ?_
      refine Run.seq ?_
      refine Run.block ?_
      refine Run.sr ?_
      refine X.index_o elt45 (by rfl) (by rfl) (by first | rfl | simp [setL] | omega) (by rfl) (idxL_spec hx79).1 (idxL_map l_int hx79) (by rfl) (by rfl) (by rfl) ?_
      refine X.lc shp25 ?_
      refine X.an ?_
      refine Run.draw (footOf [(9, ([6592], [6592], [], [])), (10, ([1408, 6592], [1408], [], []))]) mixed (by kernel_rfl) (by kernel_rfl) ?_
      refine X.mv ?_
      refine X.mv ?_
      refine X.mv ?_
      obtain ⟨v85, hv85, h⟩ := bindE h
      refine X.ix elt25 (idxL_spec hv85).1 (idxL_map int hv85) ?_
      refine X.lc shp3 ?_
      refine X.mv ?_
      obtain ⟨v86, hv86, h⟩ := bindE h
      refine X.ix elt25 (idxL_spec hv86).1 (idxL_map int hv86) ?_
      refine X.lc shp3 ?_
      refine X.build zer38 pl38 (by rfl) (by rfl) (by repeat (first | trivial | refine ⟨by first | rfl | simp [setL], ?_⟩)) (by rfl) (by rfl) (by rfl) ?_
      refine X.buildSlice true elt49 zer38 (by rfl) (by rfl) (by rfl) (by rfl) (by rfl) (by rfl) (by repeat (first | trivial | refine ⟨by first | rfl | simp [setL], ?_⟩)) (allSz_spec (by rfl)) (by rfl) (by rfl) (by rfl) ?_
      obtain ⟨v87, hv87, h⟩ := bindE h
      refine X.append elt49 zer38 (by rfl) (by rfl) (by first | rfl | simp [setL] | omega) (by rfl) (.own _ _ _ _ _ _ (look_mem (by rfl)) (by first | rfl | simp [setL] | omega)) (allSz_spec (by rfl)) (appL_len eTRule hv87) (appL_map eTRule hv87) (by rfl) (by rfl) (by rfl) (by rfl) ?_
      refine X.an ?_
      refine Run.blk ?_
      refine Run.reg ?_
      refine X.ad ?_
      refine X.mn ?_
      exact R.ag hag79 (n79 - 1) (z80 + 1, v87) (R.n3 (by first | (rw [hds79]; exact h) | (dsimp only; rw [hds79]; exact h)))
     ·rw [drop_endI hza79 hc84] at h
      rw [i_CandidateRules_L5] at h
      refine Run.exit (by rfl) ?_
      exact R.mt hmeet75 a81 (Option.some.inj h)
    rintro p88 rfl
    refine Run.blk ?_
    refine Run.reg ?_
    refine X.ad ?_
    refine X.mn ?_
    exact R.ag hag35 (n35 - 1) (z36 + 1, p88) (R.n3 (by first | (rw [hds35]; exact h) | (dsimp only; rw [hds35]; exact h)))
   ·rw [drop_endI hza35 hc40] at h
    rw [i_CandidateRules_L2] at h
    refine Run.exit (by rfl) ?_
    exact R.mt hmeet31 a37 (Option.some.inj h)
  rintro p89 rfl
  refine Run.sr ?_
  refine X.mv ?_
  refine X.mv ?_
  obtain ⟨v90, hv90, h⟩ := bindE h
  refine X.append elt49 zer38 (by rfl) (by rfl) (by first | rfl | simp [setL] | omega) (by rfl) (.own _ _ _ _ _ _ (look_mem (by rfl)) (by first | rfl | simp [setL] | omega)) (by exact cells_map (f := eTRule) (fun _ => rfl)) (appL_len eTRule hv90) (appL_map eTRule hv90) (by rfl) (by rfl) (by rfl) (by rfl) ?_
  refine X.an ?_
  cases h
  refine R.fin1o Tryz.results20 (by rfl) (by rfl) (by first | rfl | simp [setL] | omega) ?_
  rfl
theorem w_eqDomain_pc (b0 : TDomain) (b1 : TDomain) (r : Bool) (h : w_eqDomain b0 b1 = some r) : PC Tryz.prog 22 [eTDomain b0, eTDomain b1] (bool r) := by
 unfold w_eqDomain at h
 refine PC.start Tryz.func22 Tryz.ntmps22 rfl ok22 rfl ?_
 refine Run.sr ?_
 refine X.bx ?_
 refine X.bx ?_
 refine X.an ?_
 refine Run.seq ?_
 refine Run.sr ?_
 refine X.fl fld51_0 ?_
 refine X.ld shp25 ?_
 refine X.fl fld51_0 ?_
 refine X.ld shp25 ?_
 obtain ⟨v1, hv1, h⟩ := bindE h
 refine X.cp (w_eqIntS_pc _ _ _ hv1) ?_
 refine X.un (by rfl) (by rfl) (by rfl) ?_
 refine X.nil ?_
 refine R.cd (fun hc2 => ?_) (fun hc2 => ?_)
 ·replace h := condT hc2 h
  refine Run.sr ?_
  refine X.an ?_
  cases h
  refine R.f1 Tryz.results22 ?_
  rfl
 ·replace h := condF hc2 h
  refine Run.skip ?_
  refine Run.seq ?_
  refine Run.sr ?_
  refine X.fl fld51_1 ?_
  refine X.ld shp25 ?_
  refine X.fl fld51_1 ?_
  refine X.ld shp25 ?_
  obtain ⟨v3, hv3, h⟩ := bindE h
  refine X.cp (w_eqIntS_pc _ _ _ hv3) ?_
  refine X.un (by rfl) (by rfl) (by rfl) ?_
  refine X.nil ?_
  refine R.cd (fun hc4 => ?_) (fun hc4 => ?_)
  ·replace h := condT hc4 h
   refine Run.sr ?_
   refine X.an ?_
   cases h
   refine R.f1 Tryz.results22 ?_
   rfl
  ·replace h := condF hc4 h
   refine Run.skip ?_
   refine Run.seq ?_
   refine Run.sr ?_
   refine X.fl fld51_2 ?_
   refine X.ld shp45 ?_
   refine X.fl fld51_2 ?_
   refine X.ld shp45 ?_
   obtain ⟨v5, hv5, h⟩ := bindE h
   refine X.cp (w_eqIntSS_pc _ _ _ hv5) ?_
   refine X.un (by rfl) (by rfl) (by rfl) ?_
   refine X.nil ?_
   refine R.cd (fun hc6 => ?_) (fun hc6 => ?_)
   ·replace h := condT hc6 h
    refine Run.sr ?_
    refine X.an ?_
    cases h
    refine R.f1 Tryz.results22 ?_
    rfl
   ·replace h := condF hc6 h
    refine Run.skip ?_
    refine Run.sr ?_
    refine X.an ?_
    cases h
    refine R.f1 Tryz.results22 ?_
    rfl
theorem s_MinDuration_pc (b0 : TActivity) (b1 : List Int) (r : Int) (h : s_MinDuration b0 b1 = some r) : PC Tryz.prog 142 [eTActivity b0, .slice (b1.map int)] (int r) := by
 unfold s_MinDuration at h
 refine PC.start Tryz.func142 Tryz.ntmps142 rfl ok142 rfl ?_
 refine Run.sr ?_
 refine X.bx ?_
 refine X.an ?_
 refine Run.sr ?_
 refine X.an ?_
 refine Run.sr ?_
 refine X.an ?_
 refine Run.seq ?_
 refine Run.sr ?_
 refine X.fl fld108_2 ?_
 refine X.ld shp106 ?_
 refine X.ls elt106 ?_
 refine X.mn ?_
 obtain ⟨o1, ho1, h⟩ := bindE h
 refine R.join2 (β := Int) [] [] (fun p19 S => (5, int p19) :: S) (fun p19 M => M) (fun p19 => p19 = o1) ?_ ?_
 ·intro JJ4 hmeet3
  have hup2 := h; clear h; have h := ho1; clear ho1
  refine Run.block ?_
  refine R.bndS (t := 10) (by rfl) (fun hbd7 => ?_)
  replace hbd7 : b0.Modes.length ≤ 9223372036854775807 := by first | (rw [List.length_map] at hbd7; exact hbd7) | simp
  refine R.lp (β := Int × Int × Bool) [(1, .slice (b1.map int)), (10, .slice (b0.Modes.map eTMode)), (11, int (b0.Modes.length : Int))] [] (fun bb S => (5, int bb.2.1) :: (6, bool bb.2.2) :: (12, int bb.1) :: S) (fun bb M => M) (fun n bb => 0 ≤ bb.1 ∧ bb.1 + n = (b0.Modes.length : Int) ∧ s_MinDuration_L1 b1 (b0.Modes.drop bb.1.toNat) bb.1 bb.2.1 bb.2.2 = some o1) b0.Modes.length (0, 0, false) ⟨Int.le_refl _, by simp, h⟩ ?_
  clear h
  rintro JJ7 n7 ⟨z8, a9, a10⟩ hag7 ⟨hza7, hzb7, h⟩
  dsimp only at hza7 hzb7 h
  refine Run.sr ?_
  refine X.bi ?_
  refine X.nil ?_
  refine Run.seq ?_
  refine R.cd (fun hc13 => ?_) (fun hc13 => ?_)
  ·obtain ⟨x11, xs12, hd7, hx7, hds7, hlt7⟩ := drop_atI hza7 hc13
   rw [hd7] at h
   rw [s_MinDuration_L1] at h
   refine Run.skip ?_
   refine Run.seq ?_
   refine Run.block ?_
   refine Run.sr ?_
   refine X.mv ?_
   refine X.ix elt106 (idxL_spec hx7).1 (idxL_map eTMode hx7) ?_
   refine X.lc shp110 ?_
   refine X.alloc zer110 (by rfl) (by rfl) (by rfl) ?_
   refine X.as ?_
   refine X.sl shp110 ?_
   refine X.nil ?_
   refine Run.seq ?_
   obtain ⟨v14, hv14, h⟩ := bindE h
   obtain ⟨e15, he15, h2⟩ := bindE h
   refine R.regG [(1, .slice (b1.map int)), (5, int a9), (6, bool a10), (8, .lptr 512 0), (10, .slice (b0.Modes.map eTMode)), (11, int (b0.Modes.length : Int)), (12, int z8), (29, bool e15)] [(512, .blk true [int x11.Duration, .slice (x11.Usage.map int), .slice (x11.Consumption.map int)])] ?_ ?_
   ·clear h; have h := he15; clear he15 h2
    refine X.mv ?_
    refine X.mv ?_
    refine X.cp (s_SetHas_pc _ _ _ hv14) ?_
    refine X.mv ?_
    refine X.iG (fun hb16 => ?_) (fun hb16 => ?_)
    ·replace h := condT hb16 h
     refine X.mv ?_
     refine X.gy ?_
     refine X.un (by rfl) (by rfl) (by rfl) ?_
     refine X.gy ?_
     refine X.mv ?_
     refine X.iG (fun hb17 => ?_) (fun hb17 => ?_)
     ·replace h := condF hb17 h
      refine X.fl fld110_0 ?_
      refine X.gy ?_
      refine X.ld shp3 ?_
      refine X.gy ?_
      refine X.mv ?_
      refine X.gy ?_
      refine X.bi ?_
      refine X.gy ?_
      refine X.pF ?_
      refine X.pT ?_
      cases h
      exact X.eG
     ·replace h := condT hb17 h
      refine X.gn ?_
      refine X.gn ?_
      refine X.gn ?_
      refine X.gy ?_
      refine X.pT ?_
      refine X.pT ?_
      cases h
      exact X.eG
    ·replace h := condF hb16 h
     refine X.gn ?_
     refine X.gn ?_
     refine X.gU (by rfl) (by rfl) (by rfl) ?_
     refine X.gU (by rfl) (by rfl) (by rfl) ?_
     refine X.gU (by rfl) (by rfl) (by rfl) ?_
     refine X.gU (by rfl) (by rfl) (by rfl) ?_
     refine X.gn ?_
     refine X.pF ?_
     cases h
     exact X.eG
   replace h := h2; clear h2
   refine R.cd (fun hc18 => ?_) (fun hc18 => ?_)
   ·replace h := condT hc18 h
    refine Run.sr ?_
    refine X.fl fld110_0 ?_
    refine X.ld shp3 ?_
    refine X.an ?_
    refine Run.reg ?_
    refine X.an ?_
    refine Run.blk ?_
    refine Run.reg ?_
    refine X.ad ?_
    refine X.mn ?_
    exact R.ag hag7 (n7 - 1) (z8 + 1, x11.Duration, true) (R.n3 (by first | (rw [hds7]; exact h) | (dsimp only; rw [hds7]; exact h)))
   ·replace h := condF hc18 h
    refine Run.skip ?_
    refine Run.blk ?_
    refine Run.reg ?_
    refine X.ad ?_
    refine X.mn ?_
    exact R.ag hag7 (n7 - 1) (z8 + 1, a9, a10) (R.n3 (by first | (rw [hds7]; exact h) | (dsimp only; rw [hds7]; exact h)))
  ·rw [drop_endI hza7 hc13] at h
   rw [s_MinDuration_L1] at h
   refine Run.exit (by rfl) ?_
   exact R.mt hmeet3 a9 (Option.some.inj h)
 rintro p19 rfl
 refine Run.sr ?_
 refine X.mv ?_
 refine X.an ?_
 cases h
 refine R.f1 Tryz.results142 ?_
 rfl
theorem s_l14Short_pc (b0 : TProject) (b1 : TDomain) (b2 : Int) (r : Int) (h : s_l14Short b0 b1 b2 = some r) : PC Tryz.prog 102 [eTProject b0, eTDomain b1, int b2] (int r) := by
 unfold s_l14Short at h
 refine PC.start Tryz.func102 Tryz.ntmps102 rfl ok102 rfl ?_
 refine Run.sr ?_
 refine X.bx ?_
 refine X.bx ?_
 refine X.an ?_
 refine Run.seq ?_
 refine Run.draw (footOf [(1, ([192], [], [], [])), (6, ([256], [], [], []))]) mixed (by kernel_rfl) (by kernel_rfl) ?_
 refine X.fl fld36_1 ?_
 refine X.ld shp32 ?_
 refine X.mv ?_
 obtain ⟨v1, hv1, h⟩ := bindE h
 refine X.ix elt32 (idxL_spec hv1).1 (idxL_map eTActivity hv1) ?_
 refine X.lc shp108 ?_
 refine X.fl fld51_2 ?_
 refine X.ld shp45 ?_
 refine X.mv ?_
 obtain ⟨v2, hv2, h⟩ := bindE h
 refine X.ix elt45 (idxL_spec hv2).1 (idxL_map l_int hv2) ?_
 refine X.lc shp25 ?_
 obtain ⟨v3, hv3, h⟩ := bindE h
 refine X.cp (s_MinDuration_pc _ _ _ hv3) ?_
 refine X.an ?_
 cases h
 refine R.f1 Tryz.results102 ?_
 rfl
theorem s_l04Least_pc (b0 : TActivity) (b1 : List Int) (b2 : Int) (b3 : Bool) (b4 : Bool) (r : Int) (h : s_l04Least b0 b1 b2 b3 b4 = some r) : PC Tryz.prog 188 [eTActivity b0, .slice (b1.map int), int b2, bool b3, bool b4] (int r) := by
 unfold s_l04Least at h
 refine PC.start Tryz.func188 Tryz.ntmps188 rfl ok188 rfl ?_
 refine Run.sr ?_
 refine X.bx ?_
 refine X.an ?_
 refine Run.sr ?_
 refine X.an ?_
 refine Run.sr ?_
 refine X.an ?_
 refine Run.seq ?_
 refine Run.sr ?_
 refine X.fl fld108_2 ?_
 refine X.ld shp106 ?_
 refine X.ls elt106 ?_
 refine X.mn ?_
 obtain ⟨o1, ho1, h⟩ := bindE h
 refine R.join2 (β := Int) [] [] (fun p34 S => (11, int p34) :: S) (fun p34 M => M) (fun p34 => (Sum.inl p34) = o1) ?_ ?_
 ·intro JJ4 hmeet3
  have hup2 := h; clear h; have h := ho1; clear ho1
  refine Run.block ?_
  refine R.bndS (t := 18) (by rfl) (fun hbd7 => ?_)
  replace hbd7 : b0.Modes.length ≤ 9223372036854775807 := by first | (rw [List.length_map] at hbd7; exact hbd7) | simp
  refine R.lp (β := Int × Int × Bool) [(1, .slice (b1.map int)), (2, int b2), (3, bool b3), (4, bool b4), (18, .slice (b0.Modes.map eTMode)), (19, int (b0.Modes.length : Int))] [] (fun bb S => (11, int bb.2.1) :: (12, bool bb.2.2) :: (20, int bb.1) :: S) (fun bb M => M) (fun n bb => 0 ≤ bb.1 ∧ bb.1 + n = (b0.Modes.length : Int) ∧ s_l04Least_L1 b1 b2 b3 b4 (b0.Modes.drop bb.1.toNat) bb.1 bb.2.1 bb.2.2 = some o1) b0.Modes.length (0, 0, false) ⟨Int.le_refl _, by simp, h⟩ ?_
  clear h
  rintro JJ7 n7 ⟨z8, a9, a10⟩ hag7 ⟨hza7, hzb7, h⟩
  dsimp only at hza7 hzb7 h
  refine Run.sr ?_
  refine X.bi ?_
  refine X.nil ?_
  refine Run.seq ?_
  refine R.cd (fun hc13 => ?_) (fun hc13 => ?_)
  ·obtain ⟨x11, xs12, hd7, hx7, hds7, hlt7⟩ := drop_atI hza7 hc13
   rw [hd7] at h
   rw [s_l04Least_L1] at h
   refine Run.skip ?_
   refine Run.seq ?_
   refine Run.block ?_
   refine Run.sr ?_
   refine X.mv ?_
   refine X.ix elt106 (idxL_spec hx7).1 (idxL_map eTMode hx7) ?_
   refine X.lc shp110 ?_
   refine X.alloc zer110 (by rfl) (by rfl) (by rfl) ?_
   refine X.as ?_
   refine X.sl shp110 ?_
   refine X.nil ?_
   refine Run.seq ?_
   refine Run.sr ?_
   refine X.mv ?_
   refine X.mv ?_
   obtain ⟨v14, hv14, h⟩ := bindE h
   refine X.cp (s_SetHas_pc _ _ _ hv14) ?_
   refine X.un (by rfl) (by rfl) (by rfl) ?_
   refine X.nil ?_
   refine R.cd (fun hc15 => ?_) (fun hc15 => ?_)
   ·replace h := condT hc15 h
    refine Run.exit (by rfl) ?_
    refine Run.reg ?_
    refine X.ad ?_
    refine X.mn ?_
    exact R.ag hag7 (n7 - 1) (z8 + 1, a9, a10) (R.n3 (by first | (rw [hds7]; exact h) | (dsimp only; rw [hds7]; exact h)))
   ·replace h := condF hc15 h
    refine Run.skip ?_
    refine Run.sr ?_
    refine X.fl fld110_1 ?_
    refine X.ld shp25 ?_
    refine X.an ?_
    refine Run.seq ?_
    refine Run.sr ?_
    refine X.mn ?_
    obtain ⟨o16, ho16, h⟩ := bindE h
    refine R.join2 (β := (List Int)) [(1, .slice (b1.map int)), (2, int b2), (3, bool b3), (4, bool b4), (11, int a9), (12, bool a10), (14, .lptr 896 0), (18, .slice (b0.Modes.map eTMode)), (19, int (b0.Modes.length : Int)), (20, int z8)] [(896, .blk true [int x11.Duration, .slice (x11.Usage.map int), .slice (x11.Consumption.map int)])] (fun p21 S => (15, .slice (p21.map int)) :: S) (fun p21 M => M) (fun p21 => p21 = o16) ?_ ?_
    ·intro JJ19 hmeet18
     have hup17 := h; clear h; have h := ho16; clear ho16
     refine R.cd (fun hc20 => ?_) (fun hc20 => ?_)
     ·replace h := condT hc20 h
      refine Run.reg ?_
      refine X.fl fld110_2 ?_
      refine X.ld shp25 ?_
      refine X.an ?_
      exact R.mt hmeet18 x11.Consumption (Option.some.inj h)
     ·replace h := condF hc20 h
      refine Run.skip ?_
      exact R.mt hmeet18 x11.Usage (Option.some.inj h)
    rintro p21 rfl
    refine Run.seq ?_
    refine Run.sr ?_
    refine X.mv ?_
    refine X.mv ?_
    refine X.ls elt25 ?_
    refine X.subW (by rfl) (by rfl) (by rfl) ?_
    obtain ⟨v22, hv22, h⟩ := bindE h
    refine X.cp (s_l01In_pc _ _ _ _ hv22) ?_
    refine X.un (by rfl) (by rfl) (by rfl) ?_
    refine X.nil ?_
    refine R.cd (fun hc23 => ?_) (fun hc23 => ?_)
    ·replace h := condT hc23 h
     refine Run.sr ?_
     refine X.an ?_
     cases h
     have h := hup2
     replace h := elimR h
     cases h
     refine R.f1 Tryz.results188 ?_
     rfl
    ·replace h := condF hc23 h
     refine Run.skip ?_
     refine Run.sr ?_
     refine X.mv ?_
     refine X.mv ?_
     obtain ⟨v24, hv24, h⟩ := bindE h
     refine X.ix elt25 (idxL_spec hv24).1 (idxL_map int hv24) ?_
     refine X.lc shp3 ?_
     refine X.an ?_
     refine Run.seq ?_
     refine Run.sr ?_
     refine X.mn ?_
     obtain ⟨o25, ho25, h⟩ := bindE h
     refine R.join2 (β := Int) [(1, .slice (b1.map int)), (2, int b2), (3, bool b3), (4, bool b4), (11, int a9), (12, bool a10), (18, .slice (b0.Modes.map eTMode)), (19, int (b0.Modes.length : Int)), (20, int z8)] [] (fun p30 S => (16, int p30) :: S) (fun p30 M => M) (fun p30 => p30 = o25) ?_ ?_
     ·intro JJ28 hmeet27
      have hup26 := h; clear h; have h := ho25; clear ho25
      refine R.cd (fun hc29 => ?_) (fun hc29 => ?_)
      ·replace h := condT hc29 h
       refine Run.reg ?_
       refine X.mv ?_
       refine X.fl fld110_0 ?_
       refine X.ld shp3 ?_
       refine X.mulW (by rfl) (by rfl) (by rfl) ?_
       refine X.an ?_
       exact R.mt hmeet27 (W (v24 * x11.Duration)) (Option.some.inj h)
      ·replace h := condF hc29 h
       refine Run.skip ?_
       exact R.mt hmeet27 v24 (Option.some.inj h)
     rintro p30 rfl
     refine Run.seq ?_
     refine Run.seq ?_
     obtain ⟨e31, he31, h2⟩ := bindE h
     refine R.regG [(1, .slice (b1.map int)), (2, int b2), (3, bool b3), (4, bool b4), (11, int a9), (16, int p30), (18, .slice (b0.Modes.map eTMode)), (19, int (b0.Modes.length : Int)), (20, int z8), (55, bool e31)] [] ?_ ?_
     ·clear h; have h := he31; clear he31 h2
      refine X.mv ?_
      refine X.un (by rfl) (by rfl) (by rfl) ?_
      refine X.mv ?_
      refine X.iG (fun hb32 => ?_) (fun hb32 => ?_)
      ·replace h := condF hb32 h
       refine X.mv ?_
       refine X.gy ?_
       refine X.mv ?_
       refine X.gy ?_
       refine X.bi ?_
       refine X.pF ?_
       cases h
       exact X.eG
      ·replace h := condT hb32 h
       refine X.gn ?_
       refine X.gn ?_
       refine X.pT ?_
       cases h
       exact X.eG
     replace h := h2; clear h2
     refine R.cd (fun hc33 => ?_) (fun hc33 => ?_)
     ·replace h := condT hc33 h
      refine Run.reg ?_
      refine X.mv ?_
      refine X.an ?_
      refine Run.reg ?_
      refine X.an ?_
      refine Run.blk ?_
      refine Run.reg ?_
      refine X.ad ?_
      refine X.mn ?_
      exact R.ag hag7 (n7 - 1) (z8 + 1, p30, true) (R.n3 (by first | (rw [hds7]; exact h) | (dsimp only; rw [hds7]; exact h)))
     ·replace h := condF hc33 h
      refine Run.skip ?_
      refine Run.reg ?_
      refine X.an ?_
      refine Run.blk ?_
      refine Run.reg ?_
      refine X.ad ?_
      refine X.mn ?_
      exact R.ag hag7 (n7 - 1) (z8 + 1, a9, true) (R.n3 (by first | (rw [hds7]; exact h) | (dsimp only; rw [hds7]; exact h)))
  ·rw [drop_endI hza7 hc13] at h
   rw [s_l04Least_L1] at h
   refine Run.exit (by rfl) ?_
   exact R.mt hmeet3 a9 (Option.some.inj h)
 rintro p34 rfl
 replace h := elimL h
 refine Run.sr ?_
 refine X.mv ?_
 refine X.an ?_
 cases h
 refine R.f1 Tryz.results188 ?_
 rfl
theorem s_MinUsage_pc (b0 : TActivity) (b1 : List Int) (b2 : Int) (r : Int) (h : s_MinUsage b0 b1 b2 = some r) : PC Tryz.prog 183 [eTActivity b0, .slice (b1.map int), int b2] (int r) := by
 unfold s_MinUsage at h
 refine PC.start Tryz.func183 Tryz.ntmps183 rfl ok183 rfl ?_
 refine Run.sr ?_
 refine X.bx ?_
 refine X.an ?_
 refine Run.sr ?_
 refine X.ld shp108 ?_
 refine X.mv ?_
 refine X.mv ?_
 obtain ⟨v1, hv1, h⟩ := bindE h
 refine X.cp (s_l04Least_pc _ _ _ _ _ _ hv1) ?_
 refine X.an ?_
 cases h
 refine R.f1 Tryz.results183 ?_
 rfl
theorem s_l14Need_pc (b0 : TProject) (b1 : TDomain) (b2 : Int) (b3 : Int) (r : Int) (h : s_l14Need b0 b1 b2 b3 = some r) : PC Tryz.prog 143 [eTProject b0, eTDomain b1, int b2, int b3] (int r) := by
 unfold s_l14Need at h
 refine PC.start Tryz.func143 Tryz.ntmps143 rfl ok143 rfl ?_
 refine Run.sr ?_
 refine X.bx ?_
 refine X.bx ?_
 refine X.an ?_
 refine Run.seq ?_
 refine Run.draw (footOf [(1, ([256], [], [], [])), (6, ([320], [], [], []))]) mixed (by kernel_rfl) (by kernel_rfl) ?_
 refine X.fl fld36_1 ?_
 refine X.ld shp32 ?_
 refine X.mv ?_
 obtain ⟨v1, hv1, h⟩ := bindE h
 refine X.ix elt32 (idxL_spec hv1).1 (idxL_map eTActivity hv1) ?_
 refine X.lc shp108 ?_
 refine X.fl fld51_2 ?_
 refine X.ld shp45 ?_
 refine X.mv ?_
 obtain ⟨v2, hv2, h⟩ := bindE h
 refine X.ix elt45 (idxL_spec hv2).1 (idxL_map l_int hv2) ?_
 refine X.lc shp25 ?_
 refine X.mv ?_
 obtain ⟨v3, hv3, h⟩ := bindE h
 refine X.cp (s_MinUsage_pc _ _ _ _ hv3) ?_
 refine X.an ?_
 cases h
 refine R.f1 Tryz.results143 ?_
 rfl
theorem s_l14Use_pc (b0 : TProject) (b1 : TDomain) (b2 : Int) (b3 : Int) (r : Int) (h : s_l14Use b0 b1 b2 b3 = some r) : PC Tryz.prog 103 [eTProject b0, eTDomain b1, int b2, int b3] (int r) := by
 unfold s_l14Use at h
 refine PC.start Tryz.func103 Tryz.ntmps103 rfl ok103 rfl ?_
 refine Run.sr ?_
 refine X.bx ?_
 refine X.bx ?_
 refine X.an ?_
 refine Run.sr ?_
 refine X.an ?_
 refine Run.seq ?_
 refine Run.sr ?_
 refine X.fl fld36_1 ?_
 refine X.ld shp32 ?_
 refine X.ls elt32 ?_
 refine X.mn ?_
 obtain ⟨o1, ho1, h⟩ := bindE h
 refine R.join2 (β := Int) [] [] (fun p20 S => (9, int p20) :: S) (fun p20 M => M) (fun p20 => p20 = o1) ?_ ?_
 ·intro JJ4 hmeet3
  have hup2 := h; clear h; have h := ho1; clear ho1
  refine Run.block ?_
  refine R.bndS (t := 12) (by rfl) (fun hbd7 => ?_)
  replace hbd7 : b0.Activities.length ≤ 9223372036854775807 := by first | (rw [List.length_map] at hbd7; exact hbd7) | simp
  refine R.lp (β := Int × Int) [(2, int b2), (3, int b3), (4, .lptr 256 0), (5, .lptr 320 0), (13, int (b0.Activities.length : Int))] [(256, .blk true [int b0.Deadline, .slice (b0.Activities.map eTActivity), .slice (b0.Links.map eTLink), .slice (b0.Resources.map eTResource), .slice (b0.Stocks.map int)]), (320, .blk true [.slice (b1.MinStart.map int), .slice (b1.MaxStart.map int), .slice (b1.Modes.map l_int)])] (fun bb S => (9, int bb.2) :: (14, int bb.1) :: S) (fun bb M => M) (fun n bb => 0 ≤ bb.1 ∧ bb.1 + n = (b0.Activities.length : Int) ∧ s_l14Use_L1 b0 b1 b2 b3 (b0.Activities.drop bb.1.toNat) bb.1 bb.2 = some o1) b0.Activities.length (0, 0) ⟨Int.le_refl _, by simp, h⟩ ?_
  clear h
  rintro JJ7 n7 ⟨z8, a9⟩ hag7 ⟨hza7, hzb7, h⟩
  dsimp only at hza7 hzb7 h
  refine Run.sr ?_
  refine X.bi ?_
  refine X.nil ?_
  refine Run.seq ?_
  refine R.cd (fun hc12 => ?_) (fun hc12 => ?_)
  ·obtain ⟨x10, xs11, hd7, hx7, hds7, hlt7⟩ := drop_atI hza7 hc12
   rw [hd7] at h
   rw [s_l14Use_L1] at h
   refine Run.skip ?_
   refine Run.seq ?_
   refine Run.block ?_
   refine Run.sr ?_
   refine X.mv ?_
   refine X.an ?_
   refine Run.seq ?_
   obtain ⟨v13, hv13, h⟩ := bindE h
   obtain ⟨e14, he14, h2⟩ := bindE h
   refine R.drawG [(2, int b2), (3, int b3), (4, .lptr 256 0), (5, .lptr 320 0), (9, int a9), (10, int z8), (13, int (b0.Activities.length : Int)), (14, int z8), (37, bool e14)] [(256, .blk true [int b0.Deadline, .slice (b0.Activities.map eTActivity), .slice (b0.Links.map eTLink), .slice (b0.Resources.map eTResource), .slice (b0.Stocks.map int)]), (320, .blk true [.slice (b1.MinStart.map int), .slice (b1.MaxStart.map int), .slice (b1.Modes.map l_int)])] (footOf [(1, ([320], [], [], [])), (9, ([320], [], [], [])), (13, ([256], [], [], [])), (14, ([320], [], [], []))]) mixed (by kernel_rfl) (by kernel_rfl) ?_ ?_
   ·clear h; have h := he14; clear he14 h2
    refine X.fl fld51_1 ?_
    refine X.ld shp25 ?_
    refine X.mv ?_
    refine X.ix elt25 (idxL_spec hv13).1 (idxL_map int hv13) ?_
    refine X.lc shp3 ?_
    refine X.mv ?_
    refine X.bi ?_
    refine X.mv ?_
    refine X.iG (fun hb15 => ?_) (fun hb15 => ?_)
    ·replace h := condT hb15 h
     refine X.fl fld51_0 ?_
     refine X.gy ?_
     refine X.ld shp25 ?_
     refine X.gy ?_
     refine X.mv ?_
     refine X.gy ?_
     obtain ⟨v16, hv16, h⟩ := bindE h
     refine X.ix elt25 (idxL_spec hv16).1 (idxL_map int hv16) ?_
     refine X.gy ?_
     refine X.lc shp3 ?_
     refine X.gy ?_
     refine X.ld shp36 ?_
     refine X.gy ?_
     refine X.ld shp51 ?_
     refine X.gy ?_
     refine X.mv ?_
     refine X.gy ?_
     obtain ⟨v17, hv17, h⟩ := bindE h
     refine X.cp (s_l14Short_pc _ _ _ _ hv17) ?_
     refine X.gy ?_
     refine X.addW (by rfl) (by rfl) (by rfl) ?_
     refine X.gy ?_
     refine X.mv ?_
     refine X.gy ?_
     refine X.bi ?_
     refine X.pT ?_
     cases h
     exact X.eG
    ·replace h := condF hb15 h
     refine X.gn ?_
     refine X.gn ?_
     refine X.gn ?_
     refine X.gn ?_
     refine X.gn ?_
     refine X.gn ?_
     refine X.gn ?_
     refine X.gn ?_
     refine X.gn ?_
     refine X.gn ?_
     refine X.gn ?_
     refine X.pF ?_
     cases h
     exact X.eG
   replace h := h2; clear h2
   refine R.cd (fun hc18 => ?_) (fun hc18 => ?_)
   ·replace h := condT hc18 h
    refine Run.reg ?_
    refine X.mv ?_
    refine X.ld shp36 ?_
    refine X.ld shp51 ?_
    refine X.mv ?_
    refine X.mv ?_
    obtain ⟨v19, hv19, h⟩ := bindE h
    refine X.cp (s_l14Need_pc _ _ _ _ _ hv19) ?_
    refine X.addW (by rfl) (by rfl) (by rfl) ?_
    refine X.an ?_
    refine Run.blk ?_
    refine Run.reg ?_
    refine X.ad ?_
    refine X.mn ?_
    exact R.ag hag7 (n7 - 1) (z8 + 1, (W (a9 + v19))) (R.n3 (by first | (rw [hds7]; exact h) | (dsimp only; rw [hds7]; exact h)))
   ·replace h := condF hc18 h
    refine Run.skip ?_
    refine Run.blk ?_
    refine Run.reg ?_
    refine X.ad ?_
    refine X.mn ?_
    exact R.ag hag7 (n7 - 1) (z8 + 1, a9) (R.n3 (by first | (rw [hds7]; exact h) | (dsimp only; rw [hds7]; exact h)))
  ·rw [drop_endI hza7 hc12] at h
   rw [s_l14Use_L1] at h
   refine Run.exit (by rfl) ?_
   exact R.mt hmeet3 a9 (Option.some.inj h)
 rintro p20 rfl
 refine Run.sr ?_
 refine X.mv ?_
 refine X.an ?_
 cases h
 refine R.f1 Tryz.results103 ?_
 rfl
theorem s_l03At_pc (b0 : List TStep) (b1 : Int) (r : Int) (h : s_l03At b0 b1 = some r) : PC Tryz.prog 104 [.slice (b0.map eTStep), int b1] (int r) := by
 unfold s_l03At at h
 refine PC.start Tryz.func104 Tryz.ntmps104 rfl ok104 rfl ?_
 refine Run.sr ?_
 refine X.an ?_
 refine Run.sr ?_
 refine X.an ?_
 refine Run.seq ?_
 refine Run.sr ?_
 refine X.mv ?_
 refine X.ls elt84 ?_
 refine X.mn ?_
 obtain ⟨o1, ho1, h⟩ := bindE h
 refine R.join2 (β := Int) [] [] (fun p14 S => (5, int p14) :: S) (fun p14 M => M) (fun p14 => p14 = o1) ?_ ?_
 ·intro JJ4 hmeet3
  have hup2 := h; clear h; have h := ho1; clear ho1
  refine Run.block ?_
  refine R.bndS (t := 0) (by rfl) (fun hbd7 => ?_)
  replace hbd7 : b0.length ≤ 9223372036854775807 := by first | (rw [List.length_map] at hbd7; exact hbd7) | simp
  refine R.lp (β := Int × Int) [(1, int b1), (8, .slice (b0.map eTStep)), (9, int (b0.length : Int))] [] (fun bb S => (5, int bb.2) :: (10, int bb.1) :: S) (fun bb M => M) (fun n bb => 0 ≤ bb.1 ∧ bb.1 + n = (b0.length : Int) ∧ s_l03At_L1 b1 (b0.drop bb.1.toNat) bb.1 bb.2 = some o1) b0.length (0, 0) ⟨Int.le_refl _, by simp, h⟩ ?_
  clear h
  rintro JJ7 n7 ⟨z8, a9⟩ hag7 ⟨hza7, hzb7, h⟩
  dsimp only at hza7 hzb7 h
  refine Run.sr ?_
  refine X.bi ?_
  refine X.nil ?_
  refine Run.seq ?_
  refine R.cd (fun hc12 => ?_) (fun hc12 => ?_)
  ·obtain ⟨x10, xs11, hd7, hx7, hds7, hlt7⟩ := drop_atI hza7 hc12
   rw [hd7] at h
   rw [s_l03At_L1] at h
   refine Run.skip ?_
   refine Run.seq ?_
   refine Run.block ?_
   refine Run.sr ?_
   refine X.ix elt84 (idxL_spec hx7).1 (idxL_map eTStep hx7) ?_
   refine X.lc shp88 ?_
   refine X.alloc zer88 (by rfl) (by rfl) (by rfl) ?_
   refine X.sl shp88 ?_
   refine X.nil ?_
   refine Run.sr ?_
   refine X.fl fld88_0 ?_
   refine X.ld shp3 ?_
   refine X.mv ?_
   refine X.bi ?_
   refine X.nil ?_
   refine R.cd (fun hc13 => ?_) (fun hc13 => ?_)
   ·replace h := condT hc13 h
    refine Run.reg ?_
    refine X.fl fld88_1 ?_
    refine X.ld shp3 ?_
    refine X.an ?_
    refine Run.blk ?_
    refine Run.reg ?_
    refine X.ad ?_
    refine X.mn ?_
    exact R.ag hag7 (n7 - 1) (z8 + 1, x10.Capacity) (R.n3 (by first | (rw [hds7]; exact h) | (dsimp only; rw [hds7]; exact h)))
   ·replace h := condF hc13 h
    refine Run.skip ?_
    refine Run.blk ?_
    refine Run.reg ?_
    refine X.ad ?_
    refine X.mn ?_
    exact R.ag hag7 (n7 - 1) (z8 + 1, a9) (R.n3 (by first | (rw [hds7]; exact h) | (dsimp only; rw [hds7]; exact h)))
  ·rw [drop_endI hza7 hc12] at h
   rw [s_l03At_L1] at h
   refine Run.exit (by rfl) ?_
   exact R.mt hmeet3 a9 (Option.some.inj h)
 rintro p14 rfl
 refine Run.sr ?_
 refine X.mv ?_
 refine X.an ?_
 cases h
 refine R.f1 Tryz.results104 ?_
 rfl
theorem s_l02Min_pc (b0 : Int) (b1 : Int) (r : Int) (h : s_l02Min b0 b1 = some r) : PC Tryz.prog 184 [int b0, int b1] (int r) := by
 unfold s_l02Min at h
 refine PC.start Tryz.func184 Tryz.ntmps184 rfl ok184 rfl ?_
 refine Run.sr ?_
 refine X.an ?_
 refine Run.seq ?_
 refine Run.sr ?_
 refine X.mv ?_
 refine X.mv ?_
 refine X.bi ?_
 refine X.nil ?_
 refine R.cd (fun hc1 => ?_) (fun hc1 => ?_)
 ·replace h := condT hc1 h
  refine Run.sr ?_
  refine X.mv ?_
  refine X.an ?_
  cases h
  refine R.f1 Tryz.results184 ?_
  rfl
 ·replace h := condF hc1 h
  refine Run.skip ?_
  refine Run.sr ?_
  refine X.mv ?_
  refine X.an ?_
  cases h
  refine R.f1 Tryz.results184 ?_
  rfl
theorem s_l02Max_pc (b0 : Int) (b1 : Int) (r : Int) (h : s_l02Max b0 b1 = some r) : PC Tryz.prog 186 [int b0, int b1] (int r) := by
 unfold s_l02Max at h
 refine PC.start Tryz.func186 Tryz.ntmps186 rfl ok186 rfl ?_
 refine Run.sr ?_
 refine X.an ?_
 refine Run.seq ?_
 refine Run.sr ?_
 refine X.mv ?_
 refine X.mv ?_
 refine X.bi ?_
 refine X.nil ?_
 refine R.cd (fun hc1 => ?_) (fun hc1 => ?_)
 ·replace h := condT hc1 h
  refine Run.sr ?_
  refine X.mv ?_
  refine X.an ?_
  cases h
  refine R.f1 Tryz.results186 ?_
  rfl
 ·replace h := condF hc1 h
  refine Run.skip ?_
  refine Run.sr ?_
  refine X.mv ?_
  refine X.an ?_
  cases h
  refine R.f1 Tryz.results186 ?_
  rfl
theorem s_Overlap_pc (b0 : Int) (b1 : Int) (b2 : Int) (b3 : Int) (r : Int) (h : s_Overlap b0 b1 b2 b3 = some r) : PC Tryz.prog 185 [int b0, int b1, int b2, int b3] (int r) := by
 unfold s_Overlap at h
 refine PC.start Tryz.func185 Tryz.ntmps185 rfl ok185 rfl ?_
 refine Run.sr ?_
 refine X.an ?_
 refine Run.seq ?_
 refine Run.sr ?_
 refine X.mv ?_
 refine X.mv ?_
 refine X.mv ?_
 refine X.mv ?_
 refine X.buildSlice false elt25 zer3 (by rfl) (by rfl) (by rfl) (by rfl) (by rfl) (by rfl) (by repeat (first | trivial | refine ⟨by first | rfl | simp [setL], ?_⟩)) (allSz_spec (by rfl)) (by rfl) (by rfl) (by rfl) ?_
 refine X.len_o elt25 (by rfl) (by rfl) (by first | rfl | simp [setL] | omega) (by first | exact List.length_map .. | rfl) (by rfl) (by rfl) ?_
 refine X.mn ?_
 obtain ⟨o1, ho1, h⟩ := bindE h
 refine R.join2 (β := Unit) [(0, int b0), (1, int b1), (2, int b2), (3, int b3)] [] (fun p14 S => S) (fun p14 M => M) (fun p14 => (Sum.inl p14) = o1) ?_ ?_
 ·intro JJ4 hmeet3
  have hup2 := h; clear h; have h := ho1; clear ho1
  refine Run.block ?_
  refine R.bndO (n := 960) (by rfl) (fun hbd7 => ?_)
  replace hbd7 : ([b0, b1, b2, b3] : List Int).length ≤ 9223372036854775807 := by first | (rw [List.length_map] at hbd7; exact hbd7) | simp
  refine R.lp (β := Int) [(0, int b0), (1, int b1), (2, int b2), (3, int b3), (16, int (([b0, b1, b2, b3] : List Int).length : Int))] [(960, .obj false 3 1 (([b0, b1, b2, b3] : List Int).map int))] (fun bb S => (15, .own 960 (([b0, b1, b2, b3] : List Int).map int).length) :: (17, int bb) :: S) (fun bb M => M) (fun n bb => 0 ≤ bb ∧ bb + n = (([b0, b1, b2, b3] : List Int).length : Int) ∧ s_Overlap_L1 (([b0, b1, b2, b3] : List Int).drop bb.toNat) bb = some o1) ([b0, b1, b2, b3] : List Int).length (0 : Int) ⟨Int.le_refl _, by simp, h⟩ ?_
  clear h
  rintro JJ7 n7 z8 hag7 ⟨hza7, hzb7, h⟩
  refine Run.sr ?_
  refine X.bi ?_
  refine X.nil ?_
  refine Run.seq ?_
  refine R.cd (fun hc11 => ?_) (fun hc11 => ?_)
  ·obtain ⟨x9, xs10, hd7, hx7, hds7, hlt7⟩ := drop_atI hza7 hc11
   rw [hd7] at h
   rw [s_Overlap_L1] at h
   refine Run.skip ?_
   refine Run.seq ?_
   refine Run.block ?_
   refine Run.sr ?_
   refine X.index_o elt25 (by rfl) (by rfl) (by first | rfl | simp [setL] | omega) (by rfl) (idxL_spec hx7).1 (idxL_map int hx7) (by rfl) (by rfl) (by rfl) ?_
   refine X.lc shp3 ?_
   refine X.an ?_
   refine Run.sr ?_
   refine X.mv ?_
   obtain ⟨v12, hv12, h⟩ := bindE h
   refine X.cp (s_l01In_pc _ _ _ _ hv12) ?_
   refine X.un (by rfl) (by rfl) (by rfl) ?_
   refine X.nil ?_
   refine R.cd (fun hc13 => ?_) (fun hc13 => ?_)
   ·replace h := condT hc13 h
    refine Run.sr ?_
    refine X.an ?_
    cases h
    have h := hup2
    replace h := elimR h
    cases h
    refine R.f1 Tryz.results185 ?_
    rfl
   ·replace h := condF hc13 h
    refine Run.skip ?_
    refine Run.blk ?_
    refine Run.reg ?_
    refine X.ad ?_
    refine X.mn ?_
    exact R.ag hag7 (n7 - 1) (z8 + 1) (R.n3 (by first | (rw [hds7]; exact h) | (dsimp only; rw [hds7]; exact h)))
  ·rw [drop_endI hza7 hc11] at h
   rw [s_Overlap_L1] at h
   refine Run.exit (by rfl) ?_
   exact R.mt hmeet3 () (Option.some.inj h)
 rintro p14 rfl
 replace h := elimL h
 refine Run.seq ?_
 refine Run.sr ?_
 refine X.mv ?_
 refine X.bi ?_
 refine X.nil ?_
 refine R.cd (fun hc16 => ?_) (fun hc16 => ?_)
 ·replace h := condT hc16 h
  refine Run.sr ?_
  refine X.an ?_
  cases h
  refine R.f1 Tryz.results185 ?_
  rfl
 ·replace h := condF hc16 h
  refine Run.skip ?_
  refine Run.sr ?_
  refine X.mv ?_
  refine X.mv ?_
  refine X.addW (by rfl) (by rfl) (by rfl) ?_
  refine X.mv ?_
  obtain ⟨v17, hv17, h⟩ := bindE h
  refine X.cp (s_l02Min_pc _ _ _ hv17) ?_
  refine X.mv ?_
  refine X.mv ?_
  obtain ⟨v18, hv18, h⟩ := bindE h
  refine X.cp (s_l02Max_pc _ _ _ hv18) ?_
  refine X.subW (by rfl) (by rfl) (by rfl) ?_
  obtain ⟨v19, hv19, h⟩ := bindE h
  refine X.cp (s_l02Max_pc _ _ _ hv19) ?_
  refine X.an ?_
  cases h
  refine R.f1 Tryz.results185 ?_
  rfl
theorem s_l15Work_pc (b0 : TProject) (b1 : TDomain) (b2 : Int) (b3 : Int) (b4 : Int) (b5 : Int) (r : Int) (h : s_l15Work b0 b1 b2 b3 b4 b5 = some r) : PC Tryz.prog 144 [eTProject b0, eTDomain b1, int b2, int b3, int b4, int b5] (int r) := by
 unfold s_l15Work at h
 refine PC.start Tryz.func144 Tryz.ntmps144 rfl ok144 rfl ?_
 refine Run.sr ?_
 refine X.bx ?_
 refine X.bx ?_
 refine X.an ?_
 refine Run.sr ?_
 refine X.an ?_
 refine Run.seq ?_
 refine Run.sr ?_
 refine X.fl fld51_2 ?_
 refine X.ld shp45 ?_
 refine X.mv ?_
 obtain ⟨v1, hv1, h⟩ := bindE h
 refine X.ix elt45 (idxL_spec hv1).1 (idxL_map l_int hv1) ?_
 refine X.lc shp25 ?_
 refine X.ls elt25 ?_
 refine X.mn ?_
 obtain ⟨o2, ho2, h⟩ := bindE h
 refine R.join2 (β := Int) [] [] (fun p25 S => (13, int p25) :: S) (fun p25 M => M) (fun p25 => p25 = o2) ?_ ?_
 ·intro JJ5 hmeet4
  have hup3 := h; clear h; have h := ho2; clear ho2
  refine Run.block ?_
  refine R.bndS (t := 22) (by rfl) (fun hbd8 => ?_)
  replace hbd8 : v1.length ≤ 9223372036854775807 := by first | (rw [List.length_map] at hbd8; exact hbd8) | simp
  refine R.lp (β := Int × Int) [(2, int b2), (3, int b3), (4, int b4), (5, int b5), (6, .lptr 384 0), (7, .lptr 448 0), (22, .slice (v1.map int)), (23, int (v1.length : Int))] [(384, .blk true [int b0.Deadline, .slice (b0.Activities.map eTActivity), .slice (b0.Links.map eTLink), .slice (b0.Resources.map eTResource), .slice (b0.Stocks.map int)]), (448, .blk true [.slice (b1.MinStart.map int), .slice (b1.MaxStart.map int), .slice (b1.Modes.map l_int)])] (fun bb S => (13, int bb.2) :: (24, int bb.1) :: S) (fun bb M => M) (fun n bb => 0 ≤ bb.1 ∧ bb.1 + n = (v1.length : Int) ∧ s_l15Work_L1 b0 b1 b2 b3 b4 b5 (v1.drop bb.1.toNat) bb.1 bb.2 = some o2) v1.length (0, (-1)) ⟨Int.le_refl _, by simp, h⟩ ?_
  clear h
  rintro JJ8 n8 ⟨z9, a10⟩ hag8 ⟨hza8, hzb8, h⟩
  dsimp only at hza8 hzb8 h
  refine Run.sr ?_
  refine X.bi ?_
  refine X.nil ?_
  refine Run.seq ?_
  refine R.cd (fun hc13 => ?_) (fun hc13 => ?_)
  ·obtain ⟨x11, xs12, hd8, hx8, hds8, hlt8⟩ := drop_atI hza8 hc13
   rw [hd8] at h
   rw [s_l15Work_L1] at h
   refine Run.skip ?_
   refine Run.seq ?_
   refine Run.block ?_
   refine Run.sr ?_
   refine X.ix elt25 (idxL_spec hx8).1 (idxL_map int hx8) ?_
   refine X.lc shp3 ?_
   refine X.an ?_
   refine Run.sr ?_
   refine X.fl fld36_1 ?_
   refine X.ld shp32 ?_
   refine X.mv ?_
   obtain ⟨v14, hv14, h⟩ := bindE h
   refine X.ix elt32 (idxL_spec hv14).1 (idxL_map eTActivity hv14) ?_
   refine X.fieldAddr_c fld108_2 (by rfl) (by rfl) ?_
   refine X.lc shp106 ?_
   refine X.mv ?_
   obtain ⟨v15, hv15, h⟩ := bindE h
   refine X.ix elt106 (idxL_spec hv15).1 (idxL_map eTMode hv15) ?_
   refine X.lc shp110 ?_
   refine X.alloc zer110 (by rfl) (by rfl) (by rfl) ?_
   refine X.sl shp110 ?_
   refine X.nil ?_
   refine Run.seq ?_
   refine Run.draw (footOf [(1, ([1024], [], [], [])), (6, ([448], [], [], [])), (11, ([1024], [], [], [])), (16, ([448], [], [], [])), (21, ([1024], [], [], []))]) mixed (by kernel_rfl) (by kernel_rfl) ?_
   refine X.fl fld110_1 ?_
   refine X.ld shp25 ?_
   refine X.mv ?_
   obtain ⟨v16, hv16, h⟩ := bindE h
   refine X.ix elt25 (idxL_spec hv16).1 (idxL_map int hv16) ?_
   refine X.lc shp3 ?_
   refine X.fl fld51_0 ?_
   refine X.ld shp25 ?_
   refine X.mv ?_
   obtain ⟨v17, hv17, h⟩ := bindE h
   refine X.ix elt25 (idxL_spec hv17).1 (idxL_map int hv17) ?_
   refine X.lc shp3 ?_
   refine X.fl fld110_0 ?_
   refine X.ld shp3 ?_
   refine X.mv ?_
   refine X.mv ?_
   obtain ⟨v18, hv18, h⟩ := bindE h
   refine X.cp (s_Overlap_pc _ _ _ _ _ hv18) ?_
   refine X.fl fld51_1 ?_
   refine X.ld shp25 ?_
   refine X.mv ?_
   obtain ⟨v19, hv19, h⟩ := bindE h
   refine X.ix elt25 (idxL_spec hv19).1 (idxL_map int hv19) ?_
   refine X.lc shp3 ?_
   refine X.fl fld110_0 ?_
   refine X.ld shp3 ?_
   refine X.mv ?_
   refine X.mv ?_
   obtain ⟨v20, hv20, h⟩ := bindE h
   refine X.cp (s_Overlap_pc _ _ _ _ _ hv20) ?_
   obtain ⟨v21, hv21, h⟩ := bindE h
   refine X.cp (s_l02Min_pc _ _ _ hv21) ?_
   refine X.mulW (by rfl) (by rfl) (by rfl) ?_
   refine X.an ?_
   refine Run.seq ?_
   obtain ⟨e22, he22, h2⟩ := bindE h
   refine R.regG [(2, int b2), (3, int b3), (4, int b4), (5, int b5), (6, .lptr 384 0), (7, .lptr 448 0), (13, int a10), (17, int (W (v16 * v21))), (22, .slice (v1.map int)), (23, int (v1.length : Int)), (24, int z9), (70, bool e22)] [(384, .blk true [int b0.Deadline, .slice (b0.Activities.map eTActivity), .slice (b0.Links.map eTLink), .slice (b0.Resources.map eTResource), .slice (b0.Stocks.map int)]), (448, .blk true [.slice (b1.MinStart.map int), .slice (b1.MaxStart.map int), .slice (b1.Modes.map l_int)])] ?_ ?_
   ·clear h; have h := he22; clear he22 h2
    refine X.mv ?_
    refine X.bi ?_
    refine X.mv ?_
    refine X.iG (fun hb23 => ?_) (fun hb23 => ?_)
    ·replace h := condF hb23 h
     refine X.mv ?_
     refine X.gy ?_
     refine X.mv ?_
     refine X.gy ?_
     refine X.bi ?_
     refine X.pF ?_
     cases h
     exact X.eG
    ·replace h := condT hb23 h
     refine X.gn ?_
     refine X.gn ?_
     refine X.pT ?_
     cases h
     exact X.eG
   replace h := h2; clear h2
   refine R.cd (fun hc24 => ?_) (fun hc24 => ?_)
   ·replace h := condT hc24 h
    refine Run.reg ?_
    refine X.mv ?_
    refine X.an ?_
    refine Run.blk ?_
    refine Run.reg ?_
    refine X.ad ?_
    refine X.mn ?_
    exact R.ag hag8 (n8 - 1) (z9 + 1, (W (v16 * v21))) (R.n3 (by first | (rw [hds8]; exact h) | (dsimp only; rw [hds8]; exact h)))
   ·replace h := condF hc24 h
    refine Run.skip ?_
    refine Run.blk ?_
    refine Run.reg ?_
    refine X.ad ?_
    refine X.mn ?_
    exact R.ag hag8 (n8 - 1) (z9 + 1, a10) (R.n3 (by first | (rw [hds8]; exact h) | (dsimp only; rw [hds8]; exact h)))
  ·rw [drop_endI hza8 hc13] at h
   rw [s_l15Work_L1] at h
   refine Run.exit (by rfl) ?_
   exact R.mt hmeet4 a10 (Option.some.inj h)
 rintro p25 rfl
 refine Run.sr ?_
 refine X.mv ?_
 obtain ⟨v26, hv26, h⟩ := bindE h
 refine X.cp (s_l02Max_pc _ _ _ hv26) ?_
 refine X.an ?_
 cases h
 refine R.f1 Tryz.results144 ?_
 rfl
theorem s_l03Span_pc (b0 : List TStep) (b1 : Int) (b2 : Int) (r : Bool) (h : s_l03Span b0 b1 b2 = some r) : PC Tryz.prog 187 [.slice (b0.map eTStep), int b1, int b2] (bool r) := by
 unfold s_l03Span at h
 refine PC.start Tryz.func187 Tryz.ntmps187 rfl ok187 rfl ?_
 refine Run.sr ?_
 refine X.an ?_
 refine Run.seq ?_
 obtain ⟨v1, hv1, h⟩ := bindE h
 obtain ⟨e2, he2, h2⟩ := bindE h
 refine R.regG [(6, bool e2)] [] ?_ ?_
 ·clear h; have h := he2; clear he2 h2
  refine X.mv ?_
  refine X.cp (s_StepsOk_pc _ _ hv1) ?_
  refine X.mv ?_
  refine X.iG (fun hb3 => ?_) (fun hb3 => ?_)
  ·replace h := condT hb3 h
   refine X.mv ?_
   refine X.gy ?_
   obtain ⟨v4, hv4, h⟩ := bindE h
   refine X.cp (s_l01In_pc _ _ _ _ hv4) ?_
   refine X.pT ?_
   refine X.mv ?_
   refine X.iG (fun hb5 => ?_) (fun hb5 => ?_)
   ·replace h := condT hb5 h
    refine X.mv ?_
    refine X.gy ?_
    obtain ⟨v6, hv6, h⟩ := bindE h
    refine X.cp (s_l01In_pc _ _ _ _ hv6) ?_
    refine X.pT ?_
    refine X.as ?_
    cases h
    exact X.eG
   ·replace h := condF hb5 h
    refine X.gn ?_
    refine X.pF ?_
    refine X.as ?_
    cases h
    exact X.eG
  ·replace h := condF hb3 h
   refine X.gn ?_
   refine X.pF ?_
   refine X.mv ?_
   refine X.gn ?_
   refine X.gn ?_
   refine X.pF ?_
   refine X.as ?_
   cases h
   exact X.eG
 replace h := h2; clear h2
 cases h
 refine R.f1 Tryz.results187 ?_
 rfl
theorem s_TotalCapacity_pc (b0 : List TStep) (b1 : Int) (b2 : Int) (r : Int) (h : s_TotalCapacity b0 b1 b2 = some r) : PC Tryz.prog 145 [.slice (b0.map eTStep), int b1, int b2] (int r) := by
 unfold s_TotalCapacity at h
 refine PC.start Tryz.func145 Tryz.ntmps145 rfl ok145 rfl ?_
 refine Run.sr ?_
 refine X.an ?_
 refine Run.seq ?_
 refine Run.sr ?_
 refine X.mv ?_
 refine X.mv ?_
 refine X.mv ?_
 obtain ⟨v1, hv1, h⟩ := bindE h
 refine X.cp (s_l03Span_pc _ _ _ _ hv1) ?_
 refine X.un (by rfl) (by rfl) (by rfl) ?_
 refine X.nil ?_
 refine R.cd (fun hc2 => ?_) (fun hc2 => ?_)
 ·replace h := condT hc2 h
  refine Run.sr ?_
  refine X.an ?_
  cases h
  refine R.f1 Tryz.results145 ?_
  rfl
 ·replace h := condF hc2 h
  refine Run.skip ?_
  refine Run.sr ?_
  refine X.an ?_
  refine Run.seq ?_
  refine Run.sr ?_
  refine X.mv ?_
  refine X.an ?_
  obtain ⟨o3, ho3, h⟩ := bindE h
  refine R.join2 (β := Int) [] [] (fun p14 S => (7, int p14) :: S) (fun p14 M => M) (fun p14 => p14 = o3) ?_ ?_
  ·intro JJ6 hmeet5
   have hup4 := h; clear h; have h := ho3; clear ho3
   refine Run.block ?_
   refine R.lp (β := Int × Int) [(0, .slice (b0.map eTStep)), (2, int b2)] [] (fun bb S => (7, int bb.1) :: (8, int bb.2) :: S) (fun bb M => M) (fun n bb => s_TotalCapacity_L1 b0 b2 n bb.1 bb.2 = some o3) F0 (0, b1) h ?_
   clear h
   rintro JJ6 n6 ⟨a8, a9⟩ hag6 h
   dsimp only at h
   obtain _ | n6 := n6
   ·exact absurd h (by simp [s_TotalCapacity_L1])
   rw [s_TotalCapacity_L1] at h
   refine Run.seq ?_
   refine Run.sr ?_
   refine X.mv ?_
   refine X.mv ?_
   refine X.bi ?_
   refine X.nil ?_
   refine R.cd (fun hc12 => ?_) (fun hc12 => ?_)
   ·replace h := condT hc12 h
    refine Run.skip ?_
    refine Run.seq ?_
    refine Run.block ?_
    refine Run.reg ?_
    refine X.mv ?_
    refine X.mv ?_
    refine X.mv ?_
    obtain ⟨v13, hv13, h⟩ := bindE h
    refine X.cp (s_l03At_pc _ _ _ hv13) ?_
    refine X.addW (by rfl) (by rfl) (by rfl) ?_
    refine X.an ?_
    refine Run.blk ?_
    refine Run.reg ?_
    refine X.mv ?_
    refine X.addW (by rfl) (by rfl) (by rfl) ?_
    refine X.an ?_
    exact hag6 n6 ((W (a8 + v13)), (W (a9 + 1))) _ _ (by omega) h (by trivial) (by trivial) (by rfl) (by rfl)
   ·replace h := condF hc12 h
    refine Run.exit (by rfl) ?_
    exact R.mt hmeet5 a8 (Option.some.inj h)
  rintro p14 rfl
  refine Run.sr ?_
  refine X.mv ?_
  refine X.an ?_
  cases h
  refine R.f1 Tryz.results145 ?_
  rfl
theorem s_l15Over_pc (b0 : TProject) (b1 : TDomain) (b2 : Int) (b3 : Int) (b4 : Int) (r : Bool) (h : s_l15Over b0 b1 b2 b3 b4 = some r) : PC Tryz.prog 105 [eTProject b0, eTDomain b1, int b2, int b3, int b4] (bool r) := by
 unfold s_l15Over at h
 refine PC.start Tryz.func105 Tryz.ntmps105 rfl ok105 rfl ?_
 refine Run.sr ?_
 refine X.bx ?_
 refine X.bx ?_
 refine X.an ?_
 refine Run.sr ?_
 refine X.an ?_
 refine Run.seq ?_
 refine Run.sr ?_
 refine X.fl fld36_1 ?_
 refine X.ld shp32 ?_
 refine X.ls elt32 ?_
 refine X.mn ?_
 obtain ⟨o1, ho1, h⟩ := bindE h
 refine R.join2 (β := Int) [(2, int b2), (3, int b3), (4, int b4), (5, .lptr 320 0)] [(320, .blk true [int b0.Deadline, .slice (b0.Activities.map eTActivity), .slice (b0.Links.map eTLink), .slice (b0.Resources.map eTResource), .slice (b0.Stocks.map int)])] (fun p14 S => (11, int p14) :: S) (fun p14 M => M) (fun p14 => p14 = o1) ?_ ?_
 ·intro JJ4 hmeet3
  have hup2 := h; clear h; have h := ho1; clear ho1
  refine Run.block ?_
  refine R.bndS (t := 14) (by rfl) (fun hbd7 => ?_)
  replace hbd7 : b0.Activities.length ≤ 9223372036854775807 := by first | (rw [List.length_map] at hbd7; exact hbd7) | simp
  refine R.lp (β := Int × Int) [(2, int b2), (3, int b3), (4, int b4), (5, .lptr 320 0), (6, .lptr 384 0), (15, int (b0.Activities.length : Int))] [(320, .blk true [int b0.Deadline, .slice (b0.Activities.map eTActivity), .slice (b0.Links.map eTLink), .slice (b0.Resources.map eTResource), .slice (b0.Stocks.map int)]), (384, .blk true [.slice (b1.MinStart.map int), .slice (b1.MaxStart.map int), .slice (b1.Modes.map l_int)])] (fun bb S => (11, int bb.2) :: (16, int bb.1) :: S) (fun bb M => M) (fun n bb => 0 ≤ bb.1 ∧ bb.1 + n = (b0.Activities.length : Int) ∧ s_l15Over_L1 b0 b1 b2 b3 b4 (b0.Activities.drop bb.1.toNat) bb.1 bb.2 = some o1) b0.Activities.length (0, 0) ⟨Int.le_refl _, by simp, h⟩ ?_
  clear h
  rintro JJ7 n7 ⟨z8, a9⟩ hag7 ⟨hza7, hzb7, h⟩
  dsimp only at hza7 hzb7 h
  refine Run.sr ?_
  refine X.bi ?_
  refine X.nil ?_
  refine Run.seq ?_
  refine R.cd (fun hc12 => ?_) (fun hc12 => ?_)
  ·obtain ⟨x10, xs11, hd7, hx7, hds7, hlt7⟩ := drop_atI hza7 hc12
   rw [hd7] at h
   rw [s_l15Over_L1] at h
   refine Run.skip ?_
   refine Run.seq ?_
   refine Run.block ?_
   refine Run.sr ?_
   refine X.mv ?_
   refine X.an ?_
   refine Run.reg ?_
   refine X.mv ?_
   refine X.ld shp36 ?_
   refine X.ld shp51 ?_
   refine X.mv ?_
   refine X.mv ?_
   refine X.mv ?_
   refine X.mv ?_
   obtain ⟨v13, hv13, h⟩ := bindE h
   refine X.cp (s_l15Work_pc _ _ _ _ _ _ _ hv13) ?_
   refine X.addW (by rfl) (by rfl) (by rfl) ?_
   refine X.an ?_
   refine Run.blk ?_
   refine Run.reg ?_
   refine X.ad ?_
   refine X.mn ?_
   exact R.ag hag7 (n7 - 1) (z8 + 1, (W (a9 + v13))) (R.n3 (by first | (rw [hds7]; exact h) | (dsimp only; rw [hds7]; exact h)))
  ·rw [drop_endI hza7 hc12] at h
   rw [s_l15Over_L1] at h
   refine Run.exit (by rfl) ?_
   exact R.mt hmeet3 a9 (Option.some.inj h)
 rintro p14 rfl
 refine Run.sr ?_
 refine X.mv ?_
 refine X.fl fld36_3 ?_
 refine X.ld shp34 ?_
 refine X.mv ?_
 obtain ⟨v15, hv15, h⟩ := bindE h
 refine X.ix elt34 (idxL_spec hv15).1 (idxL_map eTResource hv15) ?_
 refine X.fieldAddr_c fld86_0 (by rfl) (by rfl) ?_
 refine X.lc shp84 ?_
 refine X.mv ?_
 refine X.mv ?_
 obtain ⟨v16, hv16, h⟩ := bindE h
 refine X.cp (s_TotalCapacity_pc _ _ _ _ hv16) ?_
 refine X.bi ?_
 refine X.an ?_
 cases h
 refine R.f1 Tryz.results105 ?_
 rfl
theorem s_l16After_pc (b0 : TProject) (b1 : TDomain) (b2 : Int) (b3 : Int) (b4 : Int) (r : Int) (h : s_l16After b0 b1 b2 b3 b4 = some r) : PC Tryz.prog 146 [eTProject b0, eTDomain b1, int b2, int b3, int b4] (int r) := by
 unfold s_l16After at h
 refine PC.start Tryz.func146 Tryz.ntmps146 rfl ok146 rfl ?_
 refine Run.sr ?_
 refine X.bx ?_
 refine X.bx ?_
 refine X.an ?_
 refine Run.seq ?_
 refine Run.draw (footOf [(1, ([384], [], [], [])), (5, ([320], [], [], [])), (6, ([384], [], [], [])), (11, ([320], [], [], [])), (17, ([320], [], [], [])), (25, ([320], [], [], []))]) mixed (by kernel_rfl) (by kernel_rfl) ?_
 refine X.fl fld51_0 ?_
 refine X.ld shp25 ?_
 refine X.mv ?_
 obtain ⟨v1, hv1, h⟩ := bindE h
 refine X.ix elt25 (idxL_spec hv1).1 (idxL_map int hv1) ?_
 refine X.lc shp3 ?_
 refine X.ld shp36 ?_
 refine X.ld shp51 ?_
 refine X.mv ?_
 obtain ⟨v2, hv2, h⟩ := bindE h
 refine X.cp (s_l14Short_pc _ _ _ _ hv2) ?_
 refine X.addW (by rfl) (by rfl) (by rfl) ?_
 refine X.fl fld36_3 ?_
 refine X.ld shp34 ?_
 refine X.mv ?_
 obtain ⟨v3, hv3, h⟩ := bindE h
 refine X.ix elt34 (idxL_spec hv3).1 (idxL_map eTResource hv3) ?_
 refine X.fieldAddr_c fld86_1 (by rfl) (by rfl) ?_
 refine X.lc shp45 ?_
 refine X.fl fld36_1 ?_
 refine X.ld shp32 ?_
 refine X.mv ?_
 obtain ⟨v4, hv4, h⟩ := bindE h
 refine X.ix elt32 (idxL_spec hv4).1 (idxL_map eTActivity hv4) ?_
 refine X.fieldAddr_c fld108_1 (by rfl) (by rfl) ?_
 refine X.lc shp3 ?_
 obtain ⟨v5, hv5, h⟩ := bindE h
 refine X.ix elt45 (idxL_spec hv5).1 (idxL_map l_int hv5) ?_
 refine X.lc shp25 ?_
 refine X.fl fld36_1 ?_
 refine X.ld shp32 ?_
 refine X.mv ?_
 obtain ⟨v6, hv6, h⟩ := bindE h
 refine X.ix elt32 (idxL_spec hv6).1 (idxL_map eTActivity hv6) ?_
 refine X.fieldAddr_c fld108_1 (by rfl) (by rfl) ?_
 refine X.lc shp3 ?_
 obtain ⟨v7, hv7, h⟩ := bindE h
 refine X.ix elt25 (idxL_spec hv7).1 (idxL_map int hv7) ?_
 refine X.lc shp3 ?_
 refine X.addW (by rfl) (by rfl) (by rfl) ?_
 refine X.an ?_
 cases h
 refine R.f1 Tryz.results146 ?_
 rfl
theorem s_l16Jam_pc (b0 : TProject) (b1 : TDomain) (b2 : Int) (b3 : Int) (b4 : Int) (r : Bool) (h : s_l16Jam b0 b1 b2 b3 b4 = some r) : PC Tryz.prog 106 [eTProject b0, eTDomain b1, int b2, int b3, int b4] (bool r) := by
 unfold s_l16Jam at h
 refine PC.start Tryz.func106 Tryz.ntmps106 rfl ok106 rfl ?_
 refine Run.sr ?_
 refine X.bx ?_
 refine X.bx ?_
 refine X.an ?_
 refine Run.seq ?_
 obtain ⟨v1, hv1, h⟩ := bindE h
 obtain ⟨e2, he2, h2⟩ := bindE h
 refine R.regG [(2, int b2), (3, int b3), (4, int b4), (5, .lptr 320 0), (6, .lptr 384 0), (11, bool e2)] [(320, .blk true [int b0.Deadline, .slice (b0.Activities.map eTActivity), .slice (b0.Links.map eTLink), .slice (b0.Resources.map eTResource), .slice (b0.Stocks.map int)]), (384, .blk true [.slice (b1.MinStart.map int), .slice (b1.MaxStart.map int), .slice (b1.Modes.map l_int)])] ?_ ?_
 ·clear h; have h := he2; clear he2 h2
  refine X.ld shp36 ?_
  refine X.ld shp51 ?_
  refine X.mv ?_
  refine X.mv ?_
  refine X.cp (s_l14Need_pc _ _ _ _ _ hv1) ?_
  refine X.bi ?_
  refine X.mv ?_
  refine X.iG (fun hb3 => ?_) (fun hb3 => ?_)
  ·replace h := condT hb3 h
   refine X.ld shp36 ?_
   refine X.gy ?_
   refine X.ld shp51 ?_
   refine X.gy ?_
   refine X.mv ?_
   refine X.gy ?_
   refine X.mv ?_
   refine X.gy ?_
   obtain ⟨v4, hv4, h⟩ := bindE h
   refine X.cp (s_l14Need_pc _ _ _ _ _ hv4) ?_
   refine X.gy ?_
   refine X.bi ?_
   refine X.pT ?_
   refine X.as ?_
   cases h
   exact X.eG
  ·replace h := condF hb3 h
   refine X.gn ?_
   refine X.gn ?_
   refine X.gn ?_
   refine X.gn ?_
   refine X.gn ?_
   refine X.pF ?_
   refine X.as ?_
   cases h
   exact X.eG
 replace h := h2; clear h2
 refine Run.seq ?_
 obtain ⟨e5, he5, h2⟩ := bindE h
 refine R.drawG [(10, bool e5)] [] (footOf [(2, ([320], [], [], [])), (3, ([384], [], [], [])), (9, ([384], [], [], [])), (16, ([320], [], [], [])), (17, ([384], [], [], [])), (23, ([384], [], [], []))]) mixed (by kernel_rfl) (by kernel_rfl) ?_ ?_
 ·clear h; have h := he5; clear he5 h2
  refine X.mv ?_
  refine X.mv ?_
  refine X.iG (fun hb6 => ?_) (fun hb6 => ?_)
  ·replace h := condT hb6 h
   refine X.ld shp36 ?_
   refine X.gy ?_
   refine X.ld shp51 ?_
   refine X.gy ?_
   refine X.mv ?_
   refine X.gy ?_
   refine X.mv ?_
   refine X.gy ?_
   refine X.mv ?_
   refine X.gy ?_
   obtain ⟨v7, hv7, h⟩ := bindE h
   refine X.cp (s_l16After_pc _ _ _ _ _ _ hv7) ?_
   refine X.gy ?_
   refine X.fl fld51_1 ?_
   refine X.gy ?_
   refine X.ld shp25 ?_
   refine X.gy ?_
   refine X.mv ?_
   refine X.gy ?_
   obtain ⟨v8, hv8, h⟩ := bindE h
   refine X.ix elt25 (idxL_spec hv8).1 (idxL_map int hv8) ?_
   refine X.gy ?_
   refine X.lc shp3 ?_
   refine X.gy ?_
   refine X.bi ?_
   refine X.pT ?_
   refine X.mv ?_
   refine X.iG (fun hb9 => ?_) (fun hb9 => ?_)
   ·replace h := condT hb9 h
    refine X.ld shp36 ?_
    refine X.gy ?_
    refine X.ld shp51 ?_
    refine X.gy ?_
    refine X.mv ?_
    refine X.gy ?_
    refine X.mv ?_
    refine X.gy ?_
    refine X.mv ?_
    refine X.gy ?_
    obtain ⟨v10, hv10, h⟩ := bindE h
    refine X.cp (s_l16After_pc _ _ _ _ _ _ hv10) ?_
    refine X.gy ?_
    refine X.fl fld51_1 ?_
    refine X.gy ?_
    refine X.ld shp25 ?_
    refine X.gy ?_
    refine X.mv ?_
    refine X.gy ?_
    obtain ⟨v11, hv11, h⟩ := bindE h
    refine X.ix elt25 (idxL_spec hv11).1 (idxL_map int hv11) ?_
    refine X.gy ?_
    refine X.lc shp3 ?_
    refine X.gy ?_
    refine X.bi ?_
    refine X.pT ?_
    refine X.as ?_
    cases h
    exact X.eG
   ·replace h := condF hb9 h
    refine X.gn ?_
    refine X.gn ?_
    refine X.gn ?_
    refine X.gn ?_
    refine X.gn ?_
    refine X.gn ?_
    refine X.gn ?_
    refine X.gn ?_
    refine X.gn ?_
    refine X.gn ?_
    refine X.gn ?_
    refine X.pF ?_
    refine X.as ?_
    cases h
    exact X.eG
  ·replace h := condF hb6 h
   refine X.gn ?_
   refine X.gn ?_
   refine X.gn ?_
   refine X.gn ?_
   refine X.gn ?_
   refine X.gn ?_
   refine X.gn ?_
   refine X.gn ?_
   refine X.gn ?_
   refine X.gn ?_
   refine X.gn ?_
   refine X.pF ?_
   refine X.mv ?_
   refine X.gn ?_
   refine X.gn ?_
   refine X.gn ?_
   refine X.gn ?_
   refine X.gn ?_
   refine X.gn ?_
   refine X.gn ?_
   refine X.gn ?_
   refine X.gn ?_
   refine X.gn ?_
   refine X.gn ?_
   refine X.gn ?_
   refine X.pF ?_
   refine X.as ?_
   cases h
   exact X.eG
 replace h := h2; clear h2
 cases h
 refine R.f1 Tryz.results106 ?_
 rfl
theorem s_MinConsumption_pc (b0 : TActivity) (b1 : List Int) (b2 : Int) (r : Int) (h : s_MinConsumption b0 b1 b2 = some r) : PC Tryz.prog 147 [eTActivity b0, .slice (b1.map int), int b2] (int r) := by
 unfold s_MinConsumption at h
 refine PC.start Tryz.func147 Tryz.ntmps147 rfl ok147 rfl ?_
 refine Run.sr ?_
 refine X.bx ?_
 refine X.an ?_
 refine Run.sr ?_
 refine X.ld shp108 ?_
 refine X.mv ?_
 refine X.mv ?_
 obtain ⟨v1, hv1, h⟩ := bindE h
 refine X.cp (s_l04Least_pc _ _ _ _ _ _ hv1) ?_
 refine X.an ?_
 cases h
 refine R.f1 Tryz.results147 ?_
 rfl
theorem s_l17Stock_pc (b0 : TProject) (b1 : TDomain) (b2 : Int) (r : Bool) (h : s_l17Stock b0 b1 b2 = some r) : PC Tryz.prog 107 [eTProject b0, eTDomain b1, int b2] (bool r) := by
 unfold s_l17Stock at h
 refine PC.start Tryz.func107 Tryz.ntmps107 rfl ok107 rfl ?_
 refine Run.sr ?_
 refine X.bx ?_
 refine X.bx ?_
 refine X.an ?_
 refine Run.sr ?_
 refine X.an ?_
 refine Run.seq ?_
 refine Run.sr ?_
 refine X.fl fld36_1 ?_
 refine X.ld shp32 ?_
 refine X.ls elt32 ?_
 refine X.mn ?_
 obtain ⟨o1, ho1, h⟩ := bindE h
 refine R.join2 (β := Int) [(2, int b2), (3, .lptr 192 0)] [(192, .blk true [int b0.Deadline, .slice (b0.Activities.map eTActivity), .slice (b0.Links.map eTLink), .slice (b0.Resources.map eTResource), .slice (b0.Stocks.map int)])] (fun p15 S => (7, int p15) :: S) (fun p15 M => M) (fun p15 => p15 = o1) ?_ ?_
 ·intro JJ4 hmeet3
  have hup2 := h; clear h; have h := ho1; clear ho1
  refine Run.block ?_
  refine R.bndS (t := 10) (by rfl) (fun hbd7 => ?_)
  replace hbd7 : b0.Activities.length ≤ 9223372036854775807 := by first | (rw [List.length_map] at hbd7; exact hbd7) | simp
  refine R.lp (β := Int × Int) [(2, int b2), (3, .lptr 192 0), (4, .lptr 256 0), (11, int (b0.Activities.length : Int))] [(192, .blk true [int b0.Deadline, .slice (b0.Activities.map eTActivity), .slice (b0.Links.map eTLink), .slice (b0.Resources.map eTResource), .slice (b0.Stocks.map int)]), (256, .blk true [.slice (b1.MinStart.map int), .slice (b1.MaxStart.map int), .slice (b1.Modes.map l_int)])] (fun bb S => (7, int bb.2) :: (12, int bb.1) :: S) (fun bb M => M) (fun n bb => 0 ≤ bb.1 ∧ bb.1 + n = (b0.Activities.length : Int) ∧ s_l17Stock_L1 b1 b2 (b0.Activities.drop bb.1.toNat) bb.1 bb.2 = some o1) b0.Activities.length (0, 0) ⟨Int.le_refl _, by simp, h⟩ ?_
  clear h
  rintro JJ7 n7 ⟨z8, a9⟩ hag7 ⟨hza7, hzb7, h⟩
  dsimp only at hza7 hzb7 h
  refine Run.sr ?_
  refine X.bi ?_
  refine X.nil ?_
  refine Run.seq ?_
  refine R.cd (fun hc12 => ?_) (fun hc12 => ?_)
  ·obtain ⟨x10, xs11, hd7, hx7, hds7, hlt7⟩ := drop_atI hza7 hc12
   rw [hd7] at h
   rw [s_l17Stock_L1] at h
   refine Run.skip ?_
   refine Run.seq ?_
   refine Run.block ?_
   refine Run.sr ?_
   refine X.mv ?_
   refine X.an ?_
   refine Run.draw (footOf [(2, ([192], [], [], [])), (7, ([256], [], [], []))]) mixed (by kernel_rfl) (by kernel_rfl) ?_
   refine X.mv ?_
   refine X.fl fld36_1 ?_
   refine X.ld shp32 ?_
   refine X.mv ?_
   refine X.ix elt32 (idxL_spec hx7).1 (idxL_map eTActivity hx7) ?_
   refine X.lc shp108 ?_
   refine X.fl fld51_2 ?_
   refine X.ld shp45 ?_
   refine X.mv ?_
   obtain ⟨v13, hv13, h⟩ := bindE h
   refine X.ix elt45 (idxL_spec hv13).1 (idxL_map l_int hv13) ?_
   refine X.lc shp25 ?_
   refine X.mv ?_
   obtain ⟨v14, hv14, h⟩ := bindE h
   refine X.cp (s_MinConsumption_pc _ _ _ _ hv14) ?_
   refine X.addW (by rfl) (by rfl) (by rfl) ?_
   refine X.an ?_
   refine Run.blk ?_
   refine Run.reg ?_
   refine X.ad ?_
   refine X.mn ?_
   exact R.ag hag7 (n7 - 1) (z8 + 1, (W (a9 + v14))) (R.n3 (by first | (rw [hds7]; exact h) | (dsimp only; rw [hds7]; exact h)))
  ·rw [drop_endI hza7 hc12] at h
   rw [s_l17Stock_L1] at h
   refine Run.exit (by rfl) ?_
   exact R.mt hmeet3 a9 (Option.some.inj h)
 rintro p15 rfl
 refine Run.sr ?_
 refine X.mv ?_
 refine X.fl fld36_4 ?_
 refine X.ld shp25 ?_
 refine X.mv ?_
 obtain ⟨v16, hv16, h⟩ := bindE h
 refine X.ix elt25 (idxL_spec hv16).1 (idxL_map int hv16) ?_
 refine X.lc shp3 ?_
 refine X.bi ?_
 refine X.an ?_
 cases h
 refine R.f1 Tryz.results107 ?_
 rfl
theorem s_l17Refutes_pc (b0 : TProject) (b1 : TDomain) (b2 : TRule) (r : Bool) (h : s_l17Refutes b0 b1 b2 = some r) : PC Tryz.prog 66 [eTProject b0, eTDomain b1, eTRule b2] (bool r) := by
 unfold s_l17Refutes at h
 refine PC.start Tryz.func66 Tryz.ntmps66 rfl ok66 rfl ?_
 refine Run.sr ?_
 refine X.bx ?_
 refine X.bx ?_
 refine X.bx ?_
 refine X.an ?_
 refine Run.seq ?_
 refine Run.sr ?_
 refine X.fl fld38_0 ?_
 refine X.ld shp3 ?_
 refine X.nil ?_
 refine Run.block ?_
 refine Run.sr ?_
 refine X.bi ?_
 refine X.an ?_
 refine R.cd (fun hc1 => ?_) (fun hc1 => ?_)
 ·replace h := condT hc1 h
  refine Run.sr ?_
  refine X.fl fld36_2 ?_
  refine X.ld shp33 ?_
  refine X.fl fld38_1 ?_
  refine X.ld shp3 ?_
  obtain ⟨v2, hv2, h⟩ := bindE h
  refine X.ix elt33 (idxL_spec hv2).1 (idxL_map eTLink hv2) ?_
  refine X.lc shp68 ?_
  refine X.alloc zer68 (by rfl) (by rfl) (by rfl) ?_
  refine X.sl shp68 ?_
  refine X.nil ?_
  refine Run.seq ?_
  refine Run.draw (footOf [(1, ([256], [], [], [])), (3, ([448], [], [], [])), (7, ([448], [], [], []))]) mixed (by kernel_rfl) (by kernel_rfl) ?_
  refine X.fl fld51_0 ?_
  refine X.ld shp25 ?_
  refine X.fl fld68_0 ?_
  refine X.ld shp3 ?_
  obtain ⟨v3, hv3, h⟩ := bindE h
  refine X.ix elt25 (idxL_spec hv3).1 (idxL_map int hv3) ?_
  refine X.lc shp3 ?_
  refine X.fl fld68_3 ?_
  refine X.ld shp3 ?_
  refine X.addW (by rfl) (by rfl) (by rfl) ?_
  refine X.an ?_
  refine Run.seq ?_
  refine Run.sr ?_
  refine X.fl fld68_2 ?_
  refine X.ld shp4 ?_
  refine X.nil ?_
  obtain ⟨o4, ho4, h⟩ := bindE h
  refine R.join2 (β := Int) [(4, .lptr 256 0), (7, .lptr 448 0)] [(256, .blk true [.slice (b1.MinStart.map int), .slice (b1.MaxStart.map int), .slice (b1.Modes.map l_int)]), (448, .blk true [int v2.From, int v2.To, bool v2.FromEnd, int v2.Lag])] (fun p10 S => (8, int p10) :: S) (fun p10 M => M) (fun p10 => p10 = o4) ?_ ?_
  ·intro JJ7 hmeet6
   have hup5 := h; clear h; have h := ho4; clear ho4
   refine R.cd (fun hc8 => ?_) (fun hc8 => ?_)
   ·replace h := condT hc8 h
    refine Run.reg ?_
    refine X.mv ?_
    refine X.ld shp36 ?_
    refine X.ld shp51 ?_
    refine X.fl fld68_0 ?_
    refine X.ld shp3 ?_
    obtain ⟨v9, hv9, h⟩ := bindE h
    refine X.cp (s_l14Short_pc _ _ _ _ hv9) ?_
    refine X.addW (by rfl) (by rfl) (by rfl) ?_
    refine X.an ?_
    exact R.mt hmeet6 (W ((W (v3 + v2.Lag)) + v9)) (Option.some.inj h)
   ·replace h := condF hc8 h
    refine Run.skip ?_
    exact R.mt hmeet6 (W (v3 + v2.Lag)) (Option.some.inj h)
  rintro p10 rfl
  refine Run.sr ?_
  refine X.mv ?_
  refine X.fl fld51_1 ?_
  refine X.ld shp25 ?_
  refine X.fl fld68_1 ?_
  refine X.ld shp3 ?_
  obtain ⟨v11, hv11, h⟩ := bindE h
  refine X.ix elt25 (idxL_spec hv11).1 (idxL_map int hv11) ?_
  refine X.lc shp3 ?_
  refine X.bi ?_
  refine X.an ?_
  cases h
  refine R.f1 Tryz.results66 ?_
  rfl
 ·replace h := condF hc1 h
  refine Run.sr ?_
  refine X.bi ?_
  refine X.an ?_
  refine R.cd (fun hc12 => ?_) (fun hc12 => ?_)
  ·replace h := condT hc12 h
   refine Run.seq ?_
   refine Run.draw (footOf [(1, ([256], [], [], [])), (3, ([320], [], [], [])), (6, ([192], [], [], [])), (7, ([256], [], [], [])), (9, ([320], [], [], [])), (13, ([192], [], [], []))]) mixed (by kernel_rfl) (by kernel_rfl) ?_
   refine X.fl fld51_0 ?_
   refine X.ld shp25 ?_
   refine X.fl fld38_1 ?_
   refine X.ld shp3 ?_
   obtain ⟨v13, hv13, h⟩ := bindE h
   refine X.ix elt25 (idxL_spec hv13).1 (idxL_map int hv13) ?_
   refine X.lc shp3 ?_
   refine X.ld shp36 ?_
   refine X.ld shp51 ?_
   refine X.fl fld38_1 ?_
   refine X.ld shp3 ?_
   obtain ⟨v14, hv14, h⟩ := bindE h
   refine X.cp (s_l14Short_pc _ _ _ _ hv14) ?_
   refine X.addW (by rfl) (by rfl) (by rfl) ?_
   refine X.fl fld36_0 ?_
   refine X.ld shp3 ?_
   refine X.bi ?_
   refine X.an ?_
   cases h
   refine R.f1 Tryz.results66 ?_
   rfl
  ·replace h := condF hc12 h
   refine Run.sr ?_
   refine X.bi ?_
   refine X.an ?_
   refine R.cd (fun hc15 => ?_) (fun hc15 => ?_)
   ·replace h := condT hc15 h
    refine Run.seq ?_
    refine Run.draw (footOf [(0, ([192], [], [], [])), (1, ([256], [], [], [])), (3, ([320], [], [], [])), (5, ([320], [], [], [])), (8, ([192], [], [], [])), (10, ([320], [], [], [])), (15, ([320], [], [], []))]) mixed (by kernel_rfl) (by kernel_rfl) ?_
    refine X.ld shp36 ?_
    refine X.ld shp51 ?_
    refine X.fl fld38_1 ?_
    refine X.ld shp3 ?_
    refine X.fl fld38_2 ?_
    refine X.ld shp3 ?_
    obtain ⟨v16, hv16, h⟩ := bindE h
    refine X.cp (s_l14Use_pc _ _ _ _ _ hv16) ?_
    refine X.fl fld36_3 ?_
    refine X.ld shp34 ?_
    refine X.fl fld38_1 ?_
    refine X.ld shp3 ?_
    obtain ⟨v17, hv17, h⟩ := bindE h
    refine X.ix elt34 (idxL_spec hv17).1 (idxL_map eTResource hv17) ?_
    refine X.fieldAddr_c fld86_0 (by rfl) (by rfl) ?_
    refine X.lc shp84 ?_
    refine X.fl fld38_2 ?_
    refine X.ld shp3 ?_
    obtain ⟨v18, hv18, h⟩ := bindE h
    refine X.cp (s_l03At_pc _ _ _ hv18) ?_
    refine X.bi ?_
    refine X.an ?_
    cases h
    refine R.f1 Tryz.results66 ?_
    rfl
   ·replace h := condF hc15 h
    refine Run.sr ?_
    refine X.bi ?_
    refine X.an ?_
    refine R.cd (fun hc19 => ?_) (fun hc19 => ?_)
    ·replace h := condT hc19 h
     refine Run.sr ?_
     refine X.ld shp36 ?_
     refine X.ld shp51 ?_
     refine X.fl fld38_1 ?_
     refine X.ld shp3 ?_
     refine X.fl fld38_2 ?_
     refine X.ld shp3 ?_
     refine X.fl fld38_3 ?_
     refine X.ld shp3 ?_
     obtain ⟨v20, hv20, h⟩ := bindE h
     refine X.cp (s_l15Over_pc _ _ _ _ _ _ hv20) ?_
     refine X.an ?_
     cases h
     refine R.f1 Tryz.results66 ?_
     rfl
    ·replace h := condF hc19 h
     refine Run.sr ?_
     refine X.bi ?_
     refine X.an ?_
     refine R.cd (fun hc21 => ?_) (fun hc21 => ?_)
     ·replace h := condT hc21 h
      refine Run.sr ?_
      refine X.ld shp36 ?_
      refine X.ld shp51 ?_
      refine X.fl fld38_1 ?_
      refine X.ld shp3 ?_
      refine X.fl fld38_2 ?_
      refine X.ld shp3 ?_
      refine X.fl fld38_3 ?_
      refine X.ld shp3 ?_
      obtain ⟨v22, hv22, h⟩ := bindE h
      refine X.cp (s_l16Jam_pc _ _ _ _ _ _ hv22) ?_
      refine X.an ?_
      cases h
      refine R.f1 Tryz.results66 ?_
      rfl
     ·replace h := condF hc21 h
      refine Run.skip ?_
      refine Run.blk ?_
      refine Run.sr ?_
      refine X.ld shp36 ?_
      refine X.ld shp51 ?_
      refine X.fl fld38_1 ?_
      refine X.ld shp3 ?_
      obtain ⟨v23, hv23, h⟩ := bindE h
      refine X.cp (s_l17Stock_pc _ _ _ _ hv23) ?_
      refine X.an ?_
      cases h
      refine R.f1 Tryz.results66 ?_
      rfl
theorem i_MinDuration_pc (b0 : TActivity) (b1 : List Int) (r : Int) (h : i_MinDuration b0 b1 = some r) : PC Tryz.prog 150 [eTActivity b0, .slice (b1.map int)] (int r) := by
 unfold i_MinDuration at h
 refine PC.start Tryz.func150 Tryz.ntmps150 rfl ok150 rfl ?_
 refine Run.sr ?_
 refine X.bx ?_
 refine X.an ?_
 refine Run.sr ?_
 refine X.an ?_
 refine Run.seq ?_
 refine Run.sr ?_
 refine X.ld shp108 ?_
 refine X.mv ?_
 obtain ⟨v1, hv1, h⟩ := bindE h
 refine X.callF (i_chosen_pc _ _ _ hv1) (by rfl) (by rfl) (by rfl) (by trivial) (by rfl) (by rfl) (by rfl) (by rfl) ?_
 refine X.len_o elt106 (by rfl) (by rfl) (by first | rfl | simp [setL] | omega) (by first | exact List.length_map .. | rfl) (by rfl) (by rfl) ?_
 refine X.mn ?_
 obtain ⟨o2, ho2, h⟩ := bindE h
 refine R.join2 (β := Int) [] [] (fun p17 S => (5, int p17) :: S) (fun p17 M => M) (fun p17 => p17 = o2) ?_ ?_
 ·intro JJ5 hmeet4
  have hup3 := h; clear h; have h := ho2; clear ho2
  refine Run.block ?_
  refine R.bndO (n := 640) (by rfl) (fun hbd8 => ?_)
  replace hbd8 : v1.length ≤ 9223372036854775807 := by first | (rw [List.length_map] at hbd8; exact hbd8) | simp
  refine R.lp (β := Int × Int) [(11, int (v1.length : Int))] [(640, .obj false 110 3 (v1.map eTMode))] (fun bb S => (5, int bb.2) :: (10, .own 640 (v1.map eTMode).length) :: (12, int bb.1) :: S) (fun bb M => M) (fun n bb => 0 ≤ bb.1 ∧ bb.1 + n = (v1.length : Int) ∧ i_MinDuration_L1 (v1.drop bb.1.toNat) bb.1 bb.2 = some o2) v1.length (0, 0) ⟨Int.le_refl _, by simp, h⟩ ?_
  clear h
  rintro JJ8 n8 ⟨z9, a10⟩ hag8 ⟨hza8, hzb8, h⟩
  dsimp only at hza8 hzb8 h
  refine Run.sr ?_
  refine X.bi ?_
  refine X.nil ?_
  refine Run.seq ?_
  refine R.cd (fun hc13 => ?_) (fun hc13 => ?_)
  ·obtain ⟨x11, xs12, hd8, hx8, hds8, hlt8⟩ := drop_atI hza8 hc13
   rw [hd8] at h
   rw [i_MinDuration_L1] at h
   refine Run.skip ?_
   refine Run.seq ?_
   refine Run.block ?_
   refine Run.sr ?_
   refine X.mv ?_
   refine X.index_o elt106 (by rfl) (by rfl) (by first | rfl | simp [setL] | omega) (by rfl) (idxL_spec hx8).1 (idxL_map eTMode hx8) (by rfl) (by rfl) (by rfl) ?_
   refine X.lc shp110 ?_
   refine X.alloc zer110 (by rfl) (by rfl) (by rfl) ?_
   refine X.as ?_
   refine X.sl shp110 ?_
   refine X.nil ?_
   refine Run.seq ?_
   obtain ⟨e14, he14, h2⟩ := bindE h
   refine R.regG [(5, int a10), (7, .lptr 448 0), (10, .own 640 (v1.map eTMode).length), (11, int (v1.length : Int)), (12, int z9), (24, bool e14)] [(448, .blk true [int x11.Duration, .slice (x11.Usage.map int), .slice (x11.Consumption.map int)]), (640, .obj false 110 3 (v1.map eTMode))] ?_ ?_
   ·clear h; have h := he14; clear he14 h2
    refine X.mv ?_
    refine X.bi ?_
    refine X.mv ?_
    refine X.iG (fun hb15 => ?_) (fun hb15 => ?_)
    ·replace h := condF hb15 h
     refine X.fl fld110_0 ?_
     refine X.gy ?_
     refine X.ld shp3 ?_
     refine X.gy ?_
     refine X.mv ?_
     refine X.gy ?_
     refine X.bi ?_
     refine X.pF ?_
     cases h
     exact X.eG
    ·replace h := condT hb15 h
     refine X.gn ?_
     refine X.gn ?_
     refine X.gn ?_
     refine X.pT ?_
     cases h
     exact X.eG
   replace h := h2; clear h2
   refine R.cd (fun hc16 => ?_) (fun hc16 => ?_)
   ·replace h := condT hc16 h
    refine Run.reg ?_
    refine X.fl fld110_0 ?_
    refine X.ld shp3 ?_
    refine X.an ?_
    refine Run.blk ?_
    refine Run.reg ?_
    refine X.ad ?_
    refine X.mn ?_
    exact R.ag hag8 (n8 - 1) (z9 + 1, x11.Duration) (R.n3 (by first | (rw [hds8]; exact h) | (dsimp only; rw [hds8]; exact h)))
   ·replace h := condF hc16 h
    refine Run.skip ?_
    refine Run.blk ?_
    refine Run.reg ?_
    refine X.ad ?_
    refine X.mn ?_
    exact R.ag hag8 (n8 - 1) (z9 + 1, a10) (R.n3 (by first | (rw [hds8]; exact h) | (dsimp only; rw [hds8]; exact h)))
  ·rw [drop_endI hza8 hc13] at h
   rw [i_MinDuration_L1] at h
   refine Run.exit (by rfl) ?_
   exact R.mt hmeet4 a10 (Option.some.inj h)
 rintro p17 rfl
 refine Run.sr ?_
 refine X.mv ?_
 refine X.an ?_
 cases h
 refine R.f1 Tryz.results150 ?_
 rfl
theorem i_Project_duration_pc (b0 : TProject) (b1 : TDomain) (b2 : Int) (r : Int) (h : i_Project_duration b0 b1 b2 = some r) : PC Tryz.prog 115 [eTProject b0, eTDomain b1, int b2] (int r) := by
 unfold i_Project_duration at h
 refine PC.start Tryz.func115 Tryz.ntmps115 rfl ok115 rfl ?_
 refine Run.sr ?_
 refine X.bx ?_
 refine X.bx ?_
 refine X.an ?_
 refine Run.seq ?_
 refine Run.draw (footOf [(1, ([192], [], [], [])), (6, ([256], [], [], []))]) mixed (by kernel_rfl) (by kernel_rfl) ?_
 refine X.fl fld36_1 ?_
 refine X.ld shp32 ?_
 refine X.mv ?_
 obtain ⟨v1, hv1, h⟩ := bindE h
 refine X.ix elt32 (idxL_spec hv1).1 (idxL_map eTActivity hv1) ?_
 refine X.lc shp108 ?_
 refine X.fl fld51_2 ?_
 refine X.ld shp45 ?_
 refine X.mv ?_
 obtain ⟨v2, hv2, h⟩ := bindE h
 refine X.ix elt45 (idxL_spec hv2).1 (idxL_map l_int hv2) ?_
 refine X.lc shp25 ?_
 obtain ⟨v3, hv3, h⟩ := bindE h
 refine X.cp (i_MinDuration_pc _ _ _ hv3) ?_
 refine X.an ?_
 cases h
 refine R.f1 Tryz.results115 ?_
 rfl
theorem i_Project_refutesLink_pc (b0 : TProject) (b1 : TDomain) (b2 : TLink) (r : Bool) (h : i_Project_refutesLink b0 b1 b2 = some r) : PC Tryz.prog 114 [eTProject b0, eTDomain b1, eTLink b2] (bool r) := by
 unfold i_Project_refutesLink at h
 refine PC.start Tryz.func114 Tryz.ntmps114 rfl ok114 rfl ?_
 refine Run.sr ?_
 refine X.bx ?_
 refine X.bx ?_
 refine X.bx ?_
 refine X.an ?_
 refine Run.sr ?_
 refine X.fl fld51_0 ?_
 refine X.ld shp25 ?_
 refine X.fl fld68_0 ?_
 refine X.ld shp3 ?_
 obtain ⟨v1, hv1, h⟩ := bindE h
 refine X.ix elt25 (idxL_spec hv1).1 (idxL_map int hv1) ?_
 refine X.lc shp3 ?_
 refine X.an ?_
 refine Run.seq ?_
 refine Run.sr ?_
 refine X.fl fld68_2 ?_
 refine X.ld shp4 ?_
 refine X.nil ?_
 obtain ⟨o2, ho2, h⟩ := bindE h
 refine R.join2 (β := Int) [(4, .lptr 256 0), (5, .lptr 320 0)] [(256, .blk true [.slice (b1.MinStart.map int), .slice (b1.MaxStart.map int), .slice (b1.Modes.map l_int)]), (320, .blk true [int b2.From, int b2.To, bool b2.FromEnd, int b2.Lag])] (fun p8 S => (7, int p8) :: S) (fun p8 M => M) (fun p8 => p8 = o2) ?_ ?_
 ·intro JJ5 hmeet4
  have hup3 := h; clear h; have h := ho2; clear ho2
  refine R.cd (fun hc6 => ?_) (fun hc6 => ?_)
  ·replace h := condT hc6 h
   refine Run.reg ?_
   refine X.mv ?_
   refine X.ld shp36 ?_
   refine X.ld shp51 ?_
   refine X.fl fld68_0 ?_
   refine X.ld shp3 ?_
   obtain ⟨v7, hv7, h⟩ := bindE h
   refine X.cp (i_Project_duration_pc _ _ _ _ hv7) ?_
   refine X.addW (by rfl) (by rfl) (by rfl) ?_
   refine X.an ?_
   exact R.mt hmeet4 (W (v1 + v7)) (Option.some.inj h)
  ·replace h := condF hc6 h
   refine Run.skip ?_
   exact R.mt hmeet4 v1 (Option.some.inj h)
 rintro p8 rfl
 refine Run.seq ?_
 refine Run.draw (footOf [(2, ([320], [], [], [])), (5, ([256], [], [], [])), (7, ([320], [], [], []))]) mixed (by kernel_rfl) (by kernel_rfl) ?_
 refine X.mv ?_
 refine X.fl fld68_3 ?_
 refine X.ld shp3 ?_
 refine X.addW (by rfl) (by rfl) (by rfl) ?_
 refine X.fl fld51_1 ?_
 refine X.ld shp25 ?_
 refine X.fl fld68_1 ?_
 refine X.ld shp3 ?_
 obtain ⟨v9, hv9, h⟩ := bindE h
 refine X.ix elt25 (idxL_spec hv9).1 (idxL_map int hv9) ?_
 refine X.lc shp3 ?_
 refine X.bi ?_
 refine X.an ?_
 cases h
 refine R.f1 Tryz.results114 ?_
 rfl
theorem i_Project_compulsory_pc (b0 : TProject) (b1 : TDomain) (b2 : Int) (r : Int × Int) (h : i_Project_compulsory b0 b1 b2 = some r) : PC Tryz.prog 151 [eTProject b0, eTDomain b1, int b2] (.tuple [int r.1, int r.2]) := by
 unfold i_Project_compulsory at h
 refine PC.start Tryz.func151 Tryz.ntmps151 rfl ok151 rfl ?_
 refine Run.sr ?_
 refine X.bx ?_
 refine X.bx ?_
 refine X.as ?_
 refine X.an ?_
 refine Run.seq ?_
 refine Run.draw (footOf [(1, ([256], [], [], [])), (6, ([256], [], [], [])), (10, ([192], [], [], [])), (11, ([256], [], [], []))]) mixed (by kernel_rfl) (by kernel_rfl) ?_
 refine X.fl fld51_1 ?_
 refine X.ld shp25 ?_
 refine X.mv ?_
 obtain ⟨v1, hv1, h⟩ := bindE h
 refine X.ix elt25 (idxL_spec hv1).1 (idxL_map int hv1) ?_
 refine X.lc shp3 ?_
 refine X.fl fld51_0 ?_
 refine X.ld shp25 ?_
 refine X.mv ?_
 obtain ⟨v2, hv2, h⟩ := bindE h
 refine X.ix elt25 (idxL_spec hv2).1 (idxL_map int hv2) ?_
 refine X.lc shp3 ?_
 refine X.ld shp36 ?_
 refine X.ld shp51 ?_
 refine X.mv ?_
 obtain ⟨v3, hv3, h⟩ := bindE h
 refine X.cp (i_Project_duration_pc _ _ _ _ hv3) ?_
 refine X.addW (by rfl) (by rfl) (by rfl) ?_
 refine X.as ?_
 refine X.an ?_
 cases h
 refine R.fin2 Tryz.results151 (by rfl) (by rfl) (by rfl) (by repeat (first | trivial | refine ⟨by first | rfl | simp [setL], ?_⟩)) ?_
 rfl
theorem i_element_pc (b0 : List Int) (b1 : Int) (r : Int × Bool) (h : i_element b0 b1 = some r) : PC Tryz.prog 192 [.slice (b0.map int), int b1] (.tuple [int r.1, bool r.2]) := by
 unfold i_element at h
 refine PC.start Tryz.func192 Tryz.ntmps192 rfl ok192 rfl ?_
 refine Run.sr ?_
 refine X.as ?_
 refine X.an ?_
 refine Run.seq ?_
 refine Run.sr ?_
 refine X.mv ?_
 refine X.mv ?_
 refine X.ls elt25 ?_
 refine X.subW (by rfl) (by rfl) (by rfl) ?_
 obtain ⟨v1, hv1, h⟩ := bindE h
 refine X.cp (i_within_pc _ _ _ _ hv1) ?_
 refine X.un (by rfl) (by rfl) (by rfl) ?_
 refine X.nil ?_
 refine R.cd (fun hc2 => ?_) (fun hc2 => ?_)
 ·replace h := condT hc2 h
  refine Run.sr ?_
  refine X.as ?_
  refine X.an ?_
  cases h
  refine R.fin2 Tryz.results192 (by rfl) (by rfl) (by rfl) (by repeat (first | trivial | refine ⟨by first | rfl | simp [setL], ?_⟩)) ?_
  rfl
 ·replace h := condF hc2 h
  refine Run.skip ?_
  refine Run.sr ?_
  refine X.mv ?_
  refine X.mv ?_
  obtain ⟨v3, hv3, h⟩ := bindE h
  refine X.ix elt25 (idxL_spec hv3).1 (idxL_map int hv3) ?_
  refine X.lc shp3 ?_
  refine X.as ?_
  refine X.an ?_
  cases h
  refine R.fin2 Tryz.results192 (by rfl) (by rfl) (by rfl) (by repeat (first | trivial | refine ⟨by first | rfl | simp [setL], ?_⟩)) ?_
  rfl
theorem i_MinUsage_c1_pc (b0 : TMode) (c1 : Int) (r : Int × Bool) (h : i_MinUsage_c1 b0 c1 = some r) : PC Tryz.prog 191 [eTMode b0, .cptr (int c1 : PV).cells 0] (.tuple [int r.1, bool r.2]) := by
 unfold i_MinUsage_c1 at h
 refine PC.start Tryz.func191 Tryz.ntmps191 rfl ok191 rfl ?_
 refine Run.sr ?_
 refine X.bx ?_
 refine X.as ?_
 refine X.an ?_
 refine Run.sr ?_
 refine X.fl fld110_1 ?_
 refine X.ld shp25 ?_
 refine X.lc shp3 ?_
 obtain ⟨v1, hv1, h⟩ := bindE h
 refine X.callT (i_element_pc _ _ _ hv1) (by rfl) (by rfl) (by rfl) (by trivial) (by rfl) (by rfl) (by rfl) (by rfl) (by rfl) (by rfl) ?_
 refine X.extract (by rfl) (by rfl) (by rfl) ?_
 refine X.extract (by rfl) (by rfl) (by rfl) ?_
 refine X.as ?_
 refine X.an ?_
 cases h
 refine R.fin2 Tryz.results191 (by rfl) (by rfl) (by rfl) (by repeat (first | trivial | refine ⟨by first | rfl | simp [setL], ?_⟩)) ?_
 rfl
theorem i_leastOf_pc (b0 : List TMode) (g1 : TMode → Option (Int × Bool)) (g1id : Nat) (g1c : List PV) (hg1 : ∀ (x0 : TMode) v, g1 x0 = some v → PC Tryz.prog g1id ([eTMode x0] ++ g1c) (.tuple [int v.1, bool v.2])) (r : Int) (h : i_leastOf b0 g1 = some r) : PC Tryz.prog 190 [.slice (b0.map eTMode), .fn g1id g1c] (int r) := by
 unfold i_leastOf at h
 refine PC.start Tryz.func190 Tryz.ntmps190 rfl ok190 rfl ?_
 refine Run.sr ?_
 refine X.an ?_
 refine Run.sr ?_
 refine X.an ?_
 refine Run.seq ?_
 refine Run.sr ?_
 refine X.mv ?_
 refine X.ls elt106 ?_
 refine X.mn ?_
 obtain ⟨o1, ho1, h⟩ := bindE h
 refine R.join2 (β := Int) [] [] (fun p18 S => (5, int p18) :: S) (fun p18 M => M) (fun p18 => (Sum.inl p18) = o1) ?_ ?_
 ·intro JJ4 hmeet3
  have hup2 := h; clear h; have h := ho1; clear ho1
  refine Run.block ?_
  refine R.bndS (t := 0) (by rfl) (fun hbd7 => ?_)
  replace hbd7 : b0.length ≤ 9223372036854775807 := by first | (rw [List.length_map] at hbd7; exact hbd7) | simp
  refine R.lp (β := Int × Int) [(1, .fn g1id g1c), (10, .slice (b0.map eTMode)), (11, int (b0.length : Int))] [] (fun bb S => (5, int bb.2) :: (12, int bb.1) :: S) (fun bb M => M) (fun n bb => 0 ≤ bb.1 ∧ bb.1 + n = (b0.length : Int) ∧ i_leastOf_L1 g1 (b0.drop bb.1.toNat) bb.1 bb.2 = some o1) b0.length (0, 0) ⟨Int.le_refl _, by simp, h⟩ ?_
  clear h
  rintro JJ7 n7 ⟨z8, a9⟩ hag7 ⟨hza7, hzb7, h⟩
  dsimp only at hza7 hzb7 h
  refine Run.sr ?_
  refine X.bi ?_
  refine X.nil ?_
  refine Run.seq ?_
  refine R.cd (fun hc12 => ?_) (fun hc12 => ?_)
  ·obtain ⟨x10, xs11, hd7, hx7, hds7, hlt7⟩ := drop_atI hza7 hc12
   rw [hd7] at h
   rw [i_leastOf_L1] at h
   refine Run.skip ?_
   refine Run.seq ?_
   refine Run.block ?_
   refine Run.sr ?_
   refine X.mv ?_
   refine X.ix elt106 (idxL_spec hx7).1 (idxL_map eTMode hx7) ?_
   refine X.lc shp110 ?_
   refine X.alloc zer110 (by rfl) (by rfl) (by rfl) ?_
   refine X.as ?_
   refine X.sl shp110 ?_
   refine X.nil ?_
   refine Run.sr ?_
   refine X.mv ?_
   refine X.ld shp110 ?_
   obtain ⟨v13, hv13, h⟩ := bindE h
   refine X.callT (hg1 _ _ hv13) (by rfl) (by rfl) (by rfl) (by trivial) (by rfl) (by rfl) (by rfl) (by rfl) (by rfl) (by rfl) ?_
   refine X.mv ?_
   refine X.extract (by rfl) (by rfl) (by rfl) ?_
   refine X.extract (by rfl) (by rfl) (by rfl) ?_
   refine X.as ?_
   refine X.an ?_
   refine Run.seq ?_
   refine Run.sr ?_
   refine X.mv ?_
   refine X.un (by rfl) (by rfl) (by rfl) ?_
   refine X.nil ?_
   refine R.cd (fun hc14 => ?_) (fun hc14 => ?_)
   ·replace h := condT hc14 h
    refine Run.sr ?_
    refine X.an ?_
    cases h
    have h := hup2
    replace h := elimR h
    cases h
    refine R.f1 Tryz.results190 ?_
    rfl
   ·replace h := condF hc14 h
    refine Run.skip ?_
    refine Run.seq ?_
    obtain ⟨e15, he15, h2⟩ := bindE h
    refine R.regG [(1, .fn g1id g1c), (5, int a9), (8, int v13.1), (10, .slice (b0.map eTMode)), (11, int (b0.length : Int)), (12, int z8), (31, bool e15)] [] ?_ ?_
    ·clear h; have h := he15; clear he15 h2
     refine X.mv ?_
     refine X.bi ?_
     refine X.mv ?_
     refine X.iG (fun hb16 => ?_) (fun hb16 => ?_)
     ·replace h := condF hb16 h
      refine X.mv ?_
      refine X.gy ?_
      refine X.mv ?_
      refine X.gy ?_
      refine X.bi ?_
      refine X.pF ?_
      cases h
      exact X.eG
     ·replace h := condT hb16 h
      refine X.gn ?_
      refine X.gn ?_
      refine X.pT ?_
      cases h
      exact X.eG
    replace h := h2; clear h2
    refine R.cd (fun hc17 => ?_) (fun hc17 => ?_)
    ·replace h := condT hc17 h
     refine Run.reg ?_
     refine X.mv ?_
     refine X.an ?_
     refine Run.blk ?_
     refine Run.reg ?_
     refine X.ad ?_
     refine X.mn ?_
     exact R.ag hag7 (n7 - 1) (z8 + 1, v13.1) (R.n3 (by first | (rw [hds7]; exact h) | (dsimp only; rw [hds7]; exact h)))
    ·replace h := condF hc17 h
     refine Run.skip ?_
     refine Run.blk ?_
     refine Run.reg ?_
     refine X.ad ?_
     refine X.mn ?_
     exact R.ag hag7 (n7 - 1) (z8 + 1, a9) (R.n3 (by first | (rw [hds7]; exact h) | (dsimp only; rw [hds7]; exact h)))
  ·rw [drop_endI hza7 hc12] at h
   rw [i_leastOf_L1] at h
   refine Run.exit (by rfl) ?_
   exact R.mt hmeet3 a9 (Option.some.inj h)
 rintro p18 rfl
 replace h := elimL h
 refine Run.sr ?_
 refine X.mv ?_
 refine X.an ?_
 cases h
 refine R.f1 Tryz.results190 ?_
 rfl
theorem i_MinUsage_pc (b0 : TActivity) (b1 : List Int) (b2 : Int) (r : Int) (h : i_MinUsage b0 b1 b2 = some r) : PC Tryz.prog 152 [eTActivity b0, .slice (b1.map int), int b2] (int r) := by
 unfold i_MinUsage at h
 refine PC.start Tryz.func152 Tryz.ntmps152 rfl ok152 rfl ?_
 refine Run.sr ?_
 refine X.bx ?_
 refine X.bx ?_
 refine X.an ?_
 refine Run.seq ?_
 refine R.pubBlk (n := 320) (by rfl) (by rfl) (by repeat (first | trivial | refine ⟨by first | rfl | simp [setL], ?_⟩)) ?_
 refine Run.reg ?_
 refine X.ld shp108 ?_
 refine X.mv ?_
 obtain ⟨v1, hv1, h⟩ := bindE h
 refine X.callF (i_chosen_pc _ _ _ hv1) (by rfl) (by rfl) (by rfl) (by trivial) (by rfl) (by rfl) (by rfl) (by rfl) ?_
 refine X.makeFunc (by rfl) (by rfl) (by repeat (first | trivial | refine ⟨by first | rfl | simp [setL], ?_⟩)) (by rfl) (by rfl) ?_
 obtain ⟨v2, hv2, h⟩ := bindE h
 refine X.cp (i_leastOf_pc _ (fun x0 => i_MinUsage_c1 x0 b2) _ _ (fun x0 v hv => i_MinUsage_c1_pc _ _ _ hv) _ hv2) ?_
 refine X.an ?_
 cases h
 refine R.f1 Tryz.results152 ?_
 rfl
theorem i_Project_compulsoryUsage_pc (b0 : TProject) (b1 : TDomain) (b2 : Int) (b3 : Int) (r : Int) (h : i_Project_compulsoryUsage b0 b1 b2 b3 = some r) : PC Tryz.prog 116 [eTProject b0, eTDomain b1, int b2, int b3] (int r) := by
 unfold i_Project_compulsoryUsage at h
 refine PC.start Tryz.func116 Tryz.ntmps116 rfl ok116 rfl ?_
 refine Run.sr ?_
 refine X.bx ?_
 refine X.bx ?_
 refine X.an ?_
 refine Run.sr ?_
 refine X.an ?_
 refine Run.seq ?_
 refine Run.sr ?_
 refine X.fl fld36_1 ?_
 refine X.ld shp32 ?_
 refine X.ls elt32 ?_
 refine X.mn ?_
 obtain ⟨o1, ho1, h⟩ := bindE h
 refine R.join2 (β := Int) [] [] (fun p19 S => (9, int p19) :: S) (fun p19 M => M) (fun p19 => p19 = o1) ?_ ?_
 ·intro JJ4 hmeet3
  have hup2 := h; clear h; have h := ho1; clear ho1
  refine Run.block ?_
  refine R.bndS (t := 15) (by rfl) (fun hbd7 => ?_)
  replace hbd7 : b0.Activities.length ≤ 9223372036854775807 := by first | (rw [List.length_map] at hbd7; exact hbd7) | simp
  refine R.lp (β := Int × Int) [(2, int b2), (3, int b3), (4, .lptr 256 0), (5, .lptr 320 0), (15, .slice (b0.Activities.map eTActivity)), (16, int (b0.Activities.length : Int))] [(256, .blk true [int b0.Deadline, .slice (b0.Activities.map eTActivity), .slice (b0.Links.map eTLink), .slice (b0.Resources.map eTResource), .slice (b0.Stocks.map int)]), (320, .blk true [.slice (b1.MinStart.map int), .slice (b1.MaxStart.map int), .slice (b1.Modes.map l_int)])] (fun bb S => (9, int bb.2) :: (17, int bb.1) :: S) (fun bb M => M) (fun n bb => 0 ≤ bb.1 ∧ bb.1 + n = (b0.Activities.length : Int) ∧ i_Project_compulsoryUsage_L1 b0 b1 b2 b3 (b0.Activities.drop bb.1.toNat) bb.1 bb.2 = some o1) b0.Activities.length (0, 0) ⟨Int.le_refl _, by simp, h⟩ ?_
  clear h
  rintro JJ7 n7 ⟨z8, a9⟩ hag7 ⟨hza7, hzb7, h⟩
  dsimp only at hza7 hzb7 h
  refine Run.sr ?_
  refine X.bi ?_
  refine X.nil ?_
  refine Run.seq ?_
  refine R.cd (fun hc12 => ?_) (fun hc12 => ?_)
  ·obtain ⟨x10, xs11, hd7, hx7, hds7, hlt7⟩ := drop_atI hza7 hc12
   rw [hd7] at h
   rw [i_Project_compulsoryUsage_L1] at h
   refine Run.skip ?_
   refine Run.seq ?_
   refine Run.block ?_
   refine Run.sr ?_
   refine X.mv ?_
   refine X.ix elt32 (idxL_spec hx7).1 (idxL_map eTActivity hx7) ?_
   refine X.lc shp108 ?_
   refine X.alloc zer108 (by rfl) (by rfl) (by rfl) ?_
   refine X.as ?_
   refine X.sl shp108 ?_
   refine X.nil ?_
   refine Run.sr ?_
   refine X.ld shp36 ?_
   refine X.ld shp51 ?_
   refine X.mv ?_
   obtain ⟨v13, hv13, h⟩ := bindE h
   refine X.callT (i_Project_compulsory_pc _ _ _ _ hv13) (by rfl) (by rfl) (by rfl) (by trivial) (by rfl) (by rfl) (by rfl) (by rfl) (by rfl) (by rfl) ?_
   refine X.mv ?_
   refine X.extract (by rfl) (by rfl) (by rfl) ?_
   refine X.extract (by rfl) (by rfl) (by rfl) ?_
   refine X.as ?_
   refine X.an ?_
   refine Run.seq ?_
   obtain ⟨e14, he14, h2⟩ := bindE h
   refine R.regG [(2, int b2), (3, int b3), (4, .lptr 256 0), (5, .lptr 320 0), (9, int a9), (10, int z8), (11, .lptr 704 0), (15, .slice (b0.Activities.map eTActivity)), (16, int (b0.Activities.length : Int)), (17, int z8), (36, bool e14)] [(256, .blk true [int b0.Deadline, .slice (b0.Activities.map eTActivity), .slice (b0.Links.map eTLink), .slice (b0.Resources.map eTResource), .slice (b0.Stocks.map int)]), (320, .blk true [.slice (b1.MinStart.map int), .slice (b1.MaxStart.map int), .slice (b1.Modes.map l_int)]), (704, .blk true [str x10.Name, int x10.Family, .slice (x10.Modes.map eTMode)])] ?_ ?_
   ·clear h; have h := he14; clear he14 h2
    refine X.mv ?_
    refine X.mv ?_
    refine X.bi ?_
    refine X.mv ?_
    refine X.iG (fun hb15 => ?_) (fun hb15 => ?_)
    ·replace h := condT hb15 h
     refine X.mv ?_
     refine X.gy ?_
     refine X.mv ?_
     refine X.gy ?_
     refine X.bi ?_
     refine X.pT ?_
     cases h
     exact X.eG
    ·replace h := condF hb15 h
     refine X.gn ?_
     refine X.gn ?_
     refine X.pF ?_
     cases h
     exact X.eG
   replace h := h2; clear h2
   refine R.cd (fun hc16 => ?_) (fun hc16 => ?_)
   ·replace h := condT hc16 h
    refine Run.draw (footOf [(1, ([704], [], [], [])), (3, ([320], [], [], []))]) mixed (by kernel_rfl) (by kernel_rfl) ?_
    refine X.mv ?_
    refine X.ld shp108 ?_
    refine X.fl fld51_2 ?_
    refine X.ld shp45 ?_
    refine X.mv ?_
    obtain ⟨v17, hv17, h⟩ := bindE h
    refine X.ix elt45 (idxL_spec hv17).1 (idxL_map l_int hv17) ?_
    refine X.lc shp25 ?_
    refine X.mv ?_
    obtain ⟨v18, hv18, h⟩ := bindE h
    refine X.cp (i_MinUsage_pc _ _ _ _ hv18) ?_
    refine X.addW (by rfl) (by rfl) (by rfl) ?_
    refine X.an ?_
    refine Run.blk ?_
    refine Run.reg ?_
    refine X.ad ?_
    refine X.mn ?_
    exact R.ag hag7 (n7 - 1) (z8 + 1, (W (a9 + v18))) (R.n3 (by first | (rw [hds7]; exact h) | (dsimp only; rw [hds7]; exact h)))
   ·replace h := condF hc16 h
    refine Run.skip ?_
    refine Run.blk ?_
    refine Run.reg ?_
    refine X.ad ?_
    refine X.mn ?_
    exact R.ag hag7 (n7 - 1) (z8 + 1, a9) (R.n3 (by first | (rw [hds7]; exact h) | (dsimp only; rw [hds7]; exact h)))
  ·rw [drop_endI hza7 hc12] at h
   rw [i_Project_compulsoryUsage_L1] at h
   refine Run.exit (by rfl) ?_
   exact R.mt hmeet3 a9 (Option.some.inj h)
 rintro p19 rfl
 refine Run.sr ?_
 refine X.mv ?_
 refine X.an ?_
 cases h
 refine R.f1 Tryz.results116 ?_
 rfl
theorem i_capacityAt_pc (b0 : List TStep) (b1 : Int) (r : Int) (h : i_capacityAt b0 b1 = some r) : PC Tryz.prog 117 [.slice (b0.map eTStep), int b1] (int r) := by
 unfold i_capacityAt at h
 refine PC.start Tryz.func117 Tryz.ntmps117 rfl ok117 rfl ?_
 refine Run.sr ?_
 refine X.an ?_
 refine Run.sr ?_
 refine X.an ?_
 refine Run.seq ?_
 refine Run.sr ?_
 refine X.mv ?_
 refine X.ls elt84 ?_
 refine X.mn ?_
 obtain ⟨o1, ho1, h⟩ := bindE h
 refine R.join2 (β := Int) [] [] (fun p14 S => (5, int p14) :: S) (fun p14 M => M) (fun p14 => p14 = o1) ?_ ?_
 ·intro JJ4 hmeet3
  have hup2 := h; clear h; have h := ho1; clear ho1
  refine Run.block ?_
  refine R.bndS (t := 0) (by rfl) (fun hbd7 => ?_)
  replace hbd7 : b0.length ≤ 9223372036854775807 := by first | (rw [List.length_map] at hbd7; exact hbd7) | simp
  refine R.lp (β := Int × Int) [(1, int b1), (8, .slice (b0.map eTStep)), (9, int (b0.length : Int))] [] (fun bb S => (5, int bb.2) :: (10, int bb.1) :: S) (fun bb M => M) (fun n bb => 0 ≤ bb.1 ∧ bb.1 + n = (b0.length : Int) ∧ i_capacityAt_L1 b1 (b0.drop bb.1.toNat) bb.1 bb.2 = some o1) b0.length (0, 0) ⟨Int.le_refl _, by simp, h⟩ ?_
  clear h
  rintro JJ7 n7 ⟨z8, a9⟩ hag7 ⟨hza7, hzb7, h⟩
  dsimp only at hza7 hzb7 h
  refine Run.sr ?_
  refine X.bi ?_
  refine X.nil ?_
  refine Run.seq ?_
  refine R.cd (fun hc12 => ?_) (fun hc12 => ?_)
  ·obtain ⟨x10, xs11, hd7, hx7, hds7, hlt7⟩ := drop_atI hza7 hc12
   rw [hd7] at h
   rw [i_capacityAt_L1] at h
   refine Run.skip ?_
   refine Run.seq ?_
   refine Run.block ?_
   refine Run.sr ?_
   refine X.ix elt84 (idxL_spec hx7).1 (idxL_map eTStep hx7) ?_
   refine X.lc shp88 ?_
   refine X.alloc zer88 (by rfl) (by rfl) (by rfl) ?_
   refine X.sl shp88 ?_
   refine X.nil ?_
   refine Run.sr ?_
   refine X.fl fld88_0 ?_
   refine X.ld shp3 ?_
   refine X.mv ?_
   refine X.bi ?_
   refine X.nil ?_
   refine R.cd (fun hc13 => ?_) (fun hc13 => ?_)
   ·replace h := condT hc13 h
    refine Run.reg ?_
    refine X.fl fld88_1 ?_
    refine X.ld shp3 ?_
    refine X.an ?_
    refine Run.blk ?_
    refine Run.reg ?_
    refine X.ad ?_
    refine X.mn ?_
    exact R.ag hag7 (n7 - 1) (z8 + 1, x10.Capacity) (R.n3 (by first | (rw [hds7]; exact h) | (dsimp only; rw [hds7]; exact h)))
   ·replace h := condF hc13 h
    refine Run.skip ?_
    refine Run.blk ?_
    refine Run.reg ?_
    refine X.ad ?_
    refine X.mn ?_
    exact R.ag hag7 (n7 - 1) (z8 + 1, a9) (R.n3 (by first | (rw [hds7]; exact h) | (dsimp only; rw [hds7]; exact h)))
  ·rw [drop_endI hza7 hc12] at h
   rw [i_capacityAt_L1] at h
   refine Run.exit (by rfl) ?_
   exact R.mt hmeet3 a9 (Option.some.inj h)
 rintro p14 rfl
 refine Run.sr ?_
 refine X.mv ?_
 refine X.an ?_
 cases h
 refine R.f1 Tryz.results117 ?_
 rfl
theorem i_Overlap_pc (b0 : Int) (b1 : Int) (b2 : Int) (b3 : Int) (r : Int) (h : i_Overlap b0 b1 b2 b3 = some r) : PC Tryz.prog 208 [int b0, int b1, int b2, int b3] (int r) := by
 unfold i_Overlap at h
 refine PC.start Tryz.func208 Tryz.ntmps208 rfl ok208 rfl ?_
 refine Run.sr ?_
 refine X.an ?_
 refine Run.seq ?_
 refine Run.sr ?_
 refine X.mv ?_
 refine X.mv ?_
 refine X.mv ?_
 refine X.mv ?_
 refine X.buildSlice false elt25 zer3 (by rfl) (by rfl) (by rfl) (by rfl) (by rfl) (by rfl) (by repeat (first | trivial | refine ⟨by first | rfl | simp [setL], ?_⟩)) (allSz_spec (by rfl)) (by rfl) (by rfl) (by rfl) ?_
 refine X.len_o elt25 (by rfl) (by rfl) (by first | rfl | simp [setL] | omega) (by first | exact List.length_map .. | rfl) (by rfl) (by rfl) ?_
 refine X.mn ?_
 obtain ⟨o1, ho1, h⟩ := bindE h
 refine R.join2 (β := Unit) [(0, int b0), (1, int b1), (2, int b2), (3, int b3)] [] (fun p14 S => S) (fun p14 M => M) (fun p14 => (Sum.inl p14) = o1) ?_ ?_
 ·intro JJ4 hmeet3
  have hup2 := h; clear h; have h := ho1; clear ho1
  refine Run.block ?_
  refine R.bndO (n := 960) (by rfl) (fun hbd7 => ?_)
  replace hbd7 : ([b0, b1, b2, b3] : List Int).length ≤ 9223372036854775807 := by first | (rw [List.length_map] at hbd7; exact hbd7) | simp
  refine R.lp (β := Int) [(0, int b0), (1, int b1), (2, int b2), (3, int b3), (16, int (([b0, b1, b2, b3] : List Int).length : Int))] [(960, .obj false 3 1 (([b0, b1, b2, b3] : List Int).map int))] (fun bb S => (15, .own 960 (([b0, b1, b2, b3] : List Int).map int).length) :: (17, int bb) :: S) (fun bb M => M) (fun n bb => 0 ≤ bb ∧ bb + n = (([b0, b1, b2, b3] : List Int).length : Int) ∧ i_Overlap_L1 (([b0, b1, b2, b3] : List Int).drop bb.toNat) bb = some o1) ([b0, b1, b2, b3] : List Int).length (0 : Int) ⟨Int.le_refl _, by simp, h⟩ ?_
  clear h
  rintro JJ7 n7 z8 hag7 ⟨hza7, hzb7, h⟩
  refine Run.sr ?_
  refine X.bi ?_
  refine X.nil ?_
  refine Run.seq ?_
  refine R.cd (fun hc11 => ?_) (fun hc11 => ?_)
  ·obtain ⟨x9, xs10, hd7, hx7, hds7, hlt7⟩ := drop_atI hza7 hc11
   rw [hd7] at h
   rw [i_Overlap_L1] at h
   refine Run.skip ?_
   refine Run.seq ?_
   refine Run.block ?_
   refine Run.sr ?_
   refine X.index_o elt25 (by rfl) (by rfl) (by first | rfl | simp [setL] | omega) (by rfl) (idxL_spec hx7).1 (idxL_map int hx7) (by rfl) (by rfl) (by rfl) ?_
   refine X.lc shp3 ?_
   refine X.an ?_
   refine Run.sr ?_
   refine X.mv ?_
   obtain ⟨v12, hv12, h⟩ := bindE h
   refine X.cp (i_within_pc _ _ _ _ hv12) ?_
   refine X.un (by rfl) (by rfl) (by rfl) ?_
   refine X.nil ?_
   refine R.cd (fun hc13 => ?_) (fun hc13 => ?_)
   ·replace h := condT hc13 h
    refine Run.sr ?_
    refine X.an ?_
    cases h
    have h := hup2
    replace h := elimR h
    cases h
    refine R.f1 Tryz.results208 ?_
    rfl
   ·replace h := condF hc13 h
    refine Run.skip ?_
    refine Run.blk ?_
    refine Run.reg ?_
    refine X.ad ?_
    refine X.mn ?_
    exact R.ag hag7 (n7 - 1) (z8 + 1) (R.n3 (by first | (rw [hds7]; exact h) | (dsimp only; rw [hds7]; exact h)))
  ·rw [drop_endI hza7 hc11] at h
   rw [i_Overlap_L1] at h
   refine Run.exit (by rfl) ?_
   exact R.mt hmeet3 () (Option.some.inj h)
 rintro p14 rfl
 replace h := elimL h
 refine Run.seq ?_
 refine Run.sr ?_
 refine X.mv ?_
 refine X.bi ?_
 refine X.nil ?_
 refine R.cd (fun hc16 => ?_) (fun hc16 => ?_)
 ·replace h := condT hc16 h
  refine Run.sr ?_
  refine X.an ?_
  cases h
  refine R.f1 Tryz.results208 ?_
  rfl
 ·replace h := condF hc16 h
  refine Run.skip ?_
  refine Run.sr ?_
  refine X.mv ?_
  refine X.mv ?_
  refine X.addW (by rfl) (by rfl) (by rfl) ?_
  refine X.mv ?_
  refine X.min2 (by rfl) (by rfl) (by rfl) ?_
  refine X.mv ?_
  refine X.mv ?_
  refine X.max2 (by rfl) (by rfl) (by rfl) ?_
  refine X.subW (by rfl) (by rfl) (by rfl) ?_
  refine X.max2 (by rfl) (by rfl) (by rfl) ?_
  refine X.an ?_
  cases h
  refine R.f1 Tryz.results208 ?_
  rfl
theorem i_Project_minWork_pc (b0 : TProject) (b1 : TDomain) (b2 : Int) (b3 : Int) (b4 : Int) (b5 : Int) (r : Int) (h : i_Project_minWork b0 b1 b2 b3 b4 b5 = some r) : PC Tryz.prog 193 [eTProject b0, eTDomain b1, int b2, int b3, int b4, int b5] (int r) := by
 unfold i_Project_minWork at h
 refine PC.start Tryz.func193 Tryz.ntmps193 rfl ok193 rfl ?_
 refine Run.sr ?_
 refine X.bx ?_
 refine X.bx ?_
 refine X.an ?_
 refine Run.sr ?_
 refine X.as ?_
 refine X.an ?_
 refine Run.seq ?_
 refine Run.sr ?_
 refine X.fl fld51_2 ?_
 refine X.ld shp45 ?_
 refine X.mv ?_
 obtain ⟨v1, hv1, h⟩ := bindE h
 refine X.ix elt45 (idxL_spec hv1).1 (idxL_map l_int hv1) ?_
 refine X.lc shp25 ?_
 refine X.ls elt25 ?_
 refine X.mn ?_
 obtain ⟨o2, ho2, h⟩ := bindE h
 refine R.join2 (β := Int) [] [] (fun p25 S => (13, int p25) :: S) (fun p25 M => M) (fun p25 => p25 = o2) ?_ ?_
 ·intro JJ5 hmeet4
  have hup3 := h; clear h; have h := ho2; clear ho2
  refine Run.block ?_
  refine R.bndS (t := 23) (by rfl) (fun hbd8 => ?_)
  replace hbd8 : v1.length ≤ 9223372036854775807 := by first | (rw [List.length_map] at hbd8; exact hbd8) | simp
  refine R.lp (β := Int × Int × Bool) [(2, int b2), (3, int b3), (4, int b4), (5, int b5), (6, .lptr 384 0), (7, .lptr 448 0), (23, .slice (v1.map int)), (24, int (v1.length : Int))] [(384, .blk true [int b0.Deadline, .slice (b0.Activities.map eTActivity), .slice (b0.Links.map eTLink), .slice (b0.Resources.map eTResource), .slice (b0.Stocks.map int)]), (448, .blk true [.slice (b1.MinStart.map int), .slice (b1.MaxStart.map int), .slice (b1.Modes.map l_int)])] (fun bb S => (13, int bb.2.1) :: (14, bool bb.2.2) :: (25, int bb.1) :: S) (fun bb M => M) (fun n bb => 0 ≤ bb.1 ∧ bb.1 + n = (v1.length : Int) ∧ i_Project_minWork_L1 b0 b1 b2 b3 b4 b5 (v1.drop bb.1.toNat) bb.1 bb.2.1 bb.2.2 = some o2) v1.length (0, 0, false) ⟨Int.le_refl _, by simp, h⟩ ?_
  clear h
  rintro JJ8 n8 ⟨z9, a10, a11⟩ hag8 ⟨hza8, hzb8, h⟩
  dsimp only at hza8 hzb8 h
  refine Run.sr ?_
  refine X.bi ?_
  refine X.nil ?_
  refine Run.seq ?_
  refine R.cd (fun hc14 => ?_) (fun hc14 => ?_)
  ·obtain ⟨x12, xs13, hd8, hx8, hds8, hlt8⟩ := drop_atI hza8 hc14
   rw [hd8] at h
   rw [i_Project_minWork_L1] at h
   refine Run.skip ?_
   refine Run.seq ?_
   refine Run.block ?_
   refine Run.sr ?_
   refine X.ix elt25 (idxL_spec hx8).1 (idxL_map int hx8) ?_
   refine X.lc shp3 ?_
   refine X.an ?_
   refine Run.sr ?_
   refine X.fl fld36_1 ?_
   refine X.ld shp32 ?_
   refine X.mv ?_
   obtain ⟨v15, hv15, h⟩ := bindE h
   refine X.ix elt32 (idxL_spec hv15).1 (idxL_map eTActivity hv15) ?_
   refine X.fieldAddr_c fld108_2 (by rfl) (by rfl) ?_
   refine X.lc shp106 ?_
   refine X.mv ?_
   obtain ⟨v16, hv16, h⟩ := bindE h
   refine X.ix elt106 (idxL_spec hv16).1 (idxL_map eTMode hv16) ?_
   refine X.lc shp110 ?_
   refine X.alloc zer110 (by rfl) (by rfl) (by rfl) ?_
   refine X.sl shp110 ?_
   refine X.nil ?_
   refine Run.seq ?_
   refine Run.draw (footOf [(1, ([448], [], [], [])), (6, ([1088], [], [], [])), (11, ([448], [], [], [])), (16, ([1088], [], [], [])), (22, ([1088], [], [], []))]) mixed (by kernel_rfl) (by kernel_rfl) ?_
   refine X.fl fld51_0 ?_
   refine X.ld shp25 ?_
   refine X.mv ?_
   obtain ⟨v17, hv17, h⟩ := bindE h
   refine X.ix elt25 (idxL_spec hv17).1 (idxL_map int hv17) ?_
   refine X.lc shp3 ?_
   refine X.fl fld110_0 ?_
   refine X.ld shp3 ?_
   refine X.mv ?_
   refine X.mv ?_
   obtain ⟨v18, hv18, h⟩ := bindE h
   refine X.cp (i_Overlap_pc _ _ _ _ _ hv18) ?_
   refine X.fl fld51_1 ?_
   refine X.ld shp25 ?_
   refine X.mv ?_
   obtain ⟨v19, hv19, h⟩ := bindE h
   refine X.ix elt25 (idxL_spec hv19).1 (idxL_map int hv19) ?_
   refine X.lc shp3 ?_
   refine X.fl fld110_0 ?_
   refine X.ld shp3 ?_
   refine X.mv ?_
   refine X.mv ?_
   obtain ⟨v20, hv20, h⟩ := bindE h
   refine X.cp (i_Overlap_pc _ _ _ _ _ hv20) ?_
   refine X.min2 (by rfl) (by rfl) (by rfl) ?_
   refine X.fl fld110_1 ?_
   refine X.ld shp25 ?_
   refine X.mv ?_
   obtain ⟨v21, hv21, h⟩ := bindE h
   refine X.ix elt25 (idxL_spec hv21).1 (idxL_map int hv21) ?_
   refine X.lc shp3 ?_
   refine X.mulW (by rfl) (by rfl) (by rfl) ?_
   refine X.an ?_
   refine Run.seq ?_
   obtain ⟨e22, he22, h2⟩ := bindE h
   refine R.regG [(2, int b2), (3, int b3), (4, int b4), (5, int b5), (6, .lptr 384 0), (7, .lptr 448 0), (13, int a10), (14, bool a11), (18, int (W ((min v18 v20) * v21))), (23, .slice (v1.map int)), (24, int (v1.length : Int)), (25, int z9), (71, bool e22)] [(384, .blk true [int b0.Deadline, .slice (b0.Activities.map eTActivity), .slice (b0.Links.map eTLink), .slice (b0.Resources.map eTResource), .slice (b0.Stocks.map int)]), (448, .blk true [.slice (b1.MinStart.map int), .slice (b1.MaxStart.map int), .slice (b1.Modes.map l_int)])] ?_ ?_
   ·clear h; have h := he22; clear he22 h2
    refine X.mv ?_
    refine X.un (by rfl) (by rfl) (by rfl) ?_
    refine X.mv ?_
    refine X.iG (fun hb23 => ?_) (fun hb23 => ?_)
    ·replace h := condF hb23 h
     refine X.mv ?_
     refine X.gy ?_
     refine X.mv ?_
     refine X.gy ?_
     refine X.bi ?_
     refine X.pF ?_
     cases h
     exact X.eG
    ·replace h := condT hb23 h
     refine X.gn ?_
     refine X.gn ?_
     refine X.pT ?_
     cases h
     exact X.eG
   replace h := h2; clear h2
   refine R.cd (fun hc24 => ?_) (fun hc24 => ?_)
   ·replace h := condT hc24 h
    refine Run.reg ?_
    refine X.mv ?_
    refine X.as ?_
    refine X.an ?_
    refine Run.blk ?_
    refine Run.reg ?_
    refine X.ad ?_
    refine X.mn ?_
    exact R.ag hag8 (n8 - 1) (z9 + 1, (W ((min v18 v20) * v21)), true) (R.n3 (by first | (rw [hds8]; exact h) | (dsimp only; rw [hds8]; exact h)))
   ·replace h := condF hc24 h
    refine Run.skip ?_
    refine Run.blk ?_
    refine Run.reg ?_
    refine X.ad ?_
    refine X.mn ?_
    exact R.ag hag8 (n8 - 1) (z9 + 1, a10, a11) (R.n3 (by first | (rw [hds8]; exact h) | (dsimp only; rw [hds8]; exact h)))
  ·rw [drop_endI hza8 hc14] at h
   rw [i_Project_minWork_L1] at h
   refine Run.exit (by rfl) ?_
   exact R.mt hmeet4 a10 (Option.some.inj h)
 rintro p25 rfl
 refine Run.sr ?_
 refine X.mv ?_
 refine X.an ?_
 cases h
 refine R.f1 Tryz.results193 ?_
 rfl
theorem i_Project_totalWork_pc (b0 : TProject) (b1 : TDomain) (b2 : Int) (b3 : Int) (b4 : Int) (r : Int) (h : i_Project_totalWork b0 b1 b2 b3 b4 = some r) : PC Tryz.prog 153 [eTProject b0, eTDomain b1, int b2, int b3, int b4] (int r) := by
 unfold i_Project_totalWork at h
 refine PC.start Tryz.func153 Tryz.ntmps153 rfl ok153 rfl ?_
 refine Run.sr ?_
 refine X.bx ?_
 refine X.bx ?_
 refine X.an ?_
 refine Run.sr ?_
 refine X.an ?_
 refine Run.seq ?_
 refine Run.sr ?_
 refine X.fl fld36_1 ?_
 refine X.ld shp32 ?_
 refine X.ls elt32 ?_
 refine X.mn ?_
 obtain ⟨o1, ho1, h⟩ := bindE h
 refine R.join2 (β := Int) [] [] (fun p14 S => (11, int p14) :: S) (fun p14 M => M) (fun p14 => p14 = o1) ?_ ?_
 ·intro JJ4 hmeet3
  have hup2 := h; clear h; have h := ho1; clear ho1
  refine Run.block ?_
  refine R.bndS (t := 14) (by rfl) (fun hbd7 => ?_)
  replace hbd7 : b0.Activities.length ≤ 9223372036854775807 := by first | (rw [List.length_map] at hbd7; exact hbd7) | simp
  refine R.lp (β := Int × Int) [(2, int b2), (3, int b3), (4, int b4), (5, .lptr 320 0), (6, .lptr 384 0), (15, int (b0.Activities.length : Int))] [(320, .blk true [int b0.Deadline, .slice (b0.Activities.map eTActivity), .slice (b0.Links.map eTLink), .slice (b0.Resources.map eTResource), .slice (b0.Stocks.map int)]), (384, .blk true [.slice (b1.MinStart.map int), .slice (b1.MaxStart.map int), .slice (b1.Modes.map l_int)])] (fun bb S => (11, int bb.2) :: (16, int bb.1) :: S) (fun bb M => M) (fun n bb => 0 ≤ bb.1 ∧ bb.1 + n = (b0.Activities.length : Int) ∧ i_Project_totalWork_L1 b0 b1 b2 b3 b4 (b0.Activities.drop bb.1.toNat) bb.1 bb.2 = some o1) b0.Activities.length (0, 0) ⟨Int.le_refl _, by simp, h⟩ ?_
  clear h
  rintro JJ7 n7 ⟨z8, a9⟩ hag7 ⟨hza7, hzb7, h⟩
  dsimp only at hza7 hzb7 h
  refine Run.sr ?_
  refine X.bi ?_
  refine X.nil ?_
  refine Run.seq ?_
  refine R.cd (fun hc12 => ?_) (fun hc12 => ?_)
  ·obtain ⟨x10, xs11, hd7, hx7, hds7, hlt7⟩ := drop_atI hza7 hc12
   rw [hd7] at h
   rw [i_Project_totalWork_L1] at h
   refine Run.skip ?_
   refine Run.seq ?_
   refine Run.block ?_
   refine Run.sr ?_
   refine X.mv ?_
   refine X.an ?_
   refine Run.reg ?_
   refine X.mv ?_
   refine X.ld shp36 ?_
   refine X.ld shp51 ?_
   refine X.mv ?_
   refine X.mv ?_
   refine X.mv ?_
   refine X.mv ?_
   obtain ⟨v13, hv13, h⟩ := bindE h
   refine X.cp (i_Project_minWork_pc _ _ _ _ _ _ _ hv13) ?_
   refine X.addW (by rfl) (by rfl) (by rfl) ?_
   refine X.an ?_
   refine Run.blk ?_
   refine Run.reg ?_
   refine X.ad ?_
   refine X.mn ?_
   exact R.ag hag7 (n7 - 1) (z8 + 1, (W (a9 + v13))) (R.n3 (by first | (rw [hds7]; exact h) | (dsimp only; rw [hds7]; exact h)))
  ·rw [drop_endI hza7 hc12] at h
   rw [i_Project_totalWork_L1] at h
   refine Run.exit (by rfl) ?_
   exact R.mt hmeet3 a9 (Option.some.inj h)
 rintro p14 rfl
 refine Run.sr ?_
 refine X.mv ?_
 refine X.an ?_
 cases h
 refine R.f1 Tryz.results153 ?_
 rfl
end Go.Px.YtiinfmdopfkefaaGreat
