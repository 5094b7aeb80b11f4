/-
  PROVED: contracts of functions of the program over pure values. No condition beyond those that each theorem names.
-/
import Derived.Test.YtiinfmdopfkefaaGreatProg
import Derived.Test.YtiinfmdopfkefaaGreatD1
import Derived.Test.YtiinfmdopfkefaaGreatS
import Derived.Test.YtiinfmdopfkefaaGreatC3
namespace Go.Px.YtiinfmdopfkefaaGreat
set_option linter.unusedSimpArgs false
set_option linter.unusedVariables false
open Go.Px Go.Proofs
theorem ok28 : okFn Tryz.prog 28 = true := by kernel_rfl
theorem ok26 : okFn Tryz.prog 26 = true := by kernel_rfl
theorem ok27 : okFn Tryz.prog 27 = true := by kernel_rfl
theorem ok5 : okFn Tryz.prog 5 = true := by kernel_rfl
theorem w_eqRule_pc (b0 : TRule) (b1 : TRule) (r : Bool) (h : w_eqRule b0 b1 = some r) : PC Tryz.prog 28 [eTRule b0, eTRule b1] (bool r) := by
 unfold w_eqRule at h
 refine PC.start Tryz.func28 Tryz.ntmps28 rfl ok28 rfl ?_
 refine Run.sr ?_
 refine X.bx ?_
 refine X.bx ?_
 refine X.an ?_
 refine Run.seq ?_
 refine Run.sr ?_
 refine X.fl fld38_0 ?_
 refine X.ld shp3 ?_
 refine X.fl fld38_0 ?_
 refine X.ld shp3 ?_
 refine X.bi ?_
 refine X.nil ?_
 refine R.cd (fun hc1 => ?_) (fun hc1 => ?_)
 ·replace h := condT hc1 h
  refine Run.sr ?_
  refine X.an ?_
  cases h
  refine R.f1 Tryz.results28 ?_
  rfl
 ·replace h := condF hc1 h
  refine Run.skip ?_
  refine Run.seq ?_
  refine Run.sr ?_
  refine X.fl fld38_1 ?_
  refine X.ld shp3 ?_
  refine X.fl fld38_1 ?_
  refine X.ld shp3 ?_
  refine X.bi ?_
  refine X.nil ?_
  refine R.cd (fun hc2 => ?_) (fun hc2 => ?_)
  ·replace h := condT hc2 h
   refine Run.sr ?_
   refine X.an ?_
   cases h
   refine R.f1 Tryz.results28 ?_
   rfl
  ·replace h := condF hc2 h
   refine Run.skip ?_
   refine Run.seq ?_
   refine Run.sr ?_
   refine X.fl fld38_2 ?_
   refine X.ld shp3 ?_
   refine X.fl fld38_2 ?_
   refine X.ld shp3 ?_
   refine X.bi ?_
   refine X.nil ?_
   refine R.cd (fun hc3 => ?_) (fun hc3 => ?_)
   ·replace h := condT hc3 h
    refine Run.sr ?_
    refine X.an ?_
    cases h
    refine R.f1 Tryz.results28 ?_
    rfl
   ·replace h := condF hc3 h
    refine Run.skip ?_
    refine Run.seq ?_
    refine Run.sr ?_
    refine X.fl fld38_3 ?_
    refine X.ld shp3 ?_
    refine X.fl fld38_3 ?_
    refine X.ld shp3 ?_
    refine X.bi ?_
    refine X.nil ?_
    refine R.cd (fun hc4 => ?_) (fun hc4 => ?_)
    ·replace h := condT hc4 h
     refine Run.sr ?_
     refine X.an ?_
     cases h
     refine R.f1 Tryz.results28 ?_
     rfl
    ·replace h := condF hc4 h
     refine Run.skip ?_
     refine Run.sr ?_
     refine X.an ?_
     cases h
     refine R.f1 Tryz.results28 ?_
     rfl
theorem s_FindRefutation_pc (b0 : TProject) (b1 : TDomain) (r : TRule × Bool) (h : s_FindRefutation b0 b1 = some r) : PC Tryz.prog 26 [eTProject b0, eTDomain b1] (.tuple [eTRule r.1, bool r.2]) := by
 unfold s_FindRefutation at h
 refine PC.start Tryz.func26 Tryz.ntmps26 rfl ok26 rfl ?_
 refine Run.sr ?_
 refine X.bx ?_
 refine X.bx ?_
 refine X.alloc zer38 (by rfl) (by rfl) (by rfl) ?_
 refine X.an ?_
 refine Run.seq ?_
 refine Run.sr ?_
 refine X.ld shp36 ?_
 refine X.ld shp51 ?_
 obtain ⟨v1, hv1, h⟩ := bindE h
 refine X.cp (s_DomainForm_pc _ _ _ hv1) ?_
 refine X.un (by rfl) (by rfl) (by rfl) ?_
 refine X.nil ?_
 refine R.cd (fun hc2 => ?_) (fun hc2 => ?_)
 ·replace h := condT hc2 h
  refine Run.sr ?_
  refine X.build zer38 pl38 (by rfl) (by rfl) (by repeat (first | trivial | refine ⟨by first | rfl | simp [setL], ?_⟩)) (by rfl) (by rfl) (by rfl) ?_
  refine X.sl shp38 ?_
  refine X.an ?_
  cases h
  refine R.finC2 Tryz.results26 shp38 (by rfl) (by rfl) (by rfl) (by rfl) (by rfl) (by rfl) (by repeat (first | trivial | refine ⟨by first | rfl | simp [setL], ?_⟩)) ?_
  rfl
 ·replace h := condF hc2 h
  refine Run.skip ?_
  refine Run.seq ?_
  refine Run.sr ?_
  refine X.ld shp51 ?_
  obtain ⟨v3, hv3, h⟩ := bindE h
  refine X.cp (s_DomainEmpty_pc _ _ hv3) ?_
  refine X.nil ?_
  refine R.cd (fun hc4 => ?_) (fun hc4 => ?_)
  ·replace h := condT hc4 h
   refine Run.sr ?_
   refine X.build zer38 pl38 (by rfl) (by rfl) (by repeat (first | trivial | refine ⟨by first | rfl | simp [setL], ?_⟩)) (by rfl) (by rfl) (by rfl) ?_
   refine X.sl shp38 ?_
   refine X.an ?_
   cases h
   refine R.finC2 Tryz.results26 shp38 (by rfl) (by rfl) (by rfl) (by rfl) (by rfl) (by rfl) (by repeat (first | trivial | refine ⟨by first | rfl | simp [setL], ?_⟩)) ?_
   rfl
  ·replace h := condF hc4 h
   refine Run.skip ?_
   refine Run.seq ?_
   refine Run.sr ?_
   refine X.ld shp36 ?_
   refine X.ld shp51 ?_
   obtain ⟨v5, hv5, h⟩ := bindE h
   refine X.callF (s_l17For_pc _ _ _ hv5) (by rfl) (by rfl) (by rfl) (by trivial) (by rfl) (by rfl) (by rfl) (by rfl) ?_
   refine X.len_o elt49 (by rfl) (by rfl) (by first | rfl | simp [setL] | omega) (by first | exact List.length_map .. | rfl) (by rfl) (by rfl) ?_
   refine X.mn ?_
   obtain ⟨o6, ho6, h⟩ := bindE h
   refine R.join2 (β := Unit) [(4, .lptr 256 0)] [(256, .blk true [int 0, int 0, int 0, int 0])] (fun p19 S => S) (fun p19 M => M) (fun p19 => (Sum.inl p19) = o6) ?_ ?_
   ·intro JJ9 hmeet8
    have hup7 := h; clear h; have h := ho6; clear ho6
    refine Run.block ?_
    refine R.bndO (n := 1152) (by rfl) (fun hbd12 => ?_)
    replace hbd12 : v5.length ≤ 9223372036854775807 := by first | (rw [List.length_map] at hbd12; exact hbd12) | simp
    refine R.lp (β := Int) [(2, .lptr 128 0), (3, .lptr 192 0), (4, .lptr 256 0), (19, int (v5.length : Int))] [(128, .blk true [int b0.Deadline, .slice (b0.Activities.map eTActivity), .slice (b0.Links.map eTLink), .slice (b0.Resources.map eTResource), .slice (b0.Stocks.map int)]), (192, .blk true [.slice (b1.MinStart.map int), .slice (b1.MaxStart.map int), .slice (b1.Modes.map l_int)]), (256, .blk true [int 0, int 0, int 0, int 0]), (1152, .obj false 38 4 (v5.map eTRule))] (fun bb S => (18, .own 1152 (v5.map eTRule).length) :: (20, int bb) :: S) (fun bb M => M) (fun n bb => 0 ≤ bb ∧ bb + n = (v5.length : Int) ∧ s_FindRefutation_L1 b0 b1 (v5.drop bb.toNat) bb = some o6) v5.length (0 : Int) ⟨Int.le_refl _, by simp, h⟩ ?_
    clear h
    rintro JJ12 n12 z13 hag12 ⟨hza12, hzb12, h⟩
    refine Run.sr ?_
    refine X.bi ?_
    refine X.nil ?_
    refine Run.seq ?_
    refine R.cd (fun hc16 => ?_) (fun hc16 => ?_)
    ·obtain ⟨x14, xs15, hd12, hx12, hds12, hlt12⟩ := drop_atI hza12 hc16
     rw [hd12] at h
     rw [s_FindRefutation_L1] at h
     refine Run.skip ?_
     refine Run.seq ?_
     refine Run.block ?_
     refine Run.sr ?_
     refine X.index_o elt49 (by rfl) (by rfl) (by first | rfl | simp [setL] | omega) (by rfl) (idxL_spec hx12).1 (idxL_map eTRule hx12) (by rfl) (by rfl) (by rfl) ?_
     refine X.lc shp38 ?_
     refine X.alloc zer38 (by rfl) (by rfl) (by rfl) ?_
     refine X.sl shp38 ?_
     refine X.nil ?_
     refine Run.sr ?_
     refine X.ld shp36 ?_
     refine X.ld shp51 ?_
     refine X.ld shp38 ?_
     obtain ⟨v17, hv17, h⟩ := bindE h
     refine X.cp (s_l17Refutes_pc _ _ _ _ hv17) ?_
     refine X.nil ?_
     refine R.cd (fun hc18 => ?_) (fun hc18 => ?_)
     ·replace h := condT hc18 h
      refine Run.sr ?_
      refine X.ld shp38 ?_
      refine X.sl shp38 ?_
      refine X.an ?_
      cases h
      have h := hup7
      replace h := elimR h
      cases h
      refine R.finC2 Tryz.results26 shp38 (by rfl) (by rfl) (by rfl) (by rfl) (by rfl) (by rfl) (by repeat (first | trivial | refine ⟨by first | rfl | simp [setL], ?_⟩)) ?_
      rfl
     ·replace h := condF hc18 h
      refine Run.skip ?_
      refine Run.blk ?_
      refine Run.reg ?_
      refine X.ad ?_
      refine X.mn ?_
      exact R.ag hag12 (n12 - 1) (z13 + 1) (R.n3 (by first | (rw [hds12]; exact h) | (dsimp only; rw [hds12]; exact h)))
    ·rw [drop_endI hza12 hc16] at h
     rw [s_FindRefutation_L1] at h
     refine Run.exit (by rfl) ?_
     exact R.mt hmeet8 () (Option.some.inj h)
   rintro p19 rfl
   replace h := elimL h
   refine Run.sr ?_
   refine X.build zer38 pl38 (by rfl) (by rfl) (by repeat (first | trivial | refine ⟨by first | rfl | simp [setL], ?_⟩)) (by rfl) (by rfl) (by rfl) ?_
   refine X.sl shp38 ?_
   refine X.an ?_
   cases h
   refine R.finC2 Tryz.results26 shp38 (by rfl) (by rfl) (by rfl) (by rfl) (by rfl) (by rfl) (by repeat (first | trivial | refine ⟨by first | rfl | simp [setL], ?_⟩)) ?_
   rfl
theorem i_FindRefutation_pc (b0 : TProject) (b1 : TDomain) (r : TRule × Bool) (h : i_FindRefutation b0 b1 = some r) : PC Tryz.prog 27 [eTProject b0, eTDomain b1] (.tuple [eTRule r.1, bool r.2]) := by
 unfold i_FindRefutation at h
 refine PC.start Tryz.func27 Tryz.ntmps27 rfl ok27 rfl ?_
 refine Run.sr ?_
 refine X.bx ?_
 refine X.bx ?_
 refine X.alloc zer38 (by rfl) (by rfl) (by rfl) ?_
 refine X.an ?_
 refine Run.seq ?_
 refine Run.seq ?_
 obtain ⟨v1, hv1, h⟩ := bindE h
 obtain ⟨e2, he2, h2⟩ := bindE h
 refine R.regG [(2, .lptr 128 0), (3, .lptr 192 0), (4, .lptr 256 0), (14, bool e2)] [(128, .blk true [int b0.Deadline, .slice (b0.Activities.map eTActivity), .slice (b0.Links.map eTLink), .slice (b0.Resources.map eTResource), .slice (b0.Stocks.map int)]), (192, .blk true [.slice (b1.MinStart.map int), .slice (b1.MaxStart.map int), .slice (b1.Modes.map l_int)]), (256, .blk true [int 0, int 0, int 0, int 0])] ?_ ?_
 ·clear h; have h := he2; clear he2 h2
  refine X.ld shp36 ?_
  refine X.ld shp51 ?_
  refine X.cp (i_DomainForm_pc _ _ _ hv1) ?_
  refine X.mv ?_
  refine X.iG (fun hb3 => ?_) (fun hb3 => ?_)
  ·replace h := condT hb3 h
   refine X.ld shp51 ?_
   refine X.gy ?_
   obtain ⟨v4, hv4, h⟩ := bindE h
   refine X.cp (i_DomainEmpty_pc _ _ hv4) ?_
   refine X.pT ?_
   cases h
   exact X.eG
  ·replace h := condF hb3 h
   refine X.gn ?_
   refine X.pF ?_
   cases h
   exact X.eG
 replace h := h2; clear h2
 refine R.cd (fun hc5 => ?_) (fun hc5 => ?_)
 ·replace h := condT hc5 h
  refine Run.sr ?_
  refine X.build zer38 pl38 (by rfl) (by rfl) (by repeat (first | trivial | refine ⟨by first | rfl | simp [setL], ?_⟩)) (by rfl) (by rfl) (by rfl) ?_
  refine X.sl shp38 ?_
  refine X.an ?_
  cases h
  refine R.finC2 Tryz.results27 shp38 (by rfl) (by rfl) (by rfl) (by rfl) (by rfl) (by rfl) (by repeat (first | trivial | refine ⟨by first | rfl | simp [setL], ?_⟩)) ?_
  rfl
 ·replace h := condF hc5 h
  refine Run.skip ?_
  refine Run.seq ?_
  refine Run.sr ?_
  refine X.ld shp36 ?_
  refine X.ld shp51 ?_
  obtain ⟨v6, hv6, h⟩ := bindE h
  refine X.callF (PC.pubF (i_CandidateRules_pc _ _ _ hv6)) (by rfl) (by rfl) (by rfl) (by trivial) (by rfl) (by rfl) (by rfl) (by rfl) ?_
  refine X.len_o elt49 (by rfl) (by rfl) (by first | rfl | simp [setL] | omega) (by first | exact List.length_map .. | rfl) (by rfl) (by rfl) ?_
  refine X.mn ?_
  obtain ⟨o7, ho7, h⟩ := bindE h
  refine R.join2 (β := Unit) [(4, .lptr 256 0)] [(256, .blk true [int 0, int 0, int 0, int 0])] (fun p20 S => S) (fun p20 M => M) (fun p20 => (Sum.inl p20) = o7) ?_ ?_
  ·intro JJ10 hmeet9
   have hup8 := h; clear h; have h := ho7; clear ho7
   refine Run.block ?_
   refine R.bndO (n := 1152) (by rfl) (fun hbd13 => ?_)
   replace hbd13 : v6.length ≤ 9223372036854775807 := by first | (rw [List.length_map] at hbd13; exact hbd13) | simp
   refine R.lp (β := Int) [(2, .lptr 128 0), (3, .lptr 192 0), (4, .lptr 256 0), (19, int (v6.length : Int))] [(128, .blk true [int b0.Deadline, .slice (b0.Activities.map eTActivity), .slice (b0.Links.map eTLink), .slice (b0.Resources.map eTResource), .slice (b0.Stocks.map int)]), (192, .blk true [.slice (b1.MinStart.map int), .slice (b1.MaxStart.map int), .slice (b1.Modes.map l_int)]), (256, .blk true [int 0, int 0, int 0, int 0]), (1152, .obj false 38 4 (v6.map eTRule))] (fun bb S => (18, .own 1152 (v6.map eTRule).length) :: (20, int bb) :: S) (fun bb M => M) (fun n bb => 0 ≤ bb ∧ bb + n = (v6.length : Int) ∧ i_FindRefutation_L1 b0 b1 (v6.drop bb.toNat) bb = some o7) v6.length (0 : Int) ⟨Int.le_refl _, by simp, h⟩ ?_
   clear h
   rintro JJ13 n13 z14 hag13 ⟨hza13, hzb13, h⟩
   refine Run.sr ?_
   refine X.bi ?_
   refine X.nil ?_
   refine Run.seq ?_
   refine R.cd (fun hc17 => ?_) (fun hc17 => ?_)
   ·obtain ⟨x15, xs16, hd13, hx13, hds13, hlt13⟩ := drop_atI hza13 hc17
    rw [hd13] at h
    rw [i_FindRefutation_L1] at h
    refine Run.skip ?_
    refine Run.seq ?_
    refine Run.block ?_
    refine Run.sr ?_
    refine X.index_o elt49 (by rfl) (by rfl) (by first | rfl | simp [setL] | omega) (by rfl) (idxL_spec hx13).1 (idxL_map eTRule hx13) (by rfl) (by rfl) (by rfl) ?_
    refine X.lc shp38 ?_
    refine X.alloc zer38 (by rfl) (by rfl) (by rfl) ?_
    refine X.sl shp38 ?_
    refine X.nil ?_
    refine Run.sr ?_
    refine X.ld shp36 ?_
    refine X.ld shp51 ?_
    refine X.ld shp38 ?_
    obtain ⟨v18, hv18, h⟩ := bindE h
    refine X.cp (i_Refutes_pc _ _ _ _ hv18) ?_
    refine X.nil ?_
    refine R.cd (fun hc19 => ?_) (fun hc19 => ?_)
    ·replace h := condT hc19 h
     refine Run.sr ?_
     refine X.ld shp38 ?_
     refine X.sl shp38 ?_
     refine X.an ?_
     cases h
     have h := hup8
     replace h := elimR h
     cases h
     refine R.finC2 Tryz.results27 shp38 (by rfl) (by rfl) (by rfl) (by rfl) (by rfl) (by rfl) (by repeat (first | trivial | refine ⟨by first | rfl | simp [setL], ?_⟩)) ?_
     rfl
    ·replace h := condF hc19 h
     refine Run.skip ?_
     refine Run.blk ?_
     refine Run.reg ?_
     refine X.ad ?_
     refine X.mn ?_
     exact R.ag hag13 (n13 - 1) (z14 + 1) (R.n3 (by first | (rw [hds13]; exact h) | (dsimp only; rw [hds13]; exact h)))
   ·rw [drop_endI hza13 hc17] at h
    rw [i_FindRefutation_L1] at h
    refine Run.exit (by rfl) ?_
    exact R.mt hmeet9 () (Option.some.inj h)
  rintro p20 rfl
  replace h := elimL h
  refine Run.sr ?_
  refine X.build zer38 pl38 (by rfl) (by rfl) (by repeat (first | trivial | refine ⟨by first | rfl | simp [setL], ?_⟩)) (by rfl) (by rfl) (by rfl) ?_
  refine X.sl shp38 ?_
  refine X.an ?_
  cases h
  refine R.finC2 Tryz.results27 shp38 (by rfl) (by rfl) (by rfl) (by rfl) (by rfl) (by rfl) (by repeat (first | trivial | refine ⟨by first | rfl | simp [setL], ?_⟩)) ?_
  rfl
theorem w_FnExactFindRefutation_pc (b0 : TProject) (b1 : TDomain) (r : Bool) (h : w_FnExactFindRefutation b0 b1 = some r) : PC Tryz.prog 5 [eTProject b0, eTDomain b1] (bool r) := by
 unfold w_FnExactFindRefutation at h
 refine PC.start Tryz.func5 Tryz.ntmps5 rfl ok5 rfl ?_
 refine Run.sr ?_
 refine X.bx ?_
 refine X.bx ?_
 refine X.an ?_
 refine Run.sr ?_
 refine X.an ?_
 refine Run.sr ?_
 refine X.ld shp27 ?_
 refine X.mv ?_
 obtain ⟨v1, hv1, h⟩ := bindE h
 refine X.cp (w_szProject_pc _ _ _ hv1) ?_
 refine X.an ?_
 refine Run.seq ?_
 refine Run.sr ?_
 refine X.mv ?_
 refine X.bi ?_
 refine X.nil ?_
 refine R.cd (fun hc2 => ?_) (fun hc2 => ?_)
 ·replace h := condT hc2 h
  refine Run.sr ?_
  refine X.an ?_
  cases h
  refine R.f1 Tryz.results5 ?_
  rfl
 ·replace h := condF hc2 h
  refine Run.skip ?_
  refine Run.sr ?_
  refine X.ld shp47 ?_
  refine X.mv ?_
  obtain ⟨v3, hv3, h⟩ := bindE h
  refine X.cp (w_szDomain_pc _ _ _ hv3) ?_
  refine X.an ?_
  refine Run.seq ?_
  refine Run.sr ?_
  refine X.mv ?_
  refine X.bi ?_
  refine X.nil ?_
  refine R.cd (fun hc4 => ?_) (fun hc4 => ?_)
  ·replace h := condT hc4 h
   refine Run.sr ?_
   refine X.an ?_
   cases h
   refine R.f1 Tryz.results5 ?_
   rfl
  ·replace h := condF hc4 h
   refine Run.skip ?_
   refine Run.seq ?_
   refine Run.draw (footOf [(0, ([128], [], [], [])), (1, ([], [1536, 1537, 1538, 1539], [], [])), (2, ([192], [], [], [])), (3, ([], [1664, 1665, 1666], [], [])), (4, ([1536, 1537, 1538, 1539, 1664, 1665, 1666], [], [], [])), (8, ([384], [384], [], [])), (9, ([384], [384], [], []))]) mixed (by kernel_rfl) (by kernel_rfl) ?_
   refine X.ld shp27 ?_
   obtain ⟨v5, hv5, h⟩ := bindE h
   refine X.callA (PC.ofY (ps := [eTProject b0]) (w_toProject_pc _ _ hv5) (by rfl) (by rfl)) (by rfl) (by rfl) (by rfl) (by trivial) (by rfl) (by rfl) (by rfl) (by rfl) (by rfl) (by rfl) ?_
   refine X.ld shp47 ?_
   obtain ⟨v6, hv6, h⟩ := bindE h
   refine X.callA (PC.ofY (ps := [eTDomain b1]) (w_toDomain_pc _ _ hv6) (by rfl) (by rfl)) (by rfl) (by rfl) (by rfl) (by trivial) (by rfl) (by rfl) (by rfl) (by rfl) (by rfl) (by rfl) ?_
   obtain ⟨v7, hv7, h⟩ := bindE h
   refine X.callT2 (s_FindRefutation_pc _ _ _ hv7) (by rfl) (by rfl) (by rfl) (by repeat (first | trivial | refine ⟨by first | rfl | simp [setL], ?_⟩)) (by rfl) (by rfl) (by rfl) (by rfl) (by rfl) (by rfl) ?_
   refine X.mv ?_
   refine X.extract (by rfl) (by rfl) (by rfl) ?_
   refine X.extract (by rfl) (by rfl) (by rfl) ?_
   refine X.alloc zer38 (by rfl) (by rfl) (by rfl) ?_
   refine X.sl shp38 ?_
   refine X.an ?_
   refine Run.sr ?_
   refine X.ld shp27 ?_
   obtain ⟨v8, hv8, h⟩ := bindE h
   refine X.callA (PC.ofY (ps := [eTProject b0]) (w_toProject_pc _ _ hv8) (by rfl) (by rfl)) (by rfl) (by rfl) (by rfl) (by trivial) (by rfl) (by rfl) (by rfl) (by rfl) (by rfl) (by rfl) ?_
   refine X.alloc zer36 (by rfl) (by rfl) (by rfl) ?_
   refine X.sl shp36 ?_
   refine X.nil ?_
   refine Run.sr ?_
   refine X.ld shp47 ?_
   obtain ⟨v9, hv9, h⟩ := bindE h
   refine X.callA (PC.ofY (ps := [eTDomain b1]) (w_toDomain_pc _ _ hv9) (by rfl) (by rfl)) (by rfl) (by rfl) (by rfl) (by trivial) (by rfl) (by rfl) (by rfl) (by rfl) (by rfl) (by rfl) ?_
   refine X.alloc zer51 (by rfl) (by rfl) (by rfl) ?_
   refine X.sl shp51 ?_
   refine X.nil ?_
   refine Run.sr ?_
   refine X.ld shp36 ?_
   refine X.ld shp51 ?_
   obtain ⟨v10, hv10, h⟩ := bindE h
   refine X.callT2 (i_FindRefutation_pc _ _ _ hv10) (by rfl) (by rfl) (by rfl) (by repeat (first | trivial | refine ⟨by first | rfl | simp [setL], ?_⟩)) (by rfl) (by rfl) (by rfl) (by rfl) (by rfl) (by rfl) ?_
   refine X.mv ?_
   refine X.extract (by rfl) (by rfl) (by rfl) ?_
   refine X.extract (by rfl) (by rfl) (by rfl) ?_
   refine X.alloc zer38 (by rfl) (by rfl) (by rfl) ?_
   refine X.sl shp38 ?_
   refine X.an ?_
   refine Run.seq ?_
   refine Run.seq ?_
   obtain ⟨v11, hv11, h⟩ := bindE h
   obtain ⟨e12, he12, h2⟩ := bindE h
   refine R.regG [(2, .lptr 128 0), (3, .lptr 192 0), (8, .lptr 512 0), (9, .lptr 576 0), (48, bool e12)] [(128, .blk true [int b0.Deadline, .slice (b0.Activities.map eTActivity), .slice (b0.Links.map eTLink), .slice (b0.Resources.map eTResource), .slice (b0.Stocks.map int)]), (192, .blk true [.slice (b1.MinStart.map int), .slice (b1.MaxStart.map int), .slice (b1.Modes.map l_int)]), (512, .blk true [int v8.Deadline, .own 1984 (v8.Activities.map eTActivity).length, .own 1985 (v8.Links.map eTLink).length, .own 1986 (v8.Resources.map eTResource).length, .own 1987 (v8.Stocks.map int).length]), (1984, .obj false 108 3 (v8.Activities.map eTActivity)), (1985, .obj false 68 4 (v8.Links.map eTLink)), (1986, .obj false 86 2 (v8.Resources.map eTResource)), (1987, .obj false 3 1 (v8.Stocks.map int)), (576, .blk true [.own 2112 (v9.MinStart.map int).length, .own 2113 (v9.MaxStart.map int).length, .own 2114 (v9.Modes.map l_int).length]), (2112, .obj false 3 1 (v9.MinStart.map int)), (2113, .obj false 3 1 (v9.MaxStart.map int)), (2114, .obj false 25 1 (v9.Modes.map l_int))] ?_ ?_
   ·clear h; have h := he12; clear he12 h2
    refine X.ld shp38 ?_
    refine X.ld shp38 ?_
    refine X.cp (w_eqRule_pc _ _ _ hv11) ?_
    refine X.un (by rfl) (by rfl) (by rfl) ?_
    refine X.mv ?_
    refine X.iG (fun hb13 => ?_) (fun hb13 => ?_)
    ·replace h := condF hb13 h
     refine X.mv ?_
     refine X.gy ?_
     refine X.mv ?_
     refine X.gy ?_
     refine X.neqBool Tryz.underlying4 (by rfl) (by rfl) (by rfl) ?_
     refine X.pF ?_
     cases h
     exact X.eG
    ·replace h := condT hb13 h
     refine X.gn ?_
     refine X.gn ?_
     refine X.pT ?_
     cases h
     exact X.eG
   replace h := h2; clear h2
   refine R.cd (fun hc14 => ?_) (fun hc14 => ?_)
   ·replace h := condT hc14 h
    refine Run.sr ?_
    refine X.an ?_
    cases h
    refine R.f1 Tryz.results5 ?_
    rfl
   ·replace h := condF hc14 h
    refine Run.skip ?_
    refine Run.seq ?_
    refine Run.seq ?_
    refine Run.draw (footOf [(0, ([512], [], [], [])), (1, ([128], [], [], [])), (2, ([], [3264, 3265, 3266, 3267], [], [])), (3, ([1984, 1985, 1986, 1987, 3264, 3265, 3266, 3267], [], [], []))]) mixed (by kernel_rfl) (by kernel_rfl) ?_
    refine X.ld shp36 ?_
    refine X.ld shp27 ?_
    obtain ⟨v15, hv15, h⟩ := bindE h
    refine X.callA (PC.ofY (ps := [eTProject b0]) (w_toProject_pc _ _ hv15) (by rfl) (by rfl)) (by rfl) (by rfl) (by rfl) (by trivial) (by rfl) (by rfl) (by rfl) (by rfl) (by rfl) (by rfl) ?_
    obtain ⟨v16, hv16, h⟩ := bindE h
    refine X.cp (w_eqProject_pc _ _ _ hv16) ?_
    refine X.un (by rfl) (by rfl) (by rfl) ?_
    refine X.nil ?_
    refine R.cd (fun hc17 => ?_) (fun hc17 => ?_)
    ·replace h := condT hc17 h
     refine Run.sr ?_
     refine X.an ?_
     cases h
     refine R.f1 Tryz.results5 ?_
     rfl
    ·replace h := condF hc17 h
     refine Run.skip ?_
     refine Run.seq ?_
     refine Run.seq ?_
     refine Run.draw (footOf [(0, ([576], [], [], [])), (1, ([192], [], [], [])), (2, ([], [3584, 3585, 3586], [], [])), (3, ([2112, 2113, 2114, 3584, 3585, 3586], [], [], []))]) mixed (by kernel_rfl) (by kernel_rfl) ?_
     refine X.ld shp51 ?_
     refine X.ld shp47 ?_
     obtain ⟨v18, hv18, h⟩ := bindE h
     refine X.callA (PC.ofY (ps := [eTDomain b1]) (w_toDomain_pc _ _ hv18) (by rfl) (by rfl)) (by rfl) (by rfl) (by rfl) (by trivial) (by rfl) (by rfl) (by rfl) (by rfl) (by rfl) (by rfl) ?_
     obtain ⟨v19, hv19, h⟩ := bindE h
     refine X.cp (w_eqDomain_pc _ _ _ hv19) ?_
     refine X.un (by rfl) (by rfl) (by rfl) ?_
     refine X.nil ?_
     refine R.cd (fun hc20 => ?_) (fun hc20 => ?_)
     ·replace h := condT hc20 h
      refine Run.sr ?_
      refine X.an ?_
      cases h
      refine R.f1 Tryz.results5 ?_
      rfl
     ·replace h := condF hc20 h
      refine Run.skip ?_
      refine Run.sr ?_
      refine X.an ?_
      cases h
      refine R.f1 Tryz.results5 ?_
      rfl
end Go.Px.YtiinfmdopfkefaaGreat
