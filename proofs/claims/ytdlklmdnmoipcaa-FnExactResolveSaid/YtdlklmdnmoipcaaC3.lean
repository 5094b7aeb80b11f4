/-
  PROVED: contracts of functions of the program over pure values. No condition beyond those that each theorem names.
-/
import Derived.Test.YtdlklmdnmoipcaaProg
import Derived.Test.YtdlklmdnmoipcaaD1
import Derived.Test.YtdlklmdnmoipcaaS
import Derived.Test.YtdlklmdnmoipcaaC1
namespace Go.Px.Ytdlklmdnmoipcaa
set_option linter.unusedSimpArgs false
set_option linter.unusedVariables false
open Go.Px Go.Proofs
theorem ok29 : okFn Try.prog 29 = true := by kernel_rfl
theorem pl33 : fldPlaces Try.prog 33 = some [(0, 1), (1, 1), (2, 1)] := by kernel_rfl
theorem ok21 : okFn Try.prog 21 = true := by kernel_rfl
theorem ok12 : okFn Try.prog 12 = true := by kernel_rfl
theorem ok31 : okFn Try.prog 31 = true := by kernel_rfl
theorem ok44 : okFn Try.prog 44 = true := by kernel_rfl
theorem ok30 : okFn Try.prog 30 = true := by kernel_rfl
theorem ok22 : okFn Try.prog 22 = true := by kernel_rfl
theorem ok32 : okFn Try.prog 32 = true := by kernel_rfl
theorem ok23 : okFn Try.prog 23 = true := by kernel_rfl
theorem ok14 : okFn Try.prog 14 = true := by kernel_rfl
theorem ok4 : okFn Try.prog 4 = true := by kernel_rfl
theorem s_l01In_pc (b0 : Int) (b1 : Int) (b2 : Int) (r : Bool) (h : s_l01In b0 b1 b2 = some r) : PC Try.prog 29 [int b0, int b1, int b2] (bool r) := by
 unfold s_l01In at h
 refine PC.start Try.func29 Try.ntmps29 rfl ok29 rfl ?_
 refine Run.sr ?_
 refine X.an ?_
 refine Run.seq ?_
 obtain ⟨e1, he1, h2⟩ := bindE h
 refine R.regG [(6, bool e1)] [] ?_ ?_
 ·clear h; have h := he1; clear he1 h2
  refine X.mv ?_
  refine X.mv ?_
  refine X.bi ?_
  refine X.mv ?_
  refine X.iG (fun hb2 => ?_) (fun hb2 => ?_)
  ·replace h := condT hb2 h
   refine X.mv ?_
   refine X.gy ?_
   refine X.mv ?_
   refine X.gy ?_
   refine X.bi ?_
   refine X.pT ?_
   refine X.as ?_
   cases h
   exact X.eG
  ·replace h := condF hb2 h
   refine X.gn ?_
   refine X.gn ?_
   refine X.pF ?_
   refine X.as ?_
   cases h
   exact X.eG
 replace h := h2; clear h2
 cases h
 refine R.f1 Try.results29 ?_
 rfl
theorem s_Negate_pc (b0 : TLiteral) (r : TLiteral) (h : s_Negate b0 = some r) : PC Try.prog 21 [eTLiteral b0] (eTLiteral r) := by
 unfold s_Negate at h
 refine PC.start Try.func21 Try.ntmps21 rfl ok21 rfl ?_
 refine Run.sr ?_
 refine X.bx ?_
 refine X.alloc zer33 (by rfl) (by rfl) (by rfl) ?_
 refine X.nil ?_
 refine Run.seq ?_
 refine Run.sr ?_
 refine X.fl fld33_2 ?_
 refine X.ld shp3 ?_
 obtain ⟨v1, hv1, h⟩ := bindE h
 refine X.cp (s_l01In_pc _ _ _ _ hv1) ?_
 refine X.un (by rfl) (by rfl) (by rfl) ?_
 refine X.nil ?_
 refine R.cd (fun hc2 => ?_) (fun hc2 => ?_)
 ·replace h := condT hc2 h
  refine Run.sr ?_
  refine X.build zer33 pl33 (by rfl) (by rfl) (by repeat (first | trivial | refine ⟨by first | rfl | simp [setL], ?_⟩)) (by rfl) (by rfl) (by rfl) ?_
  refine X.sl shp33 ?_
  refine X.nil ?_
  cases h
  refine R.finC Try.results21 shp33 (by rfl) (by rfl) (by rfl) (by rfl) (by repeat (first | trivial | refine ⟨by first | rfl | simp [setL], ?_⟩)) ?_
  rfl
 ·replace h := condF hc2 h
  refine Run.skip ?_
  refine Run.seq ?_
  refine Run.sr ?_
  refine X.fl fld33_0 ?_
  refine X.ld shp3 ?_
  refine X.nil ?_
  refine Run.block ?_
  refine Run.sr ?_
  refine X.bi ?_
  refine X.an ?_
  refine R.cd (fun hc3 => ?_) (fun hc3 => ?_)
  ·replace h := condT hc3 h
   refine Run.sr ?_
   refine X.fl fld33_1 ?_
   refine X.ld shp3 ?_
   refine X.fl fld33_2 ?_
   refine X.ld shp3 ?_
   refine X.subW (by rfl) (by rfl) (by rfl) ?_
   refine X.build zer33 pl33 (by rfl) (by rfl) (by repeat (first | trivial | refine ⟨by first | rfl | simp [setL], ?_⟩)) (by rfl) (by rfl) (by rfl) ?_
   refine X.sl shp33 ?_
   refine X.nil ?_
   cases h
   refine R.finC Try.results21 shp33 (by rfl) (by rfl) (by rfl) (by rfl) (by repeat (first | trivial | refine ⟨by first | rfl | simp [setL], ?_⟩)) ?_
   rfl
  ·replace h := condF hc3 h
   refine Run.sr ?_
   refine X.bi ?_
   refine X.an ?_
   refine R.cd (fun hc4 => ?_) (fun hc4 => ?_)
   ·replace h := condT hc4 h
    refine Run.sr ?_
    refine X.fl fld33_1 ?_
    refine X.ld shp3 ?_
    refine X.fl fld33_2 ?_
    refine X.ld shp3 ?_
    refine X.addW (by rfl) (by rfl) (by rfl) ?_
    refine X.build zer33 pl33 (by rfl) (by rfl) (by repeat (first | trivial | refine ⟨by first | rfl | simp [setL], ?_⟩)) (by rfl) (by rfl) (by rfl) ?_
    refine X.sl shp33 ?_
    refine X.nil ?_
    cases h
    refine R.finC Try.results21 shp33 (by rfl) (by rfl) (by rfl) (by rfl) (by repeat (first | trivial | refine ⟨by first | rfl | simp [setL], ?_⟩)) ?_
    rfl
   ·replace h := condF hc4 h
    refine Run.sr ?_
    refine X.bi ?_
    refine X.an ?_
    refine R.cd (fun hc5 => ?_) (fun hc5 => ?_)
    ·replace h := condT hc5 h
     refine Run.sr ?_
     refine X.fl fld33_1 ?_
     refine X.ld shp3 ?_
     refine X.fl fld33_2 ?_
     refine X.ld shp3 ?_
     refine X.build zer33 pl33 (by rfl) (by rfl) (by repeat (first | trivial | refine ⟨by first | rfl | simp [setL], ?_⟩)) (by rfl) (by rfl) (by rfl) ?_
     refine X.sl shp33 ?_
     refine X.nil ?_
     cases h
     refine R.finC Try.results21 shp33 (by rfl) (by rfl) (by rfl) (by rfl) (by repeat (first | trivial | refine ⟨by first | rfl | simp [setL], ?_⟩)) ?_
     rfl
    ·replace h := condF hc5 h
     refine Run.sr ?_
     refine X.bi ?_
     refine X.an ?_
     refine R.cd (fun hc6 => ?_) (fun hc6 => ?_)
     ·replace h := condT hc6 h
      refine Run.sr ?_
      refine X.fl fld33_1 ?_
      refine X.ld shp3 ?_
      refine X.fl fld33_2 ?_
      refine X.ld shp3 ?_
      refine X.build zer33 pl33 (by rfl) (by rfl) (by repeat (first | trivial | refine ⟨by first | rfl | simp [setL], ?_⟩)) (by rfl) (by rfl) (by rfl) ?_
      refine X.sl shp33 ?_
      refine X.nil ?_
      cases h
      refine R.finC Try.results21 shp33 (by rfl) (by rfl) (by rfl) (by rfl) (by repeat (first | trivial | refine ⟨by first | rfl | simp [setL], ?_⟩)) ?_
      rfl
     ·replace h := condF hc6 h
      refine Run.skip ?_
      refine Run.blk ?_
      refine Run.sr ?_
      refine X.build zer33 pl33 (by rfl) (by rfl) (by repeat (first | trivial | refine ⟨by first | rfl | simp [setL], ?_⟩)) (by rfl) (by rfl) (by rfl) ?_
      refine X.sl shp33 ?_
      refine X.nil ?_
      cases h
      refine R.finC Try.results21 shp33 (by rfl) (by rfl) (by rfl) (by rfl) (by repeat (first | trivial | refine ⟨by first | rfl | simp [setL], ?_⟩)) ?_
      rfl
theorem s_Resolve_pc (b0 : List TLiteral) (b1 : List TLiteral) (b2 : TLiteral) (r : List TLiteral) (h : s_Resolve b0 b1 b2 = some r) : PC Try.prog 12 [.slice (b0.map eTLiteral), .slice (b1.map eTLiteral), eTLiteral b2] (.slice (r.map eTLiteral)) := by
 unfold s_Resolve at h
 refine PC.start Try.func12 Try.ntmps12 rfl ok12 rfl ?_
 refine Run.sr ?_
 refine X.bx ?_
 refine X.an ?_
 refine Run.sr ?_
 refine X.buildSlice false elt24 zer33 (by rfl) (by rfl) (by rfl) (by rfl) (by rfl) (by rfl) (by repeat (first | trivial | refine ⟨by first | rfl | simp [setL], ?_⟩)) (allSz_spec (by rfl)) (by rfl) (by rfl) (by rfl) ?_
 refine X.an ?_
 refine Run.seq ?_
 refine Run.sr ?_
 refine X.mv ?_
 refine X.ls elt24 ?_
 refine X.mn ?_
 obtain ⟨o1, ho1, h⟩ := bindE h
 refine R.join2 (β := (List TLiteral)) [(1, .slice (b1.map eTLiteral)), (5, .lptr 320 0)] [(320, .blk true [int b2.Kind, int b2.Activity, int b2.Value])] (fun p15 S => (7, .own 768 (p15.map eTLiteral).length) :: S) (fun p15 M => (768, .obj false 33 3 (p15.map eTLiteral)) :: M) (fun p15 => p15 = o1) ?_ ?_
 ·intro JJ4 hmeet3
  have hup2 := h; clear h; have h := ho1; clear ho1
  refine Run.block ?_
  refine R.bndS (t := 0) (by rfl) (fun hbd7 => ?_)
  replace hbd7 : b0.length ≤ 9223372036854775807 := by first | (rw [List.length_map] at hbd7; exact hbd7) | simp
  refine R.lp (β := Int × (List TLiteral)) [(1, .slice (b1.map eTLiteral)), (5, .lptr 320 0), (13, .slice (b0.map eTLiteral)), (14, int (b0.length : Int))] [(320, .blk true [int b2.Kind, int b2.Activity, int b2.Value])] (fun bb S => (7, .own 768 (bb.2.map eTLiteral).length) :: (15, int bb.1) :: S) (fun bb M => (768, .obj false 33 3 (bb.2.map eTLiteral)) :: M) (fun n bb => 0 ≤ bb.1 ∧ bb.1 + n = (b0.length : Int) ∧ s_Resolve_L1 b2 (b0.drop bb.1.toNat) bb.1 bb.2 = some o1) b0.length (0, ([] : List TLiteral)) ⟨Int.le_refl _, by simp, h⟩ ?_
  clear h
  rintro JJ7 n7 ⟨z8, a9⟩ hag7 ⟨hza7, hzb7, h⟩
  dsimp only at hza7 hzb7 h
  refine Run.sr ?_
  refine X.bi ?_
  refine X.nil ?_
  refine Run.seq ?_
  refine R.cd (fun hc12 => ?_) (fun hc12 => ?_)
  ·obtain ⟨x10, xs11, hd7, hx7, hds7, hlt7⟩ := drop_atI hza7 hc12
   rw [hd7] at h
   rw [s_Resolve_L1] at h
   refine Run.skip ?_
   refine Run.seq ?_
   refine Run.block ?_
   refine Run.sr ?_
   refine X.ix elt24 (idxL_spec hx7).1 (idxL_map eTLiteral hx7) ?_
   refine X.lc shp33 ?_
   refine X.alloc zer33 (by rfl) (by rfl) (by rfl) ?_
   refine X.sl shp33 ?_
   refine X.nil ?_
   refine Run.sr ?_
   refine X.ld shp33 ?_
   refine X.ld shp33 ?_
   refine X.neqAgg flat33 (by rfl) (by rfl) (by rfl) (by rfl) ?_
   refine X.nil ?_
   refine R.cd (fun hc13 => ?_) (fun hc13 => ?_)
   ·replace h := condT hc13 h
    refine Run.reg ?_
    refine X.mv ?_
    refine X.ld shp33 ?_
    refine X.buildSlice false elt24 zer33 (by rfl) (by rfl) (by rfl) (by rfl) (by rfl) (by rfl) (by repeat (first | trivial | refine ⟨by first | rfl | simp [setL], ?_⟩)) (allSz_spec (by rfl)) (by rfl) (by rfl) (by rfl) ?_
    obtain ⟨v14, hv14, h⟩ := bindE h
    refine X.append elt24 zer33 (by rfl) (by rfl) (by first | rfl | simp [setL] | omega) (by rfl) (.own _ _ _ _ _ _ (look_mem (by rfl)) (by first | rfl | simp [setL] | omega)) (allSz_spec (by rfl)) (appL_len eTLiteral hv14) (appL_map eTLiteral hv14) (by rfl) (by rfl) (by rfl) (by rfl) ?_
    refine X.an ?_
    refine Run.blk ?_
    refine Run.reg ?_
    refine X.ad ?_
    refine X.mn ?_
    exact R.ag hag7 (n7 - 1) (z8 + 1, v14) (R.n3 (by first | (rw [hds7]; exact h) | (dsimp only; rw [hds7]; exact h)))
   ·replace h := condF hc13 h
    refine Run.skip ?_
    refine Run.blk ?_
    refine Run.reg ?_
    refine X.ad ?_
    refine X.mn ?_
    exact R.ag hag7 (n7 - 1) (z8 + 1, a9) (R.n3 (by first | (rw [hds7]; exact h) | (dsimp only; rw [hds7]; exact h)))
  ·rw [drop_endI hza7 hc12] at h
   rw [s_Resolve_L1] at h
   refine Run.exit (by rfl) ?_
   exact R.mt hmeet3 a9 (Option.some.inj h)
 rintro p15 rfl
 refine Run.seq ?_
 refine Run.sr ?_
 refine X.mv ?_
 refine X.ls elt24 ?_
 refine X.mn ?_
 obtain ⟨o16, ho16, h⟩ := bindE h
 refine R.join2 (β := (List TLiteral)) [] [] (fun p31 S => (7, .own 768 (p31.map eTLiteral).length) :: S) (fun p31 M => (768, .obj false 33 3 (p31.map eTLiteral)) :: M) (fun p31 => p31 = o16) ?_ ?_
 ·intro JJ19 hmeet18
  have hup17 := h; clear h; have h := ho16; clear ho16
  refine Run.block ?_
  refine R.bndS (t := 1) (by rfl) (fun hbd22 => ?_)
  replace hbd22 : b1.length ≤ 9223372036854775807 := by first | (rw [List.length_map] at hbd22; exact hbd22) | simp
  refine R.lp (β := Int × (List TLiteral)) [(5, .lptr 320 0), (27, .slice (b1.map eTLiteral)), (28, int (b1.length : Int))] [(320, .blk true [int b2.Kind, int b2.Activity, int b2.Value])] (fun bb S => (7, .own 768 (bb.2.map eTLiteral).length) :: (29, int bb.1) :: S) (fun bb M => (768, .obj false 33 3 (bb.2.map eTLiteral)) :: M) (fun n bb => 0 ≤ bb.1 ∧ bb.1 + n = (b1.length : Int) ∧ s_Resolve_L2 b2 (b1.drop bb.1.toNat) bb.1 bb.2 = some o16) b1.length (0, p15) ⟨Int.le_refl _, by simp, h⟩ ?_
  clear h
  rintro JJ22 n22 ⟨z23, a24⟩ hag22 ⟨hza22, hzb22, h⟩
  dsimp only at hza22 hzb22 h
  refine Run.sr ?_
  refine X.bi ?_
  refine X.nil ?_
  refine Run.seq ?_
  refine R.cd (fun hc27 => ?_) (fun hc27 => ?_)
  ·obtain ⟨x25, xs26, hd22, hx22, hds22, hlt22⟩ := drop_atI hza22 hc27
   rw [hd22] at h
   rw [s_Resolve_L2] at h
   refine Run.skip ?_
   refine Run.seq ?_
   refine Run.block ?_
   refine Run.sr ?_
   refine X.ix elt24 (idxL_spec hx22).1 (idxL_map eTLiteral hx22) ?_
   refine X.lc shp33 ?_
   refine X.alloc zer33 (by rfl) (by rfl) (by rfl) ?_
   refine X.sl shp33 ?_
   refine X.nil ?_
   refine Run.seq ?_
   refine Run.draw (footOf [(0, ([704], [], [], [])), (1, ([320], [], [], []))]) mixed (by kernel_rfl) (by kernel_rfl) ?_
   refine X.ld shp33 ?_
   refine X.ld shp33 ?_
   obtain ⟨v28, hv28, h⟩ := bindE h
   refine X.callA (s_Negate_pc _ _ hv28) (by rfl) (by rfl) (by rfl) (by trivial) (by rfl) (by rfl) (by rfl) (by rfl) (by rfl) (by rfl) ?_
   refine X.neqAgg flat33 (by rfl) (by rfl) (by rfl) (by rfl) ?_
   refine X.nil ?_
   refine R.cd (fun hc29 => ?_) (fun hc29 => ?_)
   ·replace h := condT hc29 h
    refine Run.reg ?_
    refine X.mv ?_
    refine X.ld shp33 ?_
    refine X.buildSlice false elt24 zer33 (by rfl) (by rfl) (by rfl) (by rfl) (by rfl) (by rfl) (by repeat (first | trivial | refine ⟨by first | rfl | simp [setL], ?_⟩)) (allSz_spec (by rfl)) (by rfl) (by rfl) (by rfl) ?_
    obtain ⟨v30, hv30, h⟩ := bindE h
    refine X.append elt24 zer33 (by rfl) (by rfl) (by first | rfl | simp [setL] | omega) (by rfl) (.own _ _ _ _ _ _ (look_mem (by rfl)) (by first | rfl | simp [setL] | omega)) (allSz_spec (by rfl)) (appL_len eTLiteral hv30) (appL_map eTLiteral hv30) (by rfl) (by rfl) (by rfl) (by rfl) ?_
    refine X.an ?_
    refine Run.blk ?_
    refine Run.reg ?_
    refine X.ad ?_
    refine X.mn ?_
    exact R.ag hag22 (n22 - 1) (z23 + 1, v30) (R.n3 (by first | (rw [hds22]; exact h) | (dsimp only; rw [hds22]; exact h)))
   ·replace h := condF hc29 h
    refine Run.skip ?_
    refine Run.blk ?_
    refine Run.reg ?_
    refine X.ad ?_
    refine X.mn ?_
    exact R.ag hag22 (n22 - 1) (z23 + 1, a24) (R.n3 (by first | (rw [hds22]; exact h) | (dsimp only; rw [hds22]; exact h)))
  ·rw [drop_endI hza22 hc27] at h
   rw [s_Resolve_L2] at h
   refine Run.exit (by rfl) ?_
   exact R.mt hmeet18 a24 (Option.some.inj h)
 rintro p31 rfl
 refine Run.sr ?_
 refine X.mv ?_
 obtain ⟨v32, hv32, h⟩ := bindE h
 refine X.cp (s_NewClause_pc _ _ hv32) ?_
 refine X.an ?_
 cases h
 refine R.f1 Try.results12 ?_
 rfl
theorem i_withoutOf_c1_pc (b0 : TLiteral) (c1 : TLiteral) (r : Bool) (h : i_withoutOf_c1 b0 c1 = some r) : PC Try.prog 31 [eTLiteral b0, .cptr (eTLiteral c1 : PV).cells 0] (bool r) := by
 unfold i_withoutOf_c1 at h
 refine PC.start Try.func31 Try.ntmps31 rfl ok31 rfl ?_
 refine Run.sr ?_
 refine X.bx ?_
 refine X.an ?_
 refine Run.sr ?_
 refine X.ld shp33 ?_
 refine X.lc shp33 ?_
 refine X.eqlAgg flat33 (by rfl) (by rfl) (by rfl) (by rfl) ?_
 refine X.an ?_
 cases h
 refine R.f1 Try.results31 ?_
 rfl
theorem slices_IndexFunc_Literal_pc (b0 : List TLiteral) (g1 : TLiteral → Option Bool) (g1id : Nat) (g1c : List PV) (hg1 : ∀ (x0 : TLiteral) v, g1 x0 = some v → PC Try.prog g1id ([eTLiteral x0] ++ g1c) (bool v)) (r : Int) (h : slices_IndexFunc_Literal b0 g1 = some r) : PC Try.prog 44 [.slice (b0.map eTLiteral), .fn g1id g1c] (int r) := by
 unfold slices_IndexFunc_Literal at h
 refine PC.start Try.func44 Try.ntmps44 rfl ok44 rfl ?_
 refine Run.sr ?_
 refine X.an ?_
 refine Run.seq ?_
 refine Run.sr ?_
 refine X.mv ?_
 refine X.ls elt24 ?_
 refine X.mn ?_
 obtain ⟨o1, ho1, h⟩ := bindE h
 refine R.join2 (β := Unit) [] [] (fun p14 S => S) (fun p14 M => M) (fun p14 => (Sum.inl p14) = o1) ?_ ?_
 ·intro JJ4 hmeet3
  have hup2 := h; clear h; have h := ho1; clear ho1
  refine Run.block ?_
  refine R.bndS (t := 0) (by rfl) (fun hbd7 => ?_)
  replace hbd7 : b0.length ≤ 9223372036854775807 := by first | (rw [List.length_map] at hbd7; exact hbd7) | simp
  refine R.lp (β := Int) [(0, .slice (b0.map eTLiteral)), (1, .fn g1id g1c), (7, int (b0.length : Int))] [] (fun bb S => (8, int bb) :: S) (fun bb M => M) (fun n bb => 0 ≤ bb ∧ bb + n = (b0.length : Int) ∧ slices_IndexFunc_Literal_L1 g1 (b0.drop bb.toNat) bb = some o1) b0.length (0 : Int) ⟨Int.le_refl _, by simp, h⟩ ?_
  clear h
  rintro JJ7 n7 z8 hag7 ⟨hza7, hzb7, h⟩
  refine Run.sr ?_
  refine X.bi ?_
  refine X.nil ?_
  refine Run.seq ?_
  refine R.cd (fun hc11 => ?_) (fun hc11 => ?_)
  ·obtain ⟨x9, xs10, hd7, hx7, hds7, hlt7⟩ := drop_atI hza7 hc11
   rw [hd7] at h
   rw [slices_IndexFunc_Literal_L1] at h
   refine Run.skip ?_
   refine Run.seq ?_
   refine Run.block ?_
   refine Run.sr ?_
   refine X.mv ?_
   refine X.an ?_
   refine Run.sr ?_
   refine X.mv ?_
   refine X.mv ?_
   refine X.mv ?_
   refine X.ix elt24 (idxL_spec hx7).1 (idxL_map eTLiteral hx7) ?_
   refine X.lc shp33 ?_
   obtain ⟨v12, hv12, h⟩ := bindE h
   refine X.cp (hg1 _ _ hv12) ?_
   refine X.nil ?_
   refine R.cd (fun hc13 => ?_) (fun hc13 => ?_)
   ·replace h := condT hc13 h
    refine Run.sr ?_
    refine X.mv ?_
    refine X.an ?_
    cases h
    have h := hup2
    replace h := elimR h
    cases h
    refine R.f1 Try.results44 ?_
    rfl
   ·replace h := condF hc13 h
    refine Run.skip ?_
    refine Run.blk ?_
    refine Run.reg ?_
    refine X.ad ?_
    refine X.mn ?_
    exact R.ag hag7 (n7 - 1) (z8 + 1) (R.n3 (by first | (rw [hds7]; exact h) | (dsimp only; rw [hds7]; exact h)))
  ·rw [drop_endI hza7 hc11] at h
   rw [slices_IndexFunc_Literal_L1] at h
   refine Run.exit (by rfl) ?_
   exact R.mt hmeet3 () (Option.some.inj h)
 rintro p14 rfl
 replace h := elimL h
 refine Run.sr ?_
 refine X.an ?_
 cases h
 refine R.f1 Try.results44 ?_
 rfl
theorem slices_DeleteFunc_Literal_pc (b0 : List TLiteral) (g1 : TLiteral → Option Bool) (g1id : Nat) (g1c : List PV) (hg1 : ∀ (x0 : TLiteral) v, g1 x0 = some v → PC Try.prog g1id ([eTLiteral x0] ++ g1c) (bool v)) (r : List TLiteral) (h : slices_DeleteFunc_Literal b0 g1 = some r) : CCutA Try.prog 30 33 3 (b0.map eTLiteral) [.fn g1id g1c] (r.map eTLiteral) := by
 unfold slices_DeleteFunc_Literal at h
 refine CCutA.start Try.func30 Try.ntmps30 rfl ok30 rfl ?_
 refine Run.sr ?_
 refine X.an ?_
 refine Run.sr ?_
 refine X.mv ?_
 refine X.mv ?_
 obtain ⟨v1, hv1, h⟩ := bindE h
 refine X.callM [(63, 63)] (PC.lend (M0 := [(63, .obj true 33 3 (b0.map eTLiteral))]) (slices_IndexFunc_Literal_pc _ g1 _ _ hg1 _ hv1) (.lit _) (by rfl) (.own 63 _ _ _ _ _ _ _ (by rfl) (by first | rfl | simp [setL] | omega) (.same _ _ _ (by rfl) .nil))) (by rfl) (by rfl) (.ownB 63 (by rfl) (by first | rfl | simp [setL] | omega) (by rfl) (.pureB (by rfl) (by repeat (first | trivial | refine ⟨by first | rfl | simp [setL], ?_⟩)) .nil)) (by rfl) ⟨rfl, rfl, ⟨_, by rfl, by constructor⟩, by constructor, trivial⟩ (by rfl) (by rfl) (by rfl) (by rfl) (by rfl) (by rfl) (by rfl) (by rfl) (by rfl) ?_
 refine X.an ?_
 refine Run.seq ?_
 refine Run.sr ?_
 refine X.mv ?_
 refine X.bi ?_
 refine X.nil ?_
 refine R.cd (fun hc2 => ?_) (fun hc2 => ?_)
 ·replace h := condT hc2 h
  refine Run.sr ?_
  refine X.mv ?_
  refine X.an ?_
  cases h
  exact R.finCo Try.results30 (by rfl) (by rfl) (by first | rfl | simp [setL] | omega) (by rfl) (flat_lit _ (fun _ => (by repeat (first | exact trivial | refine ⟨trivial, ?_⟩))))
 ·replace h := condF hc2 h
  refine Run.skip ?_
  refine Run.seq ?_
  refine Run.sr ?_
  refine X.mv ?_
  refine X.addW (by rfl) (by rfl) (by rfl) ?_
  refine X.an ?_
  obtain ⟨o3, ho3, h⟩ := bindE h
  refine R.join2 (β := Int × (List TLiteral)) [] [] (fun p18 S => (0, .own 63 (p18.2.map eTLiteral).length) :: (5, int p18.1) :: S) (fun p18 M => (63, .obj true 33 3 (p18.2.map eTLiteral)) :: M) (fun p18 => p18 = o3) ?_ ?_
  ·intro JJ6 hmeet5
   have hup4 := h; clear h; have h := ho3; clear ho3
   refine Run.block ?_
   refine R.lp (β := Int × Int × (List TLiteral)) [(1, .fn g1id g1c)] [] (fun bb S => (0, .own 63 (bb.2.2.map eTLiteral).length) :: (5, int bb.1) :: (6, int bb.2.1) :: S) (fun bb M => (63, .obj true 33 3 (bb.2.2.map eTLiteral)) :: M) (fun n bb => slices_DeleteFunc_Literal_L1 g1 n bb.1 bb.2.1 bb.2.2 = some o3) F0 (v1, (W (v1 + 1)), b0) h ?_
   clear h
   rintro JJ6 n6 ⟨a8, a9, a10⟩ hag6 h
   dsimp only at h
   obtain _ | n6 := n6
   ·exact absurd h (by simp [slices_DeleteFunc_Literal_L1])
   rw [slices_DeleteFunc_Literal_L1] at h
   refine Run.seq ?_
   refine Run.sr ?_
   refine X.mv ?_
   refine X.mv ?_
   refine X.len_o elt24 (by rfl) (by rfl) (by first | rfl | simp [setL] | omega) (by first | exact List.length_map .. | rfl) (by rfl) (by rfl) ?_
   refine X.bi ?_
   refine X.nil ?_
   refine R.cd (fun hc13 => ?_) (fun hc13 => ?_)
   ·replace h := condT hc13 h
    refine Run.skip ?_
    refine Run.seq ?_
    refine Run.block ?_
    refine Run.sr ?_
    refine X.mv ?_
    refine X.mv ?_
    obtain ⟨v14, hv14, h⟩ := bindE h
    refine X.index_xs elt24 (by rfl) (by rfl) (by first | rfl | simp [setL] | omega) (by rfl) (by exact (Int.toNat_of_nonneg (idxL_spec hv14).1).symm) (by have := idxL_lt hv14; first | exact this | (rw [List.length_map]; exact this)) (by rfl) (by rfl) ?_
    refine X.load_e shp33 (by rfl) (by rfl) (by rfl) (by first | rfl | simp [setL] | omega) (idxL_map _ hv14) (by rfl) (by rfl) (by rfl) ?_
    refine X.alloc zer33 (by rfl) (by rfl) (by rfl) ?_
    refine X.sl shp33 ?_
    refine X.nil ?_
    refine Run.sr ?_
    refine X.mv ?_
    refine X.ld shp33 ?_
    obtain ⟨v15, hv15, h⟩ := bindE h
    refine X.cp (hg1 _ _ hv15) ?_
    refine X.un (by rfl) (by rfl) (by rfl) ?_
    refine X.nil ?_
    refine R.cd (fun hc16 => ?_) (fun hc16 => ?_)
    ·replace h := condT hc16 h
     refine Run.sr ?_
     refine X.mv ?_
     refine X.mv ?_
     refine X.ld shp33 ?_
     obtain ⟨v17, hv17, h⟩ := bindE h
     refine X.index_xs elt24 (by rfl) (by rfl) (by first | rfl | simp [setL] | omega) (by rfl) (by exact (Int.toNat_of_nonneg (idxL_spec hv17).1).symm) (by have := idxL_lt hv17; first | exact this | (rw [List.length_map]; exact this)) (by rfl) (by rfl) ?_
     refine X.store_es shp33 (by rfl) (by rfl) (by first | rfl | simp [setL] | omega) (idxL_map _ hv17) (by rfl) (by rfl) (by repeat (first | trivial | refine ⟨by first | rfl | simp [setL], ?_⟩)) (by rfl) (by rfl) (by rfl) (by rfl) (by exact setL_map _ _ _ v14) ?_
     refine X.nil ?_
     refine Run.reg ?_
     refine X.mv ?_
     refine X.addW (by rfl) (by rfl) (by rfl) ?_
     refine X.an ?_
     refine Run.blk ?_
     refine Run.reg ?_
     refine X.mv ?_
     refine X.addW (by rfl) (by rfl) (by rfl) ?_
     refine X.an ?_
     refine R.castS (t := 0) (.own 63 ((setL a10 a8 v14).map eTLiteral).length) (by rfl) (.inl (by first | rfl | simp [setL])) ?_
     exact hag6 n6 ((W (a8 + 1)), (W (a9 + 1)), (setL a10 a8 v14)) _ _ (by omega) h (by repeat (first | trivial | refine ⟨by first | rfl | simp [setL], ?_⟩)) (by repeat (first | trivial | refine ⟨by first | rfl | simp [setL], ?_⟩)) (by rfl) (by rfl)
    ·replace h := condF hc16 h
     refine Run.skip ?_
     refine Run.blk ?_
     refine Run.reg ?_
     refine X.mv ?_
     refine X.addW (by rfl) (by rfl) (by rfl) ?_
     refine X.an ?_
     exact hag6 n6 (a8, (W (a9 + 1)), a10) _ _ (by omega) h (by repeat (first | trivial | refine ⟨by first | rfl | simp [setL], ?_⟩)) (by repeat (first | trivial | refine ⟨by first | rfl | simp [setL], ?_⟩)) (by rfl) (by rfl)
   ·replace h := condF hc13 h
    refine Run.exit (by rfl) ?_
    exact R.mt hmeet5 (a8, a10) (Option.some.inj h)
  rintro p18 rfl
  refine Run.sr ?_
  refine X.mv ?_
  refine X.mv ?_
  obtain ⟨v19, hv19, h⟩ := bindE h
  refine X.sliceXB elt24 (by rfl) (by rfl) (by first | rfl | simp [setL] | omega) (by rfl) (by simpa using begL_spec hv19) (by rfl) (by rfl) ?_
  refine X.clearL (eTLiteral (TLiteral.mk 0 0 0)) elt24 zer33 (by first | exact .inl rfl | exact .inr rfl) (by rfl) (by simp [PV.plain]) (by rfl) (by rfl) (by first | rfl | simp [setL] | omega) (show _ = (clrL p18.2 v19 p18.2.length (TLiteral.mk 0 0 0)).map eTLiteral by simpa using clrL_map (eTLiteral) p18.2 v19 p18.2.length (TLiteral.mk 0 0 0)) (by rfl) ?_
  have hcl := clrL_len p18.2 v19 p18.2.length (TLiteral.mk 0 0 0) (by first | omega | (have hh := begL_spec hv19; omega)) (by first | exact Nat.le_refl _ | (have hh := begL_spec hNone; omega))
  refine X.nil ?_
  refine Run.sr ?_
  refine X.mv ?_
  refine X.mv ?_
  obtain ⟨v20, hv20, h⟩ := bindE h
  refine X.sliceXE elt24 (by rfl) (by rfl) (by first | rfl | (simp only [List.length_map]; rw [hcl]) | (simp [hcl])) (by rfl) (by simpa using begL_spec hv20) (by rfl) (by rfl) ?_
  refine X.an ?_
  cases h
  exact R.finCh Try.results30 (by rfl) (by rfl) (by first | rfl | (simp only [List.length_map]; rw [hcl]) | (simp [hcl])) (by simp [List.map_take]) (flat_lit _ (fun _ => (by repeat (first | exact trivial | refine ⟨trivial, ?_⟩))))
theorem i_withoutOf_pc (b0 : List TLiteral) (b1 : TLiteral) (r : List TLiteral) (h : i_withoutOf b0 b1 = some r) : PC Try.prog 22 [.slice (b0.map eTLiteral), eTLiteral b1] (.fresh false 33 3 (r.map eTLiteral)) := by
 unfold i_withoutOf at h
 refine PC.start Try.func22 Try.ntmps22 rfl ok22 rfl ?_
 refine Run.sr ?_
 refine X.bx ?_
 refine X.an ?_
 refine Run.seq ?_
 refine R.pubBlk (n := 192) (by rfl) (by rfl) (by repeat (first | trivial | refine ⟨by first | rfl | simp [setL], ?_⟩)) ?_
 refine Run.region ?_
 refine Run.mvo ?_
 refine Run.one ?_
 obtain ⟨v1, hv1, h⟩ := bindE h
 refine X.callF (slices_Clone_Literal_pc _ _ hv1) (by rfl) (by rfl) (by rfl) (by trivial) (by rfl) (by rfl) (by rfl) (by rfl) ?_
 refine X.nil ?_
 refine Run.one ?_
 refine X.makeFunc (by rfl) (by rfl) (by repeat (first | trivial | refine ⟨by first | rfl | simp [setL], ?_⟩)) (by rfl) (by rfl) ?_
 refine X.nil ?_
 obtain ⟨v2, hv2, h⟩ := bindE h
 refine Run.callCutA (S' := []) (M' := []) (slices_DeleteFunc_Literal_pc _ (fun x0 => i_withoutOf_c1 x0 b1) _ _ (fun x0 v hv => i_withoutOf_c1_pc _ _ _ hv) _ hv2) (by rfl) rfl (by rfl) (by rfl) (by rfl) (by rfl) (by first | rfl | simp [setL] | omega) trivial trivial (by rfl) (by rfl) (by rfl) (by rfl) (by rfl) ?_
 refine Run.aso ?_
 refine Run.nil ?_
 cases h
 refine R.pubObj (n := 512) (by rfl) ?_
 refine R.fin1o Try.results22 (by rfl) (by rfl) (by first | rfl | simp [setL] | omega) ?_
 rfl
theorem i_within_pc (b0 : Int) (b1 : Int) (b2 : Int) (r : Bool) (h : i_within b0 b1 b2 = some r) : PC Try.prog 32 [int b0, int b1, int b2] (bool r) := by
 unfold i_within at h
 refine PC.start Try.func32 Try.ntmps32 rfl ok32 rfl ?_
 refine Run.sr ?_
 refine X.an ?_
 refine Run.seq ?_
 obtain ⟨e1, he1, h2⟩ := bindE h
 refine R.regG [(6, bool e1)] [] ?_ ?_
 ·clear h; have h := he1; clear he1 h2
  refine X.mv ?_
  refine X.mv ?_
  refine X.bi ?_
  refine X.mv ?_
  refine X.iG (fun hb2 => ?_) (fun hb2 => ?_)
  ·replace h := condT hb2 h
   refine X.mv ?_
   refine X.gy ?_
   refine X.mv ?_
   refine X.gy ?_
   refine X.bi ?_
   refine X.pT ?_
   refine X.as ?_
   cases h
   exact X.eG
  ·replace h := condF hb2 h
   refine X.gn ?_
   refine X.gn ?_
   refine X.pF ?_
   refine X.as ?_
   cases h
   exact X.eG
 replace h := h2; clear h2
 cases h
 refine R.f1 Try.results32 ?_
 rfl
theorem i_Negate_pc (b0 : TLiteral) (r : TLiteral) (h : i_Negate b0 = some r) : PC Try.prog 23 [eTLiteral b0] (eTLiteral r) := by
 unfold i_Negate at h
 refine PC.start Try.func23 Try.ntmps23 rfl ok23 rfl ?_
 refine Run.sr ?_
 refine X.bx ?_
 refine X.alloc zer33 (by rfl) (by rfl) (by rfl) ?_
 refine X.nil ?_
 refine Run.seq ?_
 refine Run.sr ?_
 refine X.fl fld33_2 ?_
 refine X.ld shp3 ?_
 obtain ⟨v1, hv1, h⟩ := bindE h
 refine X.cp (i_within_pc _ _ _ _ hv1) ?_
 refine X.un (by rfl) (by rfl) (by rfl) ?_
 refine X.nil ?_
 refine R.cd (fun hc2 => ?_) (fun hc2 => ?_)
 ·replace h := condT hc2 h
  refine Run.sr ?_
  refine X.build zer33 pl33 (by rfl) (by rfl) (by repeat (first | trivial | refine ⟨by first | rfl | simp [setL], ?_⟩)) (by rfl) (by rfl) (by rfl) ?_
  refine X.sl shp33 ?_
  refine X.nil ?_
  cases h
  refine R.finC Try.results23 shp33 (by rfl) (by rfl) (by rfl) (by rfl) (by repeat (first | trivial | refine ⟨by first | rfl | simp [setL], ?_⟩)) ?_
  rfl
 ·replace h := condF hc2 h
  refine Run.skip ?_
  refine Run.seq ?_
  refine Run.sr ?_
  refine X.fl fld33_0 ?_
  refine X.ld shp3 ?_
  refine X.nil ?_
  refine Run.block ?_
  refine Run.sr ?_
  refine X.bi ?_
  refine X.an ?_
  refine R.cd (fun hc3 => ?_) (fun hc3 => ?_)
  ·replace h := condT hc3 h
   refine Run.sr ?_
   refine X.fl fld33_1 ?_
   refine X.ld shp3 ?_
   refine X.fl fld33_2 ?_
   refine X.ld shp3 ?_
   refine X.subW (by rfl) (by rfl) (by rfl) ?_
   refine X.build zer33 pl33 (by rfl) (by rfl) (by repeat (first | trivial | refine ⟨by first | rfl | simp [setL], ?_⟩)) (by rfl) (by rfl) (by rfl) ?_
   refine X.sl shp33 ?_
   refine X.nil ?_
   cases h
   refine R.finC Try.results23 shp33 (by rfl) (by rfl) (by rfl) (by rfl) (by repeat (first | trivial | refine ⟨by first | rfl | simp [setL], ?_⟩)) ?_
   rfl
  ·replace h := condF hc3 h
   refine Run.sr ?_
   refine X.bi ?_
   refine X.an ?_
   refine R.cd (fun hc4 => ?_) (fun hc4 => ?_)
   ·replace h := condT hc4 h
    refine Run.sr ?_
    refine X.fl fld33_1 ?_
    refine X.ld shp3 ?_
    refine X.fl fld33_2 ?_
    refine X.ld shp3 ?_
    refine X.addW (by rfl) (by rfl) (by rfl) ?_
    refine X.build zer33 pl33 (by rfl) (by rfl) (by repeat (first | trivial | refine ⟨by first | rfl | simp [setL], ?_⟩)) (by rfl) (by rfl) (by rfl) ?_
    refine X.sl shp33 ?_
    refine X.nil ?_
    cases h
    refine R.finC Try.results23 shp33 (by rfl) (by rfl) (by rfl) (by rfl) (by repeat (first | trivial | refine ⟨by first | rfl | simp [setL], ?_⟩)) ?_
    rfl
   ·replace h := condF hc4 h
    refine Run.sr ?_
    refine X.bi ?_
    refine X.an ?_
    refine R.cd (fun hc5 => ?_) (fun hc5 => ?_)
    ·replace h := condT hc5 h
     refine Run.sr ?_
     refine X.fl fld33_1 ?_
     refine X.ld shp3 ?_
     refine X.fl fld33_2 ?_
     refine X.ld shp3 ?_
     refine X.build zer33 pl33 (by rfl) (by rfl) (by repeat (first | trivial | refine ⟨by first | rfl | simp [setL], ?_⟩)) (by rfl) (by rfl) (by rfl) ?_
     refine X.sl shp33 ?_
     refine X.nil ?_
     cases h
     refine R.finC Try.results23 shp33 (by rfl) (by rfl) (by rfl) (by rfl) (by repeat (first | trivial | refine ⟨by first | rfl | simp [setL], ?_⟩)) ?_
     rfl
    ·replace h := condF hc5 h
     refine Run.sr ?_
     refine X.bi ?_
     refine X.an ?_
     refine R.cd (fun hc6 => ?_) (fun hc6 => ?_)
     ·replace h := condT hc6 h
      refine Run.sr ?_
      refine X.fl fld33_1 ?_
      refine X.ld shp3 ?_
      refine X.fl fld33_2 ?_
      refine X.ld shp3 ?_
      refine X.build zer33 pl33 (by rfl) (by rfl) (by repeat (first | trivial | refine ⟨by first | rfl | simp [setL], ?_⟩)) (by rfl) (by rfl) (by rfl) ?_
      refine X.sl shp33 ?_
      refine X.nil ?_
      cases h
      refine R.finC Try.results23 shp33 (by rfl) (by rfl) (by rfl) (by rfl) (by repeat (first | trivial | refine ⟨by first | rfl | simp [setL], ?_⟩)) ?_
      rfl
     ·replace h := condF hc6 h
      refine Run.skip ?_
      refine Run.blk ?_
      refine Run.sr ?_
      refine X.build zer33 pl33 (by rfl) (by rfl) (by repeat (first | trivial | refine ⟨by first | rfl | simp [setL], ?_⟩)) (by rfl) (by rfl) (by rfl) ?_
      refine X.sl shp33 ?_
      refine X.nil ?_
      cases h
      refine R.finC Try.results23 shp33 (by rfl) (by rfl) (by rfl) (by rfl) (by repeat (first | trivial | refine ⟨by first | rfl | simp [setL], ?_⟩)) ?_
      rfl
theorem i_Resolve_pc (b0 : List TLiteral) (b1 : List TLiteral) (b2 : TLiteral) (r : List TLiteral) (h : i_Resolve b0 b1 b2 = some r) : PC Try.prog 14 [.slice (b0.map eTLiteral), .slice (b1.map eTLiteral), eTLiteral b2] (.fresh true 33 3 (r.map eTLiteral)) := by
 unfold i_Resolve at h
 refine PC.start Try.func14 Try.ntmps14 rfl ok14 rfl ?_
 refine Run.sr ?_
 refine X.bx ?_
 refine X.an ?_
 refine Run.seq ?_
 refine Run.draw2 (footOf [(1, ([320], [], [], [])), (2, ([], [576], [], [])), (4, ([320], [], [], [])), (6, ([], [832], [], [])), (7, ([576, 832], [576], [], [])), (8, ([576], [960], [], []))]) mixed (by kernel_rfl) (by kernel_rfl) ?_
 refine X.mv ?_
 refine X.ld shp33 ?_
 obtain ⟨v1, hv1, h⟩ := bindE h
 refine X.callF (i_withoutOf_pc _ _ _ hv1) (by rfl) (by rfl) (by rfl) (by trivial) (by rfl) (by rfl) (by rfl) (by rfl) ?_
 refine X.mv ?_
 refine X.ld shp33 ?_
 obtain ⟨v2, hv2, h⟩ := bindE h
 refine X.callA (i_Negate_pc _ _ hv2) (by rfl) (by rfl) (by rfl) (by trivial) (by rfl) (by rfl) (by rfl) (by rfl) (by rfl) (by rfl) ?_
 obtain ⟨v3, hv3, h⟩ := bindE h
 refine X.callF (i_withoutOf_pc _ _ _ hv3) (by rfl) (by rfl) (by rfl) (by trivial) (by rfl) (by rfl) (by rfl) (by rfl) ?_
 obtain ⟨v4, hv4, h⟩ := bindE h
 refine X.append elt24 zer33 (by rfl) (by rfl) (by first | rfl | simp [setL] | omega) (by rfl) (.own _ _ _ _ _ _ (look_mem (by rfl)) (by first | rfl | simp [setL] | omega)) (by exact cells_map (f := eTLiteral) (fun _ => rfl)) (appL_len eTLiteral hv4) (appL_map eTLiteral hv4) (by rfl) (by rfl) (by rfl) (by rfl) ?_
 obtain ⟨v5, hv5, h⟩ := bindE h
 refine X.callF (i_NewClause_pc _ _ hv5) (by rfl) (by rfl) (by rfl) (by repeat (first | trivial | refine ⟨by first | rfl | simp [setL], ?_⟩)) (by rfl) (by rfl) (by rfl) (by rfl) ?_
 refine X.an ?_
 cases h
 refine R.fin1o Try.results14 (by rfl) (by rfl) (by first | rfl | simp [setL] | omega) ?_
 rfl
theorem w_FnExactResolve_pc (b0 : List TLiteral) (b1 : List TLiteral) (b2 : TLiteral) (r : Bool) (h : w_FnExactResolve b0 b1 b2 = some r) : PC Try.prog 4 [.slice (b0.map eTLiteral), .slice (b1.map eTLiteral), eTLiteral b2] (bool r) := by
 unfold w_FnExactResolve at h
 refine PC.start Try.func4 Try.ntmps4 rfl ok4 rfl ?_
 refine Run.sr ?_
 refine X.bx ?_
 refine X.an ?_
 refine Run.sr ?_
 refine X.an ?_
 refine Run.sr ?_
 refine X.mv ?_
 refine X.mv ?_
 obtain ⟨v1, hv1, h⟩ := bindE h
 refine X.cp (w_szLiteralS_pc _ _ _ hv1) ?_
 refine X.an ?_
 refine Run.seq ?_
 refine Run.sr ?_
 refine X.mv ?_
 refine X.bi ?_
 refine X.nil ?_
 refine R.cd (fun hc2 => ?_) (fun hc2 => ?_)
 ·replace h := condT hc2 h
  refine Run.sr ?_
  refine X.an ?_
  cases h
  refine R.f1 Try.results4 ?_
  rfl
 ·replace h := condF hc2 h
  refine Run.skip ?_
  refine Run.sr ?_
  refine X.mv ?_
  refine X.mv ?_
  obtain ⟨v3, hv3, h⟩ := bindE h
  refine X.cp (w_szLiteralS_pc _ _ _ hv3) ?_
  refine X.an ?_
  refine Run.seq ?_
  refine Run.sr ?_
  refine X.mv ?_
  refine X.bi ?_
  refine X.nil ?_
  refine R.cd (fun hc4 => ?_) (fun hc4 => ?_)
  ·replace h := condT hc4 h
   refine Run.sr ?_
   refine X.an ?_
   cases h
   refine R.f1 Try.results4 ?_
   rfl
  ·replace h := condF hc4 h
   refine Run.skip ?_
   refine Run.seq ?_
   refine Run.draw (footOf [(1, ([], [1728], [], [])), (3, ([], [1856], [], [])), (4, ([320], [], [], [])), (6, ([1728, 1856], [], [], []))]) mixed (by kernel_rfl) (by kernel_rfl) ?_
   refine X.mv ?_
   obtain ⟨v5, hv5, h⟩ := bindE h
   refine X.callF (PC.ofY (ps := [.slice (b0.map eTLiteral)]) (w_toLiteralS_pc _ _ hv5) (by rfl) (by rfl)) (by rfl) (by rfl) (by rfl) (by trivial) (by rfl) (by rfl) (by rfl) (by rfl) ?_
   refine X.mv ?_
   obtain ⟨v6, hv6, h⟩ := bindE h
   refine X.callF (PC.ofY (ps := [.slice (b1.map eTLiteral)]) (w_toLiteralS_pc _ _ hv6) (by rfl) (by rfl)) (by rfl) (by rfl) (by rfl) (by trivial) (by rfl) (by rfl) (by rfl) (by rfl) ?_
   refine X.ld shp31 ?_
   obtain ⟨v7, hv7, h⟩ := bindE h
   refine X.callA (w_toLiteral_pc _ _ hv7) (by rfl) (by rfl) (by rfl) (by trivial) (by rfl) (by rfl) (by rfl) (by rfl) (by rfl) (by rfl) ?_
   obtain ⟨v8, hv8, h⟩ := bindE h
   refine X.cp (s_Resolve_pc _ _ _ _ hv8) ?_
   refine X.an ?_
   refine Run.sr ?_
   refine X.mv ?_
   obtain ⟨v9, hv9, h⟩ := bindE h
   refine X.callY (w_toLiteralS_pc _ _ hv9) (by rfl) (by rfl) (by rfl) (by trivial) (by rfl) (by rfl) (by rfl) (by rfl) (by rfl) (by rfl) (by rfl) ?_
   refine X.an ?_
   refine Run.sr ?_
   refine X.mv ?_
   obtain ⟨v10, hv10, h⟩ := bindE h
   refine X.callY (w_toLiteralS_pc _ _ hv10) (by rfl) (by rfl) (by rfl) (by trivial) (by rfl) (by rfl) (by rfl) (by rfl) (by rfl) (by rfl) (by rfl) ?_
   refine X.an ?_
   refine Run.sr ?_
   refine X.mv ?_
   refine X.mv ?_
   refine X.ld shp31 ?_
   obtain ⟨v11, hv11, h⟩ := bindE h
   refine X.callA (w_toLiteral_pc _ _ hv11) (by rfl) (by rfl) (by rfl) (by trivial) (by rfl) (by rfl) (by rfl) (by rfl) (by rfl) (by rfl) ?_
   obtain ⟨v12, hv12, h⟩ := bindE h
   refine X.callM [(63, 2176), (127, 2304)] (PC.lend (M0 := [(63, .yreg false false), (127, .yreg false false)]) (i_Resolve_pc _ _ _ _ hv12) (FlatR.freshM (fun _ => (by repeat (first | exact trivial | refine ⟨trivial, ?_⟩)))) (by rfl) (.yng 63 _ _ _ _ (by rfl) (.yng 127 _ _ _ _ (by rfl) (.agg _ _ _ _ (.same _ _ _ (by rfl) (.same _ _ _ (by rfl) (.same _ _ _ (by rfl) .nil))) .nil)))) (by rfl) (by rfl) (.yngB 63 (by rfl) (by rfl) (.yngB 127 (by rfl) (by rfl) (.pureB (by rfl) (by repeat (first | trivial | refine ⟨by first | rfl | simp [setL], ?_⟩)) .nil))) (by rfl) ⟨rfl, rfl, ⟨_, by rfl, by constructor⟩, by constructor, ⟨rfl, rfl, ⟨_, by rfl, by constructor⟩, by constructor, trivial⟩⟩ (by rfl) (by rfl) (by rfl) (by rfl) (by rfl) (by rfl) (by rfl) (by rfl) (by rfl) ?_
   refine X.an ?_
   refine Run.seq ?_
   refine Run.sr ?_
   refine X.mv ?_
   refine X.mv ?_
   obtain ⟨v13, hv13, h⟩ := bindE h
   refine X.callM [(63, 2624)] (PC.lend (M0 := [(63, .obj true 33 3 (v12.map eTLiteral))]) (w_eqLiteralS_pc _ _ _ hv13) (.lit _) (by rfl) (.own 63 _ _ _ _ _ _ _ (by rfl) (by first | rfl | simp [setL] | omega) (.same _ _ _ (by rfl) .nil))) (by rfl) (by rfl) (.ownB 63 (by rfl) (by first | rfl | simp [setL] | omega) (by rfl) (.pureB (by rfl) (by repeat (first | trivial | refine ⟨by first | rfl | simp [setL], ?_⟩)) .nil)) (by rfl) ⟨rfl, rfl, ⟨_, by rfl, by constructor⟩, by constructor, trivial⟩ (by rfl) (by rfl) (by rfl) (by rfl) (by rfl) (by rfl) (by rfl) (by rfl) (by rfl) ?_
   refine X.un (by rfl) (by rfl) (by rfl) ?_
   refine X.nil ?_
   refine R.cd (fun hc14 => ?_) (fun hc14 => ?_)
   ·replace h := condT hc14 h
    refine Run.sr ?_
    refine X.an ?_
    cases h
    refine R.f1 Try.results4 ?_
    rfl
   ·replace h := condF hc14 h
    refine Run.skip ?_
    refine Run.seq ?_
    refine Run.sr ?_
    refine X.mv ?_
    refine X.mv ?_
    obtain ⟨v15, hv15, h⟩ := bindE h
    refine X.callF (PC.ofY (ps := [.slice (b0.map eTLiteral)]) (w_toLiteralS_pc _ _ hv15) (by rfl) (by rfl)) (by rfl) (by rfl) (by rfl) (by trivial) (by rfl) (by rfl) (by rfl) (by rfl) ?_
    obtain ⟨v16, hv16, h⟩ := bindE h
    refine X.callM [(63, 2176)] (PC.lend (M0 := [(63, .yreg false false)]) (w_eqLiteralS_pc _ _ _ hv16) (.lit _) (by rfl) (.yng 63 _ _ _ _ (by rfl) (.same _ _ _ (by rfl) .nil))) (by rfl) (by rfl) (.yngB 63 (by rfl) (by rfl) (.pureB (by rfl) (by repeat (first | trivial | refine ⟨by first | rfl | simp [setL], ?_⟩)) .nil)) (by rfl) ⟨rfl, rfl, ⟨_, by rfl, by constructor⟩, by constructor, trivial⟩ (by rfl) (by rfl) (by rfl) (by rfl) (by rfl) (by rfl) (by rfl) (by rfl) (by rfl) ?_
    refine X.un (by rfl) (by rfl) (by rfl) ?_
    refine X.nil ?_
    refine R.cd (fun hc17 => ?_) (fun hc17 => ?_)
    ·replace h := condT hc17 h
     refine Run.sr ?_
     refine X.an ?_
     cases h
     refine R.f1 Try.results4 ?_
     rfl
    ·replace h := condF hc17 h
     refine Run.skip ?_
     refine Run.seq ?_
     refine Run.sr ?_
     refine X.mv ?_
     refine X.mv ?_
     obtain ⟨v18, hv18, h⟩ := bindE h
     refine X.callF (PC.ofY (ps := [.slice (b1.map eTLiteral)]) (w_toLiteralS_pc _ _ hv18) (by rfl) (by rfl)) (by rfl) (by rfl) (by rfl) (by trivial) (by rfl) (by rfl) (by rfl) (by rfl) ?_
     obtain ⟨v19, hv19, h⟩ := bindE h
     refine X.callM [(63, 2304)] (PC.lend (M0 := [(63, .yreg false false)]) (w_eqLiteralS_pc _ _ _ hv19) (.lit _) (by rfl) (.yng 63 _ _ _ _ (by rfl) (.same _ _ _ (by rfl) .nil))) (by rfl) (by rfl) (.yngB 63 (by rfl) (by rfl) (.pureB (by rfl) (by repeat (first | trivial | refine ⟨by first | rfl | simp [setL], ?_⟩)) .nil)) (by rfl) ⟨rfl, rfl, ⟨_, by rfl, by constructor⟩, by constructor, trivial⟩ (by rfl) (by rfl) (by rfl) (by rfl) (by rfl) (by rfl) (by rfl) (by rfl) (by rfl) ?_
     refine X.un (by rfl) (by rfl) (by rfl) ?_
     refine X.nil ?_
     refine R.cd (fun hc20 => ?_) (fun hc20 => ?_)
     ·replace h := condT hc20 h
      refine Run.sr ?_
      refine X.an ?_
      cases h
      refine R.f1 Try.results4 ?_
      rfl
     ·replace h := condF hc20 h
      refine Run.skip ?_
      refine Run.sr ?_
      refine X.an ?_
      refine Run.seq ?_
      refine R.demote 2176 (by rfl) (by rfl) (by rfl) (by rfl) (by rfl) (by rfl) ?_
      refine Run.reg ?_
      refine X.mv ?_
      refine X.mv ?_
      obtain ⟨v21, hv21, h⟩ := bindE h
      refine X.callM [(63, 2176)] (w_markLiteralS_k_pc _ _ _ hv21) (by rfl) (by rfl) (.yskB 63 (by rfl) (by rfl) (.pureB (by rfl) (by repeat (first | trivial | refine ⟨by first | rfl | simp [setL], ?_⟩)) .nil)) (by rfl) ⟨rfl, rfl, ⟨_, by rfl, by constructor⟩, by constructor, trivial⟩ (by rfl) (by rfl) (by rfl) (by rfl) (by rfl) (by rfl) (by rfl) (by rfl) (by rfl) ?_
      refine X.an ?_
      refine Run.seq ?_
      refine R.demote 2304 (by rfl) (by rfl) (by rfl) (by rfl) (by rfl) (by rfl) ?_
      refine Run.reg ?_
      refine X.mv ?_
      refine X.mv ?_
      obtain ⟨v22, hv22, h⟩ := bindE h
      refine X.callM [(63, 2304)] (w_markLiteralS_k_pc _ _ _ hv22) (by rfl) (by rfl) (.yskB 63 (by rfl) (by rfl) (.pureB (by rfl) (by repeat (first | trivial | refine ⟨by first | rfl | simp [setL], ?_⟩)) .nil)) (by rfl) ⟨rfl, rfl, ⟨_, by rfl, by constructor⟩, by constructor, trivial⟩ (by rfl) (by rfl) (by rfl) (by rfl) (by rfl) (by rfl) (by rfl) (by rfl) (by rfl) ?_
      refine X.an ?_
      refine Run.seq ?_
      refine Run.seq ?_
      obtain ⟨e23, he23, h2⟩ := bindE h
      refine R.regG [(0, .slice (b0.map eTLiteral)), (1, .slice (b1.map eTLiteral)), (5, .lptr 320 0), (8, .slice (v8.map eTLiteral)), (11, .own 2624 (v12.map eTLiteral).length), (69, bool e23)] [(320, .blk true [int b2.Kind, int b2.Activity, int b2.Value]), (2624, .obj true 33 3 (v12.map eTLiteral))] ?_ ?_
      ·clear h; have h := he23; clear he23 h2
       refine X.mv ?_
       refine X.bi ?_
       refine X.mv ?_
       refine X.iG (fun hb24 => ?_) (fun hb24 => ?_)
       ·replace h := condF hb24 h
        refine X.mv ?_
        refine X.gy ?_
        refine X.mv ?_
        refine X.gy ?_
        obtain ⟨v25, hv25, h⟩ := bindE h
        refine X.callM [(63, 2624)] (PC.lend (M0 := [(63, .obj true 33 3 (v12.map eTLiteral))]) (w_eqLiteralS_pc _ _ _ hv25) (.lit _) (by rfl) (.own 63 _ _ _ _ _ _ _ (by rfl) (by first | rfl | simp [setL] | omega) (.same _ _ _ (by rfl) .nil))) (by rfl) (by rfl) (.ownB 63 (by rfl) (by first | rfl | simp [setL] | omega) (by rfl) (.pureB (by rfl) (by repeat (first | trivial | refine ⟨by first | rfl | simp [setL], ?_⟩)) .nil)) (by rfl) ⟨rfl, rfl, ⟨_, by rfl, by constructor⟩, by constructor, trivial⟩ (by rfl) (by rfl) (by rfl) (by rfl) (by rfl) (by rfl) (by rfl) (by rfl) (by rfl) ?_
        refine X.gy ?_
        refine X.un (by rfl) (by rfl) (by rfl) ?_
        refine X.pF ?_
        cases h
        exact X.eG
       ·replace h := condT hb24 h
        refine X.gn ?_
        refine X.gn ?_
        refine X.gn ?_
        refine X.pT ?_
        cases h
        exact X.eG
      replace h := h2; clear h2
      refine R.cd (fun hc26 => ?_) (fun hc26 => ?_)
      ·replace h := condT hc26 h
       refine Run.sr ?_
       refine X.an ?_
       cases h
       refine R.f1 Try.results4 ?_
       rfl
      ·replace h := condF hc26 h
       refine Run.skip ?_
       refine Run.sr ?_
       refine X.an ?_
       refine Run.sr ?_
       refine X.mv ?_
       refine X.mv ?_
       obtain ⟨v27, hv27, h⟩ := bindE h
       refine X.callR [(63, 2624)] [(2624, (v12.map eTLiteral).length)] [(2624, (v27.2.map eTLiteral).length)] (w_markLiteralS_pc _ _ _ hv27) (by rfl) (by rfl) (.ownB 63 (by rfl) (by first | rfl | simp [setL] | omega) (by rfl) (.pureB (by rfl) (by repeat (first | trivial | refine ⟨by first | rfl | simp [setL], ?_⟩)) .nil)) (by rfl) ⟨rfl, rfl, ⟨_, by rfl, by constructor⟩, by constructor, trivial⟩ (by rfl) (by rfl) (by rfl) (by rfl) ⟨rfl, ⟨_, _, _, _, by rfl, by rfl⟩, ⟨_, _, _, _, by rfl, by rfl⟩, trivial⟩ (by rfl) (by repeat (first | trivial | refine ⟨by first | rfl | simp [setL], ?_⟩)) (by rfl) (by rfl) (by rfl) (by rfl) (by rfl) ?_
       refine X.an ?_
       refine Run.sr ?_
       refine X.an ?_
       refine Run.sr ?_
       refine X.mv ?_
       refine X.mv ?_
       obtain ⟨v28, hv28, h⟩ := bindE h
       refine X.callM [(63, 2624)] (PC.lend (M0 := [(63, .obj true 33 3 (v27.2.map eTLiteral))]) (w_heldLiteralS_pc _ _ _ hv28) (.lit _) (by rfl) (.own 63 _ _ _ _ _ _ _ (by rfl) (by first | rfl | simp [setL] | omega) (.same _ _ _ (by rfl) .nil))) (by rfl) (by rfl) (.ownB 63 (by rfl) (by first | rfl | simp [setL] | omega) (by rfl) (.pureB (by rfl) (by repeat (first | trivial | refine ⟨by first | rfl | simp [setL], ?_⟩)) .nil)) (by rfl) ⟨rfl, rfl, ⟨_, by rfl, by constructor⟩, by constructor, trivial⟩ (by rfl) (by rfl) (by rfl) (by rfl) (by rfl) (by rfl) (by rfl) (by rfl) (by rfl) ?_
       refine X.an ?_
       refine Run.seq ?_
       refine Run.sr ?_
       refine X.mv ?_
       refine X.bi ?_
       refine X.nil ?_
       refine R.cd (fun hc29 => ?_) (fun hc29 => ?_)
       ·replace h := condT hc29 h
        refine Run.sr ?_
        refine X.an ?_
        cases h
        refine R.f1 Try.results4 ?_
        rfl
       ·replace h := condF hc29 h
        refine Run.skip ?_
        refine Run.seq ?_
        refine Run.sr ?_
        refine X.mv ?_
        refine X.mv ?_
        refine X.bi ?_
        refine X.nil ?_
        refine R.cd (fun hc30 => ?_) (fun hc30 => ?_)
        ·replace h := condT hc30 h
         refine Run.sr ?_
         refine X.an ?_
         cases h
         refine R.f1 Try.results4 ?_
         rfl
        ·replace h := condF hc30 h
         refine Run.skip ?_
         refine Run.seq ?_
         refine Run.draw (footOf [(1, ([], [5248], [], [])), (3, ([], [5376], [], [])), (4, ([320], [], [], [])), (6, ([5248, 5376], [5568], [], []))]) mixed (by kernel_rfl) (by kernel_rfl) ?_
         refine X.mv ?_
         obtain ⟨v31, hv31, h⟩ := bindE h
         refine X.callF (PC.ofY (ps := [.slice (b0.map eTLiteral)]) (w_toLiteralS_pc _ _ hv31) (by rfl) (by rfl)) (by rfl) (by rfl) (by rfl) (by trivial) (by rfl) (by rfl) (by rfl) (by rfl) ?_
         refine X.mv ?_
         obtain ⟨v32, hv32, h⟩ := bindE h
         refine X.callF (PC.ofY (ps := [.slice (b1.map eTLiteral)]) (w_toLiteralS_pc _ _ hv32) (by rfl) (by rfl)) (by rfl) (by rfl) (by rfl) (by trivial) (by rfl) (by rfl) (by rfl) (by rfl) ?_
         refine X.ld shp31 ?_
         obtain ⟨v33, hv33, h⟩ := bindE h
         refine X.callA (w_toLiteral_pc _ _ hv33) (by rfl) (by rfl) (by rfl) (by trivial) (by rfl) (by rfl) (by rfl) (by rfl) (by rfl) (by rfl) ?_
         obtain ⟨v34, hv34, h⟩ := bindE h
         refine X.callF (PC.pubF (i_Resolve_pc _ _ _ _ hv34)) (by rfl) (by rfl) (by rfl) (by repeat (first | trivial | refine ⟨by first | rfl | simp [setL], ?_⟩)) (by rfl) (by rfl) (by rfl) (by rfl) ?_
         refine X.an ?_
         refine Run.seq ?_
         refine Run.sr ?_
         refine X.mv ?_
         refine X.mv ?_
         obtain ⟨v35, hv35, h⟩ := bindE h
         refine X.cp (w_eqLiteralS_pc _ _ _ hv35) ?_
         refine X.un (by rfl) (by rfl) (by rfl) ?_
         refine X.nil ?_
         refine R.cd (fun hc36 => ?_) (fun hc36 => ?_)
         ·replace h := condT hc36 h
          refine Run.sr ?_
          refine X.an ?_
          cases h
          refine R.f1 Try.results4 ?_
          rfl
         ·replace h := condF hc36 h
          refine Run.skip ?_
          refine Run.sr ?_
          refine X.an ?_
          refine Run.sr ?_
          refine X.mv ?_
          refine X.mv ?_
          obtain ⟨v37, hv37, h⟩ := bindE h
          refine X.callM [(63, 2624)] (PC.lend (M0 := [(63, .obj true 33 3 (v27.2.map eTLiteral))]) (w_heldLiteralS_pc _ _ _ hv37) (.lit _) (by rfl) (.own 63 _ _ _ _ _ _ _ (by rfl) (by first | rfl | simp [setL] | omega) (.same _ _ _ (by rfl) .nil))) (by rfl) (by rfl) (.ownB 63 (by rfl) (by first | rfl | simp [setL] | omega) (by rfl) (.pureB (by rfl) (by repeat (first | trivial | refine ⟨by first | rfl | simp [setL], ?_⟩)) .nil)) (by rfl) ⟨rfl, rfl, ⟨_, by rfl, by constructor⟩, by constructor, trivial⟩ (by rfl) (by rfl) (by rfl) (by rfl) (by rfl) (by rfl) (by rfl) (by rfl) (by rfl) ?_
          refine X.an ?_
          refine Run.seq ?_
          refine Run.sr ?_
          refine X.mv ?_
          refine X.bi ?_
          refine X.nil ?_
          refine R.cd (fun hc38 => ?_) (fun hc38 => ?_)
          ·replace h := condT hc38 h
           refine Run.sr ?_
           refine X.an ?_
           cases h
           refine R.f1 Try.results4 ?_
           rfl
          ·replace h := condF hc38 h
           refine Run.skip ?_
           refine Run.seq ?_
           refine Run.sr ?_
           refine X.mv ?_
           refine X.mv ?_
           refine X.bi ?_
           refine X.nil ?_
           refine R.cd (fun hc39 => ?_) (fun hc39 => ?_)
           ·replace h := condT hc39 h
            refine Run.sr ?_
            refine X.an ?_
            cases h
            refine R.f1 Try.results4 ?_
            rfl
           ·replace h := condF hc39 h
            refine Run.skip ?_
            refine Run.sr ?_
            refine X.an ?_
            cases h
            refine R.f1 Try.results4 ?_
            rfl
end Go.Px.Ytdlklmdnmoipcaa
