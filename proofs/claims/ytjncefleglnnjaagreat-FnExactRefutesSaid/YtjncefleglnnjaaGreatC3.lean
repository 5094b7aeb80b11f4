/-
  PROVED: contracts of functions of the program over pure values. No condition beyond those that each theorem names.
-/
import Derived.Test.YtjncefleglnnjaaGreatProg
import Derived.Test.YtjncefleglnnjaaGreatD1
import Derived.Test.YtjncefleglnnjaaGreatC2
namespace Go.Px.YtjncefleglnnjaaGreat
set_option linter.unusedSimpArgs false
set_option linter.unusedVariables false
open Go.Px Go.Proofs
theorem w_eqResourceS_pc (b0 : List TResource) (b1 : List TResource) (r : Bool) (h : w_eqResourceS b0 b1 = some r) : PC Tryz.prog 151 [.slice (b0.map eTResource), .slice (b1.map eTResource)] (bool r) := by
  unfold w_eqResourceS at h
  refine PC.start Tryz.func151 Tryz.ntmps151 rfl ok151 rfl ?_
  refine Run.seq ?_
  refine Run.reg ?_
  refine X.assign (by rfl) (by rfl) ?_
  refine X.nil ?_
  refine Run.seq ?_
  refine Run.seq ?_
  refine Run.reg ?_
  refine X.move (by rfl) (by rfl) ?_
  refine X.len_s elt25 (by rfl) (by exact List.length_map ..) (by rfl) ?_
  refine X.move (by rfl) (by rfl) ?_
  refine X.len_s elt25 (by rfl) (by exact List.length_map ..) (by rfl) ?_
  refine X.bin (by rfl) (by rfl) (by rfl) (by rfl) (by intro h; cases h) (by rfl) ?_
  refine X.nil ?_
  refine R.cond (by rfl) (fun hc1 => ?_) (fun hc1 => ?_)
  · replace h := condT hc1 h
    refine Run.seq ?_
    refine Run.reg ?_
    refine X.assign (by rfl) (by rfl) ?_
    refine X.nil ?_
    cases h
    refine R.fin1 Tryz.results151 (by rfl) (by rfl) ?_
    rfl
  · replace h := condF hc1 h
    refine Run.skip ?_
    refine Run.seq ?_
    refine Run.seq ?_
    refine Run.reg ?_
    refine X.assign (by rfl) (by rfl) ?_
    refine X.nil ?_
    obtain ⟨o2, ho2, h⟩ := bindE h
    refine R.join2 (β := Unit) [] [] (fun p16 S => S) (fun p16 M => M) (fun p16 => (Sum.inl p16) = o2) ?_ ?_
    · intro JJ5 hmeet4
      have hup3 := h; clear h; have h := ho2; clear ho2
      refine Run.block ?_
      refine R.bndS (t := 0) (by rfl) (fun hbd8 => ?_)
      replace hbd8 : b0.length ≤ 9223372036854775807 := by first | (rw [List.length_map] at hbd8; exact hbd8) | simp
      refine R.loop2 (β := Int) [(0, .slice (b0.map eTResource)), (1, .slice (b1.map eTResource))] [] (fun bb S => (5, int bb) :: S) (fun bb M => M) (fun n bb => 0 ≤ bb ∧ bb + n = (b0.length : Int) ∧ w_eqResourceS_L1 b1 (b0.drop bb.toNat) bb = some o2) b0.length (0 : Int) (by repeat (first | trivial | refine ⟨by first | rfl | simp [setL], ?_⟩)) (by repeat (first | trivial | refine ⟨by first | rfl | simp [setL], ?_⟩)) (by rfl) (by rfl) ⟨Int.le_refl _, by simp, h⟩ ?_
      clear h
      rintro JJ8 n8 z9 hag8 ⟨hza8, hzb8, h⟩
      refine Run.seq ?_
      refine Run.seq ?_
      refine Run.reg ?_
      refine X.move (by rfl) (by rfl) ?_
      refine X.move (by rfl) (by rfl) ?_
      refine X.len_s elt25 (by rfl) (by exact List.length_map ..) (by rfl) ?_
      refine X.bin (by rfl) (by rfl) (by rfl) (by rfl) (by intro h; cases h) (by rfl) ?_
      refine X.nil ?_
      refine R.cond (by rfl) (fun hc12 => ?_) (fun hc12 => ?_)
      · obtain ⟨x10, xs11, hd8, hx8, hds8, hlt8⟩ := drop_atI hza8 hc12
        rw [hd8] at h
        rw [w_eqResourceS_L1] at h
        refine Run.skip ?_
        refine Run.seq ?_
        refine Run.block ?_
        refine Run.seq ?_
        refine Run.draw (footOf []) mixed (by kernel_rfl) (by kernel_rfl) ?_
        refine X.move (by rfl) (by rfl) ?_
        refine X.move (by rfl) (by rfl) ?_
        refine X.index_s elt25 (by rfl) (by rfl) (idxL_spec hx8).1 (idxL_map eTResource hx8) (by rfl) (by rfl) (by rfl) ?_
        refine X.load_c shp64 (by rfl) (by rfl) (by rfl) (by rfl) ?_
        refine X.move (by rfl) (by rfl) ?_
        refine X.move (by rfl) (by rfl) ?_
        obtain ⟨v13, hv13, h⟩ := bindE h
        refine X.index_s elt25 (by rfl) (by rfl) (idxL_spec hv13).1 (idxL_map eTResource hv13) (by rfl) (by rfl) (by rfl) ?_
        refine X.load_c shp64 (by rfl) (by rfl) (by rfl) (by rfl) ?_
        obtain ⟨v14, hv14, h⟩ := bindE h
        refine X.callP (w_eqResource_pc _ _ _ hv14) (by rfl) (by rfl) (by rfl) (by trivial) (by rfl) (by rfl) (by rfl) (by rfl) ?_
        refine X.un (by rfl) (by rfl) (by rfl) ?_
        refine X.nil ?_
        refine R.cond (by rfl) (fun hc15 => ?_) (fun hc15 => ?_)
        · replace h := condT hc15 h
          refine Run.seq ?_
          refine Run.reg ?_
          refine X.assign (by rfl) (by rfl) ?_
          refine X.nil ?_
          cases h
          have h := hup3
          replace h := elimR h
          cases h
          refine R.fin1 Tryz.results151 (by rfl) (by rfl) ?_
          rfl
        · replace h := condF hc15 h
          refine Run.skip ?_
          refine Run.blk ?_
          refine Run.reg ?_
          refine X.move (by rfl) (by rfl) ?_
          refine X.add (by rfl) (by rfl) (by omega) (by rfl) ?_
          refine X.assign (by rfl) (by rfl) ?_
          refine X.nil ?_
          exact hag8 (n8 - 1) (z9 + 1) _ _ (by omega) ⟨by first | omega | (dsimp only; omega), by first | omega | (dsimp only; omega), by first | (rw [hds8]; exact h) | (dsimp only; rw [hds8]; exact h)⟩ (by trivial) (by trivial) (by rfl) (by rfl)
      · rw [drop_endI hza8 hc12] at h
        rw [w_eqResourceS_L1] at h
        refine Run.exit (by rfl) ?_
        exact hmeet4 () _ _ (Option.some.inj h) (by trivial) (by trivial) (by rfl) (by rfl)
    rintro p16 rfl
    replace h := elimL h
    refine Run.seq ?_
    refine Run.reg ?_
    refine X.assign (by rfl) (by rfl) ?_
    refine X.nil ?_
    cases h
    refine R.fin1 Tryz.results151 (by rfl) (by rfl) ?_
    rfl
theorem w_eqProject_pc (b0 : TProject) (b1 : TProject) (r : Bool) (h : w_eqProject b0 b1 = some r) : PC Tryz.prog 54 [eTProject b0, eTProject b1] (bool r) := by
  unfold w_eqProject at h
  refine PC.start Tryz.func54 Tryz.ntmps54 rfl ok54 rfl ?_
  refine Run.seq ?_
  refine Run.reg ?_
  refine X.box (by rfl) (by rfl) (by repeat (first | trivial | refine ⟨by first | rfl | simp [setL], ?_⟩)) (by rfl) (by rfl) (by rfl) (by rfl) ?_
  refine X.box (by rfl) (by rfl) (by repeat (first | trivial | refine ⟨by first | rfl | simp [setL], ?_⟩)) (by rfl) (by rfl) (by rfl) (by rfl) ?_
  refine X.assign (by rfl) (by rfl) ?_
  refine X.nil ?_
  refine Run.seq ?_
  refine Run.seq ?_
  refine Run.reg ?_
  refine X.fieldAddr_l fld28_0 (by rfl) (by rfl) ?_
  refine X.load_l shp3 (by rfl) (by rfl) (by rfl) (by rfl) (by rfl) (by rfl) ?_
  refine X.fieldAddr_l fld28_0 (by rfl) (by rfl) ?_
  refine X.load_l shp3 (by rfl) (by rfl) (by rfl) (by rfl) (by rfl) (by rfl) ?_
  refine X.bin (by rfl) (by rfl) (by rfl) (by rfl) (by intro h; cases h) (by rfl) ?_
  refine X.nil ?_
  refine R.cond (by rfl) (fun hc1 => ?_) (fun hc1 => ?_)
  · replace h := condT hc1 h
    refine Run.seq ?_
    refine Run.reg ?_
    refine X.assign (by rfl) (by rfl) ?_
    refine X.nil ?_
    cases h
    refine R.fin1 Tryz.results54 (by rfl) (by rfl) ?_
    rfl
  · replace h := condF hc1 h
    refine Run.skip ?_
    refine Run.seq ?_
    refine Run.seq ?_
    refine Run.reg ?_
    refine X.fieldAddr_l fld28_1 (by rfl) (by rfl) ?_
    refine X.load_l shp23 (by rfl) (by rfl) (by rfl) (by rfl) (by rfl) (by rfl) ?_
    refine X.fieldAddr_l fld28_1 (by rfl) (by rfl) ?_
    refine X.load_l shp23 (by rfl) (by rfl) (by rfl) (by rfl) (by rfl) (by rfl) ?_
    obtain ⟨v2, hv2, h⟩ := bindE h
    refine X.callP (w_eqActivityS_pc _ _ _ hv2) (by rfl) (by rfl) (by rfl) (by trivial) (by rfl) (by rfl) (by rfl) (by rfl) ?_
    refine X.un (by rfl) (by rfl) (by rfl) ?_
    refine X.nil ?_
    refine R.cond (by rfl) (fun hc3 => ?_) (fun hc3 => ?_)
    · replace h := condT hc3 h
      refine Run.seq ?_
      refine Run.reg ?_
      refine X.assign (by rfl) (by rfl) ?_
      refine X.nil ?_
      cases h
      refine R.fin1 Tryz.results54 (by rfl) (by rfl) ?_
      rfl
    · replace h := condF hc3 h
      refine Run.skip ?_
      refine Run.seq ?_
      refine Run.seq ?_
      refine Run.reg ?_
      refine X.fieldAddr_l fld28_2 (by rfl) (by rfl) ?_
      refine X.load_l shp24 (by rfl) (by rfl) (by rfl) (by rfl) (by rfl) (by rfl) ?_
      refine X.fieldAddr_l fld28_2 (by rfl) (by rfl) ?_
      refine X.load_l shp24 (by rfl) (by rfl) (by rfl) (by rfl) (by rfl) (by rfl) ?_
      obtain ⟨v4, hv4, h⟩ := bindE h
      refine X.callP (w_eqLinkS_pc _ _ _ hv4) (by rfl) (by rfl) (by rfl) (by trivial) (by rfl) (by rfl) (by rfl) (by rfl) ?_
      refine X.un (by rfl) (by rfl) (by rfl) ?_
      refine X.nil ?_
      refine R.cond (by rfl) (fun hc5 => ?_) (fun hc5 => ?_)
      · replace h := condT hc5 h
        refine Run.seq ?_
        refine Run.reg ?_
        refine X.assign (by rfl) (by rfl) ?_
        refine X.nil ?_
        cases h
        refine R.fin1 Tryz.results54 (by rfl) (by rfl) ?_
        rfl
      · replace h := condF hc5 h
        refine Run.skip ?_
        refine Run.seq ?_
        refine Run.seq ?_
        refine Run.reg ?_
        refine X.fieldAddr_l fld28_3 (by rfl) (by rfl) ?_
        refine X.load_l shp25 (by rfl) (by rfl) (by rfl) (by rfl) (by rfl) (by rfl) ?_
        refine X.fieldAddr_l fld28_3 (by rfl) (by rfl) ?_
        refine X.load_l shp25 (by rfl) (by rfl) (by rfl) (by rfl) (by rfl) (by rfl) ?_
        obtain ⟨v6, hv6, h⟩ := bindE h
        refine X.callP (w_eqResourceS_pc _ _ _ hv6) (by rfl) (by rfl) (by rfl) (by trivial) (by rfl) (by rfl) (by rfl) (by rfl) ?_
        refine X.un (by rfl) (by rfl) (by rfl) ?_
        refine X.nil ?_
        refine R.cond (by rfl) (fun hc7 => ?_) (fun hc7 => ?_)
        · replace h := condT hc7 h
          refine Run.seq ?_
          refine Run.reg ?_
          refine X.assign (by rfl) (by rfl) ?_
          refine X.nil ?_
          cases h
          refine R.fin1 Tryz.results54 (by rfl) (by rfl) ?_
          rfl
        · replace h := condF hc7 h
          refine Run.skip ?_
          refine Run.seq ?_
          refine Run.seq ?_
          refine Run.reg ?_
          refine X.fieldAddr_l fld28_4 (by rfl) (by rfl) ?_
          refine X.load_l shp26 (by rfl) (by rfl) (by rfl) (by rfl) (by rfl) (by rfl) ?_
          refine X.fieldAddr_l fld28_4 (by rfl) (by rfl) ?_
          refine X.load_l shp26 (by rfl) (by rfl) (by rfl) (by rfl) (by rfl) (by rfl) ?_
          obtain ⟨v8, hv8, h⟩ := bindE h
          refine X.callP (w_eqIntS_pc _ _ _ hv8) (by rfl) (by rfl) (by rfl) (by trivial) (by rfl) (by rfl) (by rfl) (by rfl) ?_
          refine X.un (by rfl) (by rfl) (by rfl) ?_
          refine X.nil ?_
          refine R.cond (by rfl) (fun hc9 => ?_) (fun hc9 => ?_)
          · replace h := condT hc9 h
            refine Run.seq ?_
            refine Run.reg ?_
            refine X.assign (by rfl) (by rfl) ?_
            refine X.nil ?_
            cases h
            refine R.fin1 Tryz.results54 (by rfl) (by rfl) ?_
            rfl
          · replace h := condF hc9 h
            refine Run.skip ?_
            refine Run.seq ?_
            refine Run.reg ?_
            refine X.assign (by rfl) (by rfl) ?_
            refine X.nil ?_
            cases h
            refine R.fin1 Tryz.results54 (by rfl) (by rfl) ?_
            rfl
theorem w_eqDomain_pc (b0 : TDomain) (b1 : TDomain) (r : Bool) (h : w_eqDomain b0 b1 = some r) : PC Tryz.prog 55 [eTDomain b0, eTDomain b1] (bool r) := by
  unfold w_eqDomain at h
  refine PC.start Tryz.func55 Tryz.ntmps55 rfl ok55 rfl ?_
  refine Run.seq ?_
  refine Run.reg ?_
  refine X.box (by rfl) (by rfl) (by repeat (first | trivial | refine ⟨by first | rfl | simp [setL], ?_⟩)) (by rfl) (by rfl) (by rfl) (by rfl) ?_
  refine X.box (by rfl) (by rfl) (by repeat (first | trivial | refine ⟨by first | rfl | simp [setL], ?_⟩)) (by rfl) (by rfl) (by rfl) (by rfl) ?_
  refine X.assign (by rfl) (by rfl) ?_
  refine X.nil ?_
  refine Run.seq ?_
  refine Run.seq ?_
  refine Run.reg ?_
  refine X.fieldAddr_l fld32_0 (by rfl) (by rfl) ?_
  refine X.load_l shp26 (by rfl) (by rfl) (by rfl) (by rfl) (by rfl) (by rfl) ?_
  refine X.fieldAddr_l fld32_0 (by rfl) (by rfl) ?_
  refine X.load_l shp26 (by rfl) (by rfl) (by rfl) (by rfl) (by rfl) (by rfl) ?_
  obtain ⟨v1, hv1, h⟩ := bindE h
  refine X.callP (w_eqIntS_pc _ _ _ hv1) (by rfl) (by rfl) (by rfl) (by trivial) (by rfl) (by rfl) (by rfl) (by rfl) ?_
  refine X.un (by rfl) (by rfl) (by rfl) ?_
  refine X.nil ?_
  refine R.cond (by rfl) (fun hc2 => ?_) (fun hc2 => ?_)
  · replace h := condT hc2 h
    refine Run.seq ?_
    refine Run.reg ?_
    refine X.assign (by rfl) (by rfl) ?_
    refine X.nil ?_
    cases h
    refine R.fin1 Tryz.results55 (by rfl) (by rfl) ?_
    rfl
  · replace h := condF hc2 h
    refine Run.skip ?_
    refine Run.seq ?_
    refine Run.seq ?_
    refine Run.reg ?_
    refine X.fieldAddr_l fld32_1 (by rfl) (by rfl) ?_
    refine X.load_l shp26 (by rfl) (by rfl) (by rfl) (by rfl) (by rfl) (by rfl) ?_
    refine X.fieldAddr_l fld32_1 (by rfl) (by rfl) ?_
    refine X.load_l shp26 (by rfl) (by rfl) (by rfl) (by rfl) (by rfl) (by rfl) ?_
    obtain ⟨v3, hv3, h⟩ := bindE h
    refine X.callP (w_eqIntS_pc _ _ _ hv3) (by rfl) (by rfl) (by rfl) (by trivial) (by rfl) (by rfl) (by rfl) (by rfl) ?_
    refine X.un (by rfl) (by rfl) (by rfl) ?_
    refine X.nil ?_
    refine R.cond (by rfl) (fun hc4 => ?_) (fun hc4 => ?_)
    · replace h := condT hc4 h
      refine Run.seq ?_
      refine Run.reg ?_
      refine X.assign (by rfl) (by rfl) ?_
      refine X.nil ?_
      cases h
      refine R.fin1 Tryz.results55 (by rfl) (by rfl) ?_
      rfl
    · replace h := condF hc4 h
      refine Run.skip ?_
      refine Run.seq ?_
      refine Run.seq ?_
      refine Run.reg ?_
      refine X.fieldAddr_l fld32_2 (by rfl) (by rfl) ?_
      refine X.load_l shp30 (by rfl) (by rfl) (by rfl) (by rfl) (by rfl) (by rfl) ?_
      refine X.fieldAddr_l fld32_2 (by rfl) (by rfl) ?_
      refine X.load_l shp30 (by rfl) (by rfl) (by rfl) (by rfl) (by rfl) (by rfl) ?_
      obtain ⟨v5, hv5, h⟩ := bindE h
      refine X.callP (w_eqIntSS_pc _ _ _ hv5) (by rfl) (by rfl) (by rfl) (by trivial) (by rfl) (by rfl) (by rfl) (by rfl) ?_
      refine X.un (by rfl) (by rfl) (by rfl) ?_
      refine X.nil ?_
      refine R.cond (by rfl) (fun hc6 => ?_) (fun hc6 => ?_)
      · replace h := condT hc6 h
        refine Run.seq ?_
        refine Run.reg ?_
        refine X.assign (by rfl) (by rfl) ?_
        refine X.nil ?_
        cases h
        refine R.fin1 Tryz.results55 (by rfl) (by rfl) ?_
        rfl
      · replace h := condF hc6 h
        refine Run.skip ?_
        refine Run.seq ?_
        refine Run.reg ?_
        refine X.assign (by rfl) (by rfl) ?_
        refine X.nil ?_
        cases h
        refine R.fin1 Tryz.results55 (by rfl) (by rfl) ?_
        rfl
theorem s_l04Least_pc (b0 : TActivity) (b1 : List Int) (b2 : Int) (b3 : Bool) (b4 : Bool) (r : Int) (h : s_l04Least b0 b1 b2 b3 b4 = some r) : PC Tryz.prog 268 [eTActivity b0, .slice (b1.map int), int b2, bool b3, bool b4] (int r) := by
  unfold s_l04Least at h
  refine PC.start Tryz.func268 Tryz.ntmps268 rfl ok268 rfl ?_
  refine Run.seq ?_
  refine Run.reg ?_
  refine X.box (by rfl) (by rfl) (by repeat (first | trivial | refine ⟨by first | rfl | simp [setL], ?_⟩)) (by rfl) (by rfl) (by rfl) (by rfl) ?_
  refine X.assign (by rfl) (by rfl) ?_
  refine X.nil ?_
  refine Run.seq ?_
  refine Run.reg ?_
  refine X.assign (by rfl) (by rfl) ?_
  refine X.nil ?_
  refine Run.seq ?_
  refine Run.reg ?_
  refine X.assign (by rfl) (by rfl) ?_
  refine X.nil ?_
  refine Run.seq ?_
  refine Run.seq ?_
  refine Run.reg ?_
  refine X.fieldAddr_l fld50_2 (by rfl) (by rfl) ?_
  refine X.load_l shp48 (by rfl) (by rfl) (by rfl) (by rfl) (by rfl) (by rfl) ?_
  refine X.len_s elt48 (by rfl) (by exact List.length_map ..) (by rfl) ?_
  refine X.move (by rfl) (by rfl) ?_
  refine X.nil ?_
  obtain ⟨o1, ho1, h⟩ := bindE h
  refine R.join2 (β := Int) [] [] (fun p34 S => (11, int p34) :: S) (fun p34 M => M) (fun p34 => (Sum.inl p34) = o1) ?_ ?_
  · intro JJ4 hmeet3
    have hup2 := h; clear h; have h := ho1; clear ho1
    refine Run.block ?_
    refine R.bndS (t := 18) (by rfl) (fun hbd7 => ?_)
    replace hbd7 : b0.Modes.length ≤ 9223372036854775807 := by first | (rw [List.length_map] at hbd7; exact hbd7) | simp
    refine R.loop2 (β := Int × Int × Bool) [(1, .slice (b1.map int)), (2, int b2), (3, bool b3), (4, bool b4), (18, .slice (b0.Modes.map eTMode)), (19, int (b0.Modes.length : Int))] [] (fun bb S => (11, int bb.2.1) :: (12, bool bb.2.2) :: (20, int bb.1) :: S) (fun bb M => M) (fun n bb => 0 ≤ bb.1 ∧ bb.1 + n = (b0.Modes.length : Int) ∧ s_l04Least_L1 b1 b2 b3 b4 (b0.Modes.drop bb.1.toNat) bb.1 bb.2.1 bb.2.2 = some o1) b0.Modes.length (0, 0, false) (by repeat (first | trivial | refine ⟨by first | rfl | simp [setL], ?_⟩)) (by repeat (first | trivial | refine ⟨by first | rfl | simp [setL], ?_⟩)) (by rfl) (by rfl) ⟨Int.le_refl _, by simp, h⟩ ?_
    clear h
    rintro JJ7 n7 ⟨z8, a9, a10⟩ hag7 ⟨hza7, hzb7, h⟩
    dsimp only at hza7 hzb7 h
    refine Run.seq ?_
    refine Run.reg ?_
    refine X.bin (by rfl) (by rfl) (by rfl) (by rfl) (by intro h; cases h) (by rfl) ?_
    refine X.nil ?_
    refine Run.seq ?_
    refine R.cond (by rfl) (fun hc13 => ?_) (fun hc13 => ?_)
    · obtain ⟨x11, xs12, hd7, hx7, hds7, hlt7⟩ := drop_atI hza7 hc13
      rw [hd7] at h
      rw [s_l04Least_L1] at h
      refine Run.skip ?_
      refine Run.seq ?_
      refine Run.block ?_
      refine Run.seq ?_
      refine Run.reg ?_
      refine X.move (by rfl) (by rfl) ?_
      refine X.index_s elt48 (by rfl) (by rfl) (idxL_spec hx7).1 (idxL_map eTMode hx7) (by rfl) (by rfl) (by rfl) ?_
      refine X.load_c shp47 (by rfl) (by rfl) (by rfl) (by rfl) ?_
      refine X.alloc zer47 (by rfl) (by rfl) (by rfl) ?_
      refine X.assign (by rfl) (by rfl) ?_
      refine X.store_l shp47 (by rfl) (by rfl) (by rfl) (by rfl) (by repeat (first | trivial | refine ⟨by first | rfl | simp [setL], ?_⟩)) (by rfl) (by rfl) (by rfl) ?_
      refine X.nil ?_
      refine Run.seq ?_
      refine Run.seq ?_
      refine Run.reg ?_
      refine X.move (by rfl) (by rfl) ?_
      refine X.move (by rfl) (by rfl) ?_
      obtain ⟨v14, hv14, h⟩ := bindE h
      refine X.callP (s_SetHas_pc _ _ _ hv14) (by rfl) (by rfl) (by rfl) (by trivial) (by rfl) (by rfl) (by rfl) (by rfl) ?_
      refine X.un (by rfl) (by rfl) (by rfl) ?_
      refine X.nil ?_
      refine R.cond (by rfl) (fun hc15 => ?_) (fun hc15 => ?_)
      · replace h := condT hc15 h
        refine Run.exit (by rfl) ?_
        refine Run.reg ?_
        refine X.add (by rfl) (by rfl) (by omega) (by rfl) ?_
        refine X.move (by rfl) (by rfl) ?_
        refine X.nil ?_
        exact hag7 (n7 - 1) (z8 + 1, a9, a10) _ _ (by omega) ⟨by first | omega | (dsimp only; omega), by first | omega | (dsimp only; omega), by first | (rw [hds7]; exact h) | (dsimp only; rw [hds7]; exact h)⟩ (by trivial) (by trivial) (by rfl) (by rfl)
      · replace h := condF hc15 h
        refine Run.skip ?_
        refine Run.seq ?_
        refine Run.reg ?_
        refine X.fieldAddr_l fld47_1 (by rfl) (by rfl) ?_
        refine X.load_l shp26 (by rfl) (by rfl) (by rfl) (by rfl) (by rfl) (by rfl) ?_
        refine X.assign (by rfl) (by rfl) ?_
        refine X.nil ?_
        refine Run.seq ?_
        refine Run.seq ?_
        refine Run.reg ?_
        refine X.move (by rfl) (by rfl) ?_
        refine X.nil ?_
        obtain ⟨o16, ho16, h⟩ := bindE h
        refine R.join2 (β := (List Int)) [(1, .slice (b1.map int)), (2, int b2), (3, bool b3), (4, bool b4), (11, int a9), (12, bool a10), (14, .lptr 896 0), (18, .slice (b0.Modes.map eTMode)), (19, int (b0.Modes.length : Int)), (20, int z8)] [(896, .blk true [int x11.Duration, .slice (x11.Usage.map int), .slice (x11.Consumption.map int)])] (fun p21 S => (15, .slice (p21.map int)) :: S) (fun p21 M => M) (fun p21 => p21 = o16) ?_ ?_
        · intro JJ19 hmeet18
          have hup17 := h; clear h; have h := ho16; clear ho16
          refine R.cond (by rfl) (fun hc20 => ?_) (fun hc20 => ?_)
          · replace h := condT hc20 h
            refine Run.reg ?_
            refine X.fieldAddr_l fld47_2 (by rfl) (by rfl) ?_
            refine X.load_l shp26 (by rfl) (by rfl) (by rfl) (by rfl) (by rfl) (by rfl) ?_
            refine X.assign (by rfl) (by rfl) ?_
            refine X.nil ?_
            exact hmeet18 x11.Consumption _ _ (Option.some.inj h) (by trivial) (by trivial) (by rfl) (by rfl)
          · replace h := condF hc20 h
            refine Run.skip ?_
            exact hmeet18 x11.Usage _ _ (Option.some.inj h) (by trivial) (by trivial) (by rfl) (by rfl)
        rintro p21 rfl
        refine Run.seq ?_
        refine Run.seq ?_
        refine Run.reg ?_
        refine X.move (by rfl) (by rfl) ?_
        refine X.move (by rfl) (by rfl) ?_
        refine X.len_s elt26 (by rfl) (by exact List.length_map ..) (by rfl) ?_
        refine X.subW (by rfl) (by rfl) (by rfl) ?_
        obtain ⟨v22, hv22, h⟩ := bindE h
        refine X.callP (s_l01In_pc _ _ _ _ hv22) (by rfl) (by rfl) (by rfl) (by trivial) (by rfl) (by rfl) (by rfl) (by rfl) ?_
        refine X.un (by rfl) (by rfl) (by rfl) ?_
        refine X.nil ?_
        refine R.cond (by rfl) (fun hc23 => ?_) (fun hc23 => ?_)
        · replace h := condT hc23 h
          refine Run.seq ?_
          refine Run.reg ?_
          refine X.assign (by rfl) (by rfl) ?_
          refine X.nil ?_
          cases h
          have h := hup2
          replace h := elimR h
          cases h
          refine R.fin1 Tryz.results268 (by rfl) (by rfl) ?_
          rfl
        · replace h := condF hc23 h
          refine Run.skip ?_
          refine Run.seq ?_
          refine Run.reg ?_
          refine X.move (by rfl) (by rfl) ?_
          refine X.move (by rfl) (by rfl) ?_
          obtain ⟨v24, hv24, h⟩ := bindE h
          refine X.index_s elt26 (by rfl) (by rfl) (idxL_spec hv24).1 (idxL_map int hv24) (by rfl) (by rfl) (by rfl) ?_
          refine X.load_c shp3 (by rfl) (by rfl) (by rfl) (by rfl) ?_
          refine X.assign (by rfl) (by rfl) ?_
          refine X.nil ?_
          refine Run.seq ?_
          refine Run.seq ?_
          refine Run.reg ?_
          refine X.move (by rfl) (by rfl) ?_
          refine X.nil ?_
          obtain ⟨o25, ho25, h⟩ := bindE h
          refine R.join2 (β := Int) [(1, .slice (b1.map int)), (2, int b2), (3, bool b3), (4, bool b4), (11, int a9), (12, bool a10), (18, .slice (b0.Modes.map eTMode)), (19, int (b0.Modes.length : Int)), (20, int z8)] [] (fun p30 S => (16, int p30) :: S) (fun p30 M => M) (fun p30 => p30 = o25) ?_ ?_
          · intro JJ28 hmeet27
            have hup26 := h; clear h; have h := ho25; clear ho25
            refine R.cond (by rfl) (fun hc29 => ?_) (fun hc29 => ?_)
            · replace h := condT hc29 h
              refine Run.reg ?_
              refine X.move (by rfl) (by rfl) ?_
              refine X.fieldAddr_l fld47_0 (by rfl) (by rfl) ?_
              refine X.load_l shp3 (by rfl) (by rfl) (by rfl) (by rfl) (by rfl) (by rfl) ?_
              refine X.mulW (by rfl) (by rfl) (by rfl) ?_
              refine X.assign (by rfl) (by rfl) ?_
              refine X.nil ?_
              exact hmeet27 (W (v24 * x11.Duration)) _ _ (Option.some.inj h) (by trivial) (by trivial) (by rfl) (by rfl)
            · replace h := condF hc29 h
              refine Run.skip ?_
              exact hmeet27 v24 _ _ (Option.some.inj h) (by trivial) (by trivial) (by rfl) (by rfl)
          rintro p30 rfl
          refine Run.seq ?_
          refine Run.seq ?_
          obtain ⟨e31, he31, h2⟩ := bindE h
          refine R.regG [(1, .slice (b1.map int)), (2, int b2), (3, bool b3), (4, bool b4), (11, int a9), (16, int p30), (18, .slice (b0.Modes.map eTMode)), (19, int (b0.Modes.length : Int)), (20, int z8), (55, bool e31)] [] ?_ ?_
          · clear h; have h := he31; clear he31 h2
            refine X.move (by rfl) (by rfl) ?_
            refine X.un (by rfl) (by rfl) (by rfl) ?_
            refine X.move (by rfl) (by rfl) ?_
            refine X.ifG (by rfl) (by rfl) (by rfl) (fun hb32 => ?_) (fun hb32 => ?_)
            · replace h := condF hb32 h
              refine X.move (by rfl) (by rfl) ?_
              refine X.gyes (by rfl) (by rfl) (by first | rfl | assumption) ?_
              refine X.move (by rfl) (by rfl) ?_
              refine X.gyes (by rfl) (by rfl) (by first | rfl | assumption) ?_
              refine X.bin (by rfl) (by rfl) (by rfl) (by rfl) (by intro h; cases h) (by rfl) ?_
              refine X.pickF (by rfl) (by first | rfl | assumption) (by rfl) (by rfl) ?_
              cases h
              exact X.endG (by trivial) (by trivial) (by rfl) (by rfl)
            · replace h := condT hb32 h
              refine X.gno (by rfl) (by rfl) (by first | rfl | assumption) (by rfl) ?_
              refine X.gno (by rfl) (by rfl) (by first | rfl | assumption) (by rfl) ?_
              refine X.pickT (by rfl) (by first | rfl | assumption) (by rfl) (by rfl) ?_
              cases h
              exact X.endG (by trivial) (by trivial) (by rfl) (by rfl)
          replace h := h2; clear h2
          refine R.cond (by rfl) (fun hc33 => ?_) (fun hc33 => ?_)
          · replace h := condT hc33 h
            refine Run.reg ?_
            refine X.move (by rfl) (by rfl) ?_
            refine X.assign (by rfl) (by rfl) ?_
            refine X.nil ?_
            refine Run.reg ?_
            refine X.assign (by rfl) (by rfl) ?_
            refine X.nil ?_
            refine Run.blk ?_
            refine Run.reg ?_
            refine X.add (by rfl) (by rfl) (by omega) (by rfl) ?_
            refine X.move (by rfl) (by rfl) ?_
            refine X.nil ?_
            exact hag7 (n7 - 1) (z8 + 1, p30, true) _ _ (by omega) ⟨by first | omega | (dsimp only; omega), by first | omega | (dsimp only; omega), by first | (rw [hds7]; exact h) | (dsimp only; rw [hds7]; exact h)⟩ (by trivial) (by trivial) (by rfl) (by rfl)
          · replace h := condF hc33 h
            refine Run.skip ?_
            refine Run.reg ?_
            refine X.assign (by rfl) (by rfl) ?_
            refine X.nil ?_
            refine Run.blk ?_
            refine Run.reg ?_
            refine X.add (by rfl) (by rfl) (by omega) (by rfl) ?_
            refine X.move (by rfl) (by rfl) ?_
            refine X.nil ?_
            exact hag7 (n7 - 1) (z8 + 1, a9, true) _ _ (by omega) ⟨by first | omega | (dsimp only; omega), by first | omega | (dsimp only; omega), by first | (rw [hds7]; exact h) | (dsimp only; rw [hds7]; exact h)⟩ (by trivial) (by trivial) (by rfl) (by rfl)
    · rw [drop_endI hza7 hc13] at h
      rw [s_l04Least_L1] at h
      refine Run.exit (by rfl) ?_
      exact hmeet3 a9 _ _ (Option.some.inj h) (by trivial) (by trivial) (by rfl) (by rfl)
  rintro p34 rfl
  replace h := elimL h
  refine Run.seq ?_
  refine Run.reg ?_
  refine X.move (by rfl) (by rfl) ?_
  refine X.assign (by rfl) (by rfl) ?_
  refine X.nil ?_
  cases h
  refine R.fin1 Tryz.results268 (by rfl) (by rfl) ?_
  rfl
theorem s_MinUsage_pc (b0 : TActivity) (b1 : List Int) (b2 : Int) (r : Int) (h : s_MinUsage b0 b1 b2 = some r) : PC Tryz.prog 260 [eTActivity b0, .slice (b1.map int), int b2] (int r) := by
  unfold s_MinUsage at h
  refine PC.start Tryz.func260 Tryz.ntmps260 rfl ok260 rfl ?_
  refine Run.seq ?_
  refine Run.reg ?_
  refine X.box (by rfl) (by rfl) (by repeat (first | trivial | refine ⟨by first | rfl | simp [setL], ?_⟩)) (by rfl) (by rfl) (by rfl) (by rfl) ?_
  refine X.assign (by rfl) (by rfl) ?_
  refine X.nil ?_
  refine Run.seq ?_
  refine Run.reg ?_
  refine X.load_l shp50 (by rfl) (by rfl) (by rfl) (by rfl) (by rfl) (by rfl) ?_
  refine X.move (by rfl) (by rfl) ?_
  refine X.move (by rfl) (by rfl) ?_
  obtain ⟨v1, hv1, h⟩ := bindE h
  refine X.callP (s_l04Least_pc _ _ _ _ _ _ hv1) (by rfl) (by rfl) (by rfl) (by trivial) (by rfl) (by rfl) (by rfl) (by rfl) ?_
  refine X.assign (by rfl) (by rfl) ?_
  refine X.nil ?_
  cases h
  refine R.fin1 Tryz.results260 (by rfl) (by rfl) ?_
  rfl
theorem s_l14Need_pc (b0 : TProject) (b1 : TDomain) (b2 : Int) (b3 : Int) (r : Int) (h : s_l14Need b0 b1 b2 b3 = some r) : PC Tryz.prog 154 [eTProject b0, eTDomain b1, int b2, int b3] (int r) := by
  unfold s_l14Need at h
  refine PC.start Tryz.func154 Tryz.ntmps154 rfl ok154 rfl ?_
  refine Run.seq ?_
  refine Run.reg ?_
  refine X.box (by rfl) (by rfl) (by repeat (first | trivial | refine ⟨by first | rfl | simp [setL], ?_⟩)) (by rfl) (by rfl) (by rfl) (by rfl) ?_
  refine X.box (by rfl) (by rfl) (by repeat (first | trivial | refine ⟨by first | rfl | simp [setL], ?_⟩)) (by rfl) (by rfl) (by rfl) (by rfl) ?_
  refine X.assign (by rfl) (by rfl) ?_
  refine X.nil ?_
  refine Run.seq ?_
  refine Run.draw (footOf [(1, ([256], [])), (6, ([320], []))]) mixed (by kernel_rfl) (by kernel_rfl) ?_
  refine X.fieldAddr_l fld28_1 (by rfl) (by rfl) ?_
  refine X.load_l shp23 (by rfl) (by rfl) (by rfl) (by rfl) (by rfl) (by rfl) ?_
  refine X.move (by rfl) (by rfl) ?_
  obtain ⟨v1, hv1, h⟩ := bindE h
  refine X.index_s elt23 (by rfl) (by rfl) (idxL_spec hv1).1 (idxL_map eTActivity hv1) (by rfl) (by rfl) (by rfl) ?_
  refine X.load_c shp50 (by rfl) (by rfl) (by rfl) (by rfl) ?_
  refine X.fieldAddr_l fld32_2 (by rfl) (by rfl) ?_
  refine X.load_l shp30 (by rfl) (by rfl) (by rfl) (by rfl) (by rfl) (by rfl) ?_
  refine X.move (by rfl) (by rfl) ?_
  obtain ⟨v2, hv2, h⟩ := bindE h
  refine X.index_s elt30 (by rfl) (by rfl) (idxL_spec hv2).1 (idxL_map l_int hv2) (by rfl) (by rfl) (by rfl) ?_
  refine X.load_c shp26 (by rfl) (by rfl) (by rfl) (by rfl) ?_
  refine X.move (by rfl) (by rfl) ?_
  obtain ⟨v3, hv3, h⟩ := bindE h
  refine X.callP (s_MinUsage_pc _ _ _ _ hv3) (by rfl) (by rfl) (by rfl) (by trivial) (by rfl) (by rfl) (by rfl) (by rfl) ?_
  refine X.assign (by rfl) (by rfl) ?_
  refine X.nil ?_
  cases h
  refine R.fin1 Tryz.results154 (by rfl) (by rfl) ?_
  rfl
theorem i_element_pc (b0 : List Int) (b1 : Int) (r : Int × Bool) (h : i_element b0 b1 = some r) : PC Tryz.prog 238 [.slice (b0.map int), int b1] (.tuple [int r.1, bool r.2]) := by
  unfold i_element at h
  refine PC.start Tryz.func238 Tryz.ntmps238 rfl ok238 rfl ?_
  refine Run.seq ?_
  refine Run.reg ?_
  refine X.assign (by rfl) (by rfl) ?_
  refine X.assign (by rfl) (by rfl) ?_
  refine X.nil ?_
  refine Run.seq ?_
  refine Run.seq ?_
  refine Run.reg ?_
  refine X.move (by rfl) (by rfl) ?_
  refine X.move (by rfl) (by rfl) ?_
  refine X.len_s elt26 (by rfl) (by exact List.length_map ..) (by rfl) ?_
  refine X.subW (by rfl) (by rfl) (by rfl) ?_
  obtain ⟨v1, hv1, h⟩ := bindE h
  refine X.callP (i_within_pc _ _ _ _ hv1) (by rfl) (by rfl) (by rfl) (by trivial) (by rfl) (by rfl) (by rfl) (by rfl) ?_
  refine X.un (by rfl) (by rfl) (by rfl) ?_
  refine X.nil ?_
  refine R.cond (by rfl) (fun hc2 => ?_) (fun hc2 => ?_)
  · replace h := condT hc2 h
    refine Run.seq ?_
    refine Run.reg ?_
    refine X.assign (by rfl) (by rfl) ?_
    refine X.assign (by rfl) (by rfl) ?_
    refine X.nil ?_
    cases h
    refine R.fin2 Tryz.results238 (by rfl) (by rfl) (by rfl) (by repeat (first | trivial | refine ⟨by first | rfl | simp [setL], ?_⟩)) ?_
    rfl
  · replace h := condF hc2 h
    refine Run.skip ?_
    refine Run.seq ?_
    refine Run.reg ?_
    refine X.move (by rfl) (by rfl) ?_
    refine X.move (by rfl) (by rfl) ?_
    obtain ⟨v3, hv3, h⟩ := bindE h
    refine X.index_s elt26 (by rfl) (by rfl) (idxL_spec hv3).1 (idxL_map int hv3) (by rfl) (by rfl) (by rfl) ?_
    refine X.load_c shp3 (by rfl) (by rfl) (by rfl) (by rfl) ?_
    refine X.assign (by rfl) (by rfl) ?_
    refine X.assign (by rfl) (by rfl) ?_
    refine X.nil ?_
    cases h
    refine R.fin2 Tryz.results238 (by rfl) (by rfl) (by rfl) (by repeat (first | trivial | refine ⟨by first | rfl | simp [setL], ?_⟩)) ?_
    rfl
theorem i_MinUsage_c1_pc (b0 : TMode) (c1 : Int) (r : Int × Bool) (h : i_MinUsage_c1 b0 c1 = some r) : PC Tryz.prog 237 [eTMode b0, .cptr (int c1).cells 0] (.tuple [int r.1, bool r.2]) := by
  unfold i_MinUsage_c1 at h
  refine PC.start Tryz.func237 Tryz.ntmps237 rfl ok237 rfl ?_
  refine Run.seq ?_
  refine Run.reg ?_
  refine X.box (by rfl) (by rfl) (by repeat (first | trivial | refine ⟨by first | rfl | simp [setL], ?_⟩)) (by rfl) (by rfl) (by rfl) (by rfl) ?_
  refine X.assign (by rfl) (by rfl) ?_
  refine X.assign (by rfl) (by rfl) ?_
  refine X.nil ?_
  refine Run.seq ?_
  refine Run.reg ?_
  refine X.fieldAddr_l fld47_1 (by rfl) (by rfl) ?_
  refine X.load_l shp26 (by rfl) (by rfl) (by rfl) (by rfl) (by rfl) (by rfl) ?_
  refine X.load_c shp3 (by rfl) (by rfl) (by rfl) (by rfl) ?_
  obtain ⟨v1, hv1, h⟩ := bindE h
  refine X.callT (i_element_pc _ _ _ hv1) (by rfl) (by rfl) (by rfl) (by trivial) (by rfl) (by rfl) (by rfl) (by rfl) (by rfl) (by rfl) ?_
  refine X.extract (by rfl) (by rfl) (by rfl) ?_
  refine X.extract (by rfl) (by rfl) (by rfl) ?_
  refine X.assign (by rfl) (by rfl) ?_
  refine X.assign (by rfl) (by rfl) ?_
  refine X.nil ?_
  cases h
  refine R.fin2 Tryz.results237 (by rfl) (by rfl) (by rfl) (by repeat (first | trivial | refine ⟨by first | rfl | simp [setL], ?_⟩)) ?_
  rfl
theorem i_leastOf_pc (b0 : List TMode) (g1 : TMode → Option (Int × Bool)) (g1id : Nat) (g1c : List PV) (hg1 : ∀ (x0 : TMode) v, g1 x0 = some v → PC Tryz.prog g1id ([eTMode x0] ++ g1c) (.tuple [int v.1, bool v.2])) (r : Int) (h : i_leastOf b0 g1 = some r) : PC Tryz.prog 235 [.slice (b0.map eTMode), .fn g1id g1c] (int r) := by
  unfold i_leastOf at h
  refine PC.start Tryz.func235 Tryz.ntmps235 rfl ok235 rfl ?_
  refine Run.seq ?_
  refine Run.reg ?_
  refine X.assign (by rfl) (by rfl) ?_
  refine X.nil ?_
  refine Run.seq ?_
  refine Run.reg ?_
  refine X.assign (by rfl) (by rfl) ?_
  refine X.nil ?_
  refine Run.seq ?_
  refine Run.seq ?_
  refine Run.reg ?_
  refine X.move (by rfl) (by rfl) ?_
  refine X.len_s elt48 (by rfl) (by exact List.length_map ..) (by rfl) ?_
  refine X.move (by rfl) (by rfl) ?_
  refine X.nil ?_
  obtain ⟨o1, ho1, h⟩ := bindE h
  refine R.join2 (β := Int) [] [] (fun p18 S => (5, int p18) :: S) (fun p18 M => M) (fun p18 => (Sum.inl p18) = o1) ?_ ?_
  · intro JJ4 hmeet3
    have hup2 := h; clear h; have h := ho1; clear ho1
    refine Run.block ?_
    refine R.bndS (t := 0) (by rfl) (fun hbd7 => ?_)
    replace hbd7 : b0.length ≤ 9223372036854775807 := by first | (rw [List.length_map] at hbd7; exact hbd7) | simp
    refine R.loop2 (β := Int × Int) [(1, .fn g1id g1c), (10, .slice (b0.map eTMode)), (11, int (b0.length : Int))] [] (fun bb S => (5, int bb.2) :: (12, int bb.1) :: S) (fun bb M => M) (fun n bb => 0 ≤ bb.1 ∧ bb.1 + n = (b0.length : Int) ∧ i_leastOf_L1 g1 (b0.drop bb.1.toNat) bb.1 bb.2 = some o1) b0.length (0, 0) (by repeat (first | trivial | refine ⟨by first | rfl | simp [setL], ?_⟩)) (by repeat (first | trivial | refine ⟨by first | rfl | simp [setL], ?_⟩)) (by rfl) (by rfl) ⟨Int.le_refl _, by simp, h⟩ ?_
    clear h
    rintro JJ7 n7 ⟨z8, a9⟩ hag7 ⟨hza7, hzb7, h⟩
    dsimp only at hza7 hzb7 h
    refine Run.seq ?_
    refine Run.reg ?_
    refine X.bin (by rfl) (by rfl) (by rfl) (by rfl) (by intro h; cases h) (by rfl) ?_
    refine X.nil ?_
    refine Run.seq ?_
    refine R.cond (by rfl) (fun hc12 => ?_) (fun hc12 => ?_)
    · obtain ⟨x10, xs11, hd7, hx7, hds7, hlt7⟩ := drop_atI hza7 hc12
      rw [hd7] at h
      rw [i_leastOf_L1] at h
      refine Run.skip ?_
      refine Run.seq ?_
      refine Run.block ?_
      refine Run.seq ?_
      refine Run.reg ?_
      refine X.move (by rfl) (by rfl) ?_
      refine X.index_s elt48 (by rfl) (by rfl) (idxL_spec hx7).1 (idxL_map eTMode hx7) (by rfl) (by rfl) (by rfl) ?_
      refine X.load_c shp47 (by rfl) (by rfl) (by rfl) (by rfl) ?_
      refine X.alloc zer47 (by rfl) (by rfl) (by rfl) ?_
      refine X.assign (by rfl) (by rfl) ?_
      refine X.store_l shp47 (by rfl) (by rfl) (by rfl) (by rfl) (by repeat (first | trivial | refine ⟨by first | rfl | simp [setL], ?_⟩)) (by rfl) (by rfl) (by rfl) ?_
      refine X.nil ?_
      refine Run.seq ?_
      refine Run.reg ?_
      refine X.move (by rfl) (by rfl) ?_
      refine X.load_l shp47 (by rfl) (by rfl) (by rfl) (by rfl) (by rfl) (by rfl) ?_
      obtain ⟨v13, hv13, h⟩ := bindE h
      refine X.callT (hg1 _ _ hv13) (by rfl) (by rfl) (by rfl) (by trivial) (by rfl) (by rfl) (by rfl) (by rfl) (by rfl) (by rfl) ?_
      refine X.move (by rfl) (by rfl) ?_
      refine X.extract (by rfl) (by rfl) (by rfl) ?_
      refine X.extract (by rfl) (by rfl) (by rfl) ?_
      refine X.assign (by rfl) (by rfl) ?_
      refine X.assign (by rfl) (by rfl) ?_
      refine X.nil ?_
      refine Run.seq ?_
      refine Run.seq ?_
      refine Run.reg ?_
      refine X.move (by rfl) (by rfl) ?_
      refine X.un (by rfl) (by rfl) (by rfl) ?_
      refine X.nil ?_
      refine R.cond (by rfl) (fun hc14 => ?_) (fun hc14 => ?_)
      · replace h := condT hc14 h
        refine Run.seq ?_
        refine Run.reg ?_
        refine X.assign (by rfl) (by rfl) ?_
        refine X.nil ?_
        cases h
        have h := hup2
        replace h := elimR h
        cases h
        refine R.fin1 Tryz.results235 (by rfl) (by rfl) ?_
        rfl
      · replace h := condF hc14 h
        refine Run.skip ?_
        refine Run.seq ?_
        obtain ⟨e15, he15, h2⟩ := bindE h
        refine R.regG [(1, .fn g1id g1c), (5, int a9), (8, int v13.1), (10, .slice (b0.map eTMode)), (11, int (b0.length : Int)), (12, int z8), (31, bool e15)] [] ?_ ?_
        · clear h; have h := he15; clear he15 h2
          refine X.move (by rfl) (by rfl) ?_
          refine X.bin (by rfl) (by rfl) (by rfl) (by rfl) (by intro h; cases h) (by rfl) ?_
          refine X.move (by rfl) (by rfl) ?_
          refine X.ifG (by rfl) (by rfl) (by rfl) (fun hb16 => ?_) (fun hb16 => ?_)
          · replace h := condF hb16 h
            refine X.move (by rfl) (by rfl) ?_
            refine X.gyes (by rfl) (by rfl) (by first | rfl | assumption) ?_
            refine X.move (by rfl) (by rfl) ?_
            refine X.gyes (by rfl) (by rfl) (by first | rfl | assumption) ?_
            refine X.bin (by rfl) (by rfl) (by rfl) (by rfl) (by intro h; cases h) (by rfl) ?_
            refine X.pickF (by rfl) (by first | rfl | assumption) (by rfl) (by rfl) ?_
            cases h
            exact X.endG (by trivial) (by trivial) (by rfl) (by rfl)
          · replace h := condT hb16 h
            refine X.gno (by rfl) (by rfl) (by first | rfl | assumption) (by rfl) ?_
            refine X.gno (by rfl) (by rfl) (by first | rfl | assumption) (by rfl) ?_
            refine X.pickT (by rfl) (by first | rfl | assumption) (by rfl) (by rfl) ?_
            cases h
            exact X.endG (by trivial) (by trivial) (by rfl) (by rfl)
        replace h := h2; clear h2
        refine R.cond (by rfl) (fun hc17 => ?_) (fun hc17 => ?_)
        · replace h := condT hc17 h
          refine Run.reg ?_
          refine X.move (by rfl) (by rfl) ?_
          refine X.assign (by rfl) (by rfl) ?_
          refine X.nil ?_
          refine Run.blk ?_
          refine Run.reg ?_
          refine X.add (by rfl) (by rfl) (by omega) (by rfl) ?_
          refine X.move (by rfl) (by rfl) ?_
          refine X.nil ?_
          exact hag7 (n7 - 1) (z8 + 1, v13.1) _ _ (by omega) ⟨by first | omega | (dsimp only; omega), by first | omega | (dsimp only; omega), by first | (rw [hds7]; exact h) | (dsimp only; rw [hds7]; exact h)⟩ (by trivial) (by trivial) (by rfl) (by rfl)
        · replace h := condF hc17 h
          refine Run.skip ?_
          refine Run.blk ?_
          refine Run.reg ?_
          refine X.add (by rfl) (by rfl) (by omega) (by rfl) ?_
          refine X.move (by rfl) (by rfl) ?_
          refine X.nil ?_
          exact hag7 (n7 - 1) (z8 + 1, a9) _ _ (by omega) ⟨by first | omega | (dsimp only; omega), by first | omega | (dsimp only; omega), by first | (rw [hds7]; exact h) | (dsimp only; rw [hds7]; exact h)⟩ (by trivial) (by trivial) (by rfl) (by rfl)
    · rw [drop_endI hza7 hc12] at h
      rw [i_leastOf_L1] at h
      refine Run.exit (by rfl) ?_
      exact hmeet3 a9 _ _ (Option.some.inj h) (by trivial) (by trivial) (by rfl) (by rfl)
  rintro p18 rfl
  replace h := elimL h
  refine Run.seq ?_
  refine Run.reg ?_
  refine X.move (by rfl) (by rfl) ?_
  refine X.assign (by rfl) (by rfl) ?_
  refine X.nil ?_
  cases h
  refine R.fin1 Tryz.results235 (by rfl) (by rfl) ?_
  rfl
theorem i_MinUsage_pc (b0 : TActivity) (b1 : List Int) (b2 : Int) (r : Int) (h : i_MinUsage b0 b1 b2 = some r) : PC Tryz.prog 125 [eTActivity b0, .slice (b1.map int), int b2] (int r) := by
  unfold i_MinUsage at h
  refine PC.start Tryz.func125 Tryz.ntmps125 rfl ok125 rfl ?_
  refine Run.seq ?_
  refine Run.reg ?_
  refine X.box (by rfl) (by rfl) (by repeat (first | trivial | refine ⟨by first | rfl | simp [setL], ?_⟩)) (by rfl) (by rfl) (by rfl) (by rfl) ?_
  refine X.box (by rfl) (by rfl) (by repeat (first | trivial | refine ⟨by first | rfl | simp [setL], ?_⟩)) (by rfl) (by rfl) (by rfl) (by rfl) ?_
  refine X.assign (by rfl) (by rfl) ?_
  refine X.nil ?_
  refine Run.seq ?_
  refine R.pubBlk (n := 320) (by rfl) (by rfl) (by repeat (first | trivial | refine ⟨by first | rfl | simp [setL], ?_⟩)) ?_
  refine Run.reg ?_
  refine X.load_l shp50 (by rfl) (by rfl) (by rfl) (by rfl) (by rfl) (by rfl) ?_
  refine X.move (by rfl) (by rfl) ?_
  obtain ⟨v1, hv1, h⟩ := bindE h
  refine X.callF (i_chosen_pc _ _ _ hv1) (by rfl) (by rfl) (by rfl) (by trivial) (by rfl) (by rfl) (by rfl) (by rfl) ?_
  refine X.makeFunc (by rfl) (by rfl) (by repeat (first | trivial | refine ⟨by first | rfl | simp [setL], ?_⟩)) (by rfl) (by rfl) ?_
  obtain ⟨v2, hv2, h⟩ := bindE h
  refine X.callP (i_leastOf_pc _ (fun x0 => i_MinUsage_c1 x0 b2) _ _ (fun x0 v hv => i_MinUsage_c1_pc _ _ _ hv) _ hv2) (by rfl) (by rfl) (by rfl) (by repeat (first | trivial | refine ⟨by first | rfl | simp [setL], ?_⟩)) (by rfl) (by rfl) (by rfl) (by rfl) ?_
  refine X.assign (by rfl) (by rfl) ?_
  refine X.nil ?_
  cases h
  refine R.fin1 Tryz.results125 (by rfl) (by rfl) ?_
  rfl
theorem i_RequiredUsage_pc (b0 : TProject) (b1 : TDomain) (b2 : Int) (b3 : Int) (r : Int) (h : i_RequiredUsage b0 b1 b2 b3 = some r) : PC Tryz.prog 37 [eTProject b0, eTDomain b1, int b2, int b3] (int r) := by
  unfold i_RequiredUsage at h
  refine PC.start Tryz.func37 Tryz.ntmps37 rfl ok37 rfl ?_
  refine Run.seq ?_
  refine Run.reg ?_
  refine X.box (by rfl) (by rfl) (by repeat (first | trivial | refine ⟨by first | rfl | simp [setL], ?_⟩)) (by rfl) (by rfl) (by rfl) (by rfl) ?_
  refine X.box (by rfl) (by rfl) (by repeat (first | trivial | refine ⟨by first | rfl | simp [setL], ?_⟩)) (by rfl) (by rfl) (by rfl) (by rfl) ?_
  refine X.assign (by rfl) (by rfl) ?_
  refine X.nil ?_
  refine Run.seq ?_
  refine Run.seq ?_
  obtain ⟨v1, hv1, h⟩ := bindE h
  obtain ⟨e2, he2, h2⟩ := bindE h
  refine R.regG [(2, int b2), (3, int b3), (4, .lptr 256 0), (5, .lptr 320 0), (24, bool e2)] [(256, .blk true [int b0.Deadline, .slice (b0.Activities.map eTActivity), .slice (b0.Links.map eTLink), .slice (b0.Resources.map eTResource), .slice (b0.Stocks.map int)]), (320, .blk true [.slice (b1.MinStart.map int), .slice (b1.MaxStart.map int), .slice (b1.Modes.map l_int)])] ?_ ?_
  · clear h; have h := he2; clear he2 h2
    refine X.load_l shp28 (by rfl) (by rfl) (by rfl) (by rfl) (by rfl) (by rfl) ?_
    refine X.load_l shp32 (by rfl) (by rfl) (by rfl) (by rfl) (by rfl) (by rfl) ?_
    refine X.callP (i_isUsable_pc _ _ _ hv1) (by rfl) (by rfl) (by rfl) (by trivial) (by rfl) (by rfl) (by rfl) (by rfl) ?_
    refine X.un (by rfl) (by rfl) (by rfl) ?_
    refine X.move (by rfl) (by rfl) ?_
    refine X.ifG (by rfl) (by rfl) (by rfl) (fun hb3 => ?_) (fun hb3 => ?_)
    · replace h := condF hb3 h
      refine X.load_l shp28 (by rfl) (by rfl) (by rfl) (by rfl) (by rfl) (by rfl) ?_
      refine X.gyes (by rfl) (by rfl) (by first | rfl | assumption) ?_
      refine X.move (by rfl) (by rfl) ?_
      refine X.gyes (by rfl) (by rfl) (by first | rfl | assumption) ?_
      obtain ⟨v4, hv4, h⟩ := bindE h
      refine X.callP (i_Project_hasActivity_pc _ _ _ hv4) (by rfl) (by rfl) (by rfl) (by trivial) (by rfl) (by rfl) (by rfl) (by rfl) ?_
      refine X.gyes (by rfl) (by rfl) (by first | rfl | assumption) ?_
      refine X.un (by rfl) (by rfl) (by rfl) ?_
      refine X.pickF (by rfl) (by first | rfl | assumption) (by rfl) (by rfl) ?_
      refine X.move (by rfl) (by rfl) ?_
      refine X.ifG (by rfl) (by rfl) (by rfl) (fun hb5 => ?_) (fun hb5 => ?_)
      · replace h := condF hb5 h
        refine X.load_l shp28 (by rfl) (by rfl) (by rfl) (by rfl) (by rfl) (by rfl) ?_
        refine X.gyes (by rfl) (by rfl) (by first | rfl | assumption) ?_
        refine X.move (by rfl) (by rfl) ?_
        refine X.gyes (by rfl) (by rfl) (by first | rfl | assumption) ?_
        obtain ⟨v6, hv6, h⟩ := bindE h
        refine X.callP (i_Project_hasResource_pc _ _ _ hv6) (by rfl) (by rfl) (by rfl) (by trivial) (by rfl) (by rfl) (by rfl) (by rfl) ?_
        refine X.gyes (by rfl) (by rfl) (by first | rfl | assumption) ?_
        refine X.un (by rfl) (by rfl) (by rfl) ?_
        refine X.pickF (by rfl) (by first | rfl | assumption) (by rfl) (by rfl) ?_
        cases h
        exact X.endG (by trivial) (by trivial) (by rfl) (by rfl)
      · replace h := condT hb5 h
        refine X.gno (by rfl) (by rfl) (by first | rfl | assumption) (by rfl) ?_
        refine X.gno (by rfl) (by rfl) (by first | rfl | assumption) (by rfl) ?_
        refine X.gno (by rfl) (by rfl) (by first | rfl | assumption) (by rfl) ?_
        refine X.pickT (by rfl) (by first | rfl | assumption) (by rfl) (by rfl) ?_
        cases h
        exact X.endG (by trivial) (by trivial) (by rfl) (by rfl)
    · replace h := condT hb3 h
      refine X.gno (by rfl) (by rfl) (by first | rfl | assumption) (by rfl) ?_
      refine X.gno (by rfl) (by rfl) (by first | rfl | assumption) (by rfl) ?_
      refine X.gno (by rfl) (by rfl) (by first | rfl | assumption) (by rfl) ?_
      refine X.pickT (by rfl) (by first | rfl | assumption) (by rfl) (by rfl) ?_
      refine X.move (by rfl) (by rfl) ?_
      refine X.gno (by rfl) (by rfl) (by first | rfl | assumption) (by rfl) ?_
      refine X.gno (by rfl) (by rfl) (by first | rfl | assumption) (by rfl) ?_
      refine X.gno (by rfl) (by rfl) (by first | rfl | assumption) (by rfl) ?_
      refine X.gno (by rfl) (by rfl) (by first | rfl | assumption) (by rfl) ?_
      refine X.pickT (by rfl) (by first | rfl | assumption) (by rfl) (by rfl) ?_
      cases h
      exact X.endG (by trivial) (by trivial) (by rfl) (by rfl)
  replace h := h2; clear h2
  refine R.cond (by rfl) (fun hc7 => ?_) (fun hc7 => ?_)
  · replace h := condT hc7 h
    refine Run.seq ?_
    refine Run.reg ?_
    refine X.assign (by rfl) (by rfl) ?_
    refine X.nil ?_
    cases h
    refine R.fin1 Tryz.results37 (by rfl) (by rfl) ?_
    rfl
  · replace h := condF hc7 h
    refine Run.skip ?_
    refine Run.seq ?_
    refine Run.draw (footOf [(1, ([256], [])), (6, ([320], []))]) mixed (by kernel_rfl) (by kernel_rfl) ?_
    refine X.fieldAddr_l fld28_1 (by rfl) (by rfl) ?_
    refine X.load_l shp23 (by rfl) (by rfl) (by rfl) (by rfl) (by rfl) (by rfl) ?_
    refine X.move (by rfl) (by rfl) ?_
    obtain ⟨v8, hv8, h⟩ := bindE h
    refine X.index_s elt23 (by rfl) (by rfl) (idxL_spec hv8).1 (idxL_map eTActivity hv8) (by rfl) (by rfl) (by rfl) ?_
    refine X.load_c shp50 (by rfl) (by rfl) (by rfl) (by rfl) ?_
    refine X.fieldAddr_l fld32_2 (by rfl) (by rfl) ?_
    refine X.load_l shp30 (by rfl) (by rfl) (by rfl) (by rfl) (by rfl) (by rfl) ?_
    refine X.move (by rfl) (by rfl) ?_
    obtain ⟨v9, hv9, h⟩ := bindE h
    refine X.index_s elt30 (by rfl) (by rfl) (idxL_spec hv9).1 (idxL_map l_int hv9) (by rfl) (by rfl) (by rfl) ?_
    refine X.load_c shp26 (by rfl) (by rfl) (by rfl) (by rfl) ?_
    refine X.move (by rfl) (by rfl) ?_
    obtain ⟨v10, hv10, h⟩ := bindE h
    refine X.callP (i_MinUsage_pc _ _ _ _ hv10) (by rfl) (by rfl) (by rfl) (by trivial) (by rfl) (by rfl) (by rfl) (by rfl) ?_
    refine X.assign (by rfl) (by rfl) ?_
    refine X.nil ?_
    cases h
    refine R.fin1 Tryz.results37 (by rfl) (by rfl) ?_
    rfl
theorem i_BothUse_pc (b0 : TProject) (b1 : TDomain) (b2 : Int) (b3 : Int) (b4 : Int) (r : Bool) (h : i_BothUse b0 b1 b2 b3 b4 = some r) : PC Tryz.prog 58 [eTProject b0, eTDomain b1, int b2, int b3, int b4] (bool r) := by
  unfold i_BothUse at h
  refine PC.start Tryz.func58 Tryz.ntmps58 rfl ok58 rfl ?_
  refine Run.seq ?_
  refine Run.reg ?_
  refine X.box (by rfl) (by rfl) (by repeat (first | trivial | refine ⟨by first | rfl | simp [setL], ?_⟩)) (by rfl) (by rfl) (by rfl) (by rfl) ?_
  refine X.box (by rfl) (by rfl) (by repeat (first | trivial | refine ⟨by first | rfl | simp [setL], ?_⟩)) (by rfl) (by rfl) (by rfl) (by rfl) ?_
  refine X.assign (by rfl) (by rfl) ?_
  refine X.nil ?_
  refine Run.seq ?_
  obtain ⟨v1, hv1, h⟩ := bindE h
  obtain ⟨e2, he2, h2⟩ := bindE h
  refine R.regG [(10, bool e2)] [] ?_ ?_
  · clear h; have h := he2; clear he2 h2
    refine X.load_l shp28 (by rfl) (by rfl) (by rfl) (by rfl) (by rfl) (by rfl) ?_
    refine X.load_l shp32 (by rfl) (by rfl) (by rfl) (by rfl) (by rfl) (by rfl) ?_
    refine X.move (by rfl) (by rfl) ?_
    refine X.move (by rfl) (by rfl) ?_
    refine X.move (by rfl) (by rfl) ?_
    refine X.callP (i_arePair_pc _ _ _ _ _ _ hv1) (by rfl) (by rfl) (by rfl) (by trivial) (by rfl) (by rfl) (by rfl) (by rfl) ?_
    refine X.move (by rfl) (by rfl) ?_
    refine X.ifG (by rfl) (by rfl) (by rfl) (fun hb3 => ?_) (fun hb3 => ?_)
    · replace h := condT hb3 h
      refine X.load_l shp28 (by rfl) (by rfl) (by rfl) (by rfl) (by rfl) (by rfl) ?_
      refine X.gyes (by rfl) (by rfl) (by first | rfl | assumption) ?_
      refine X.load_l shp32 (by rfl) (by rfl) (by rfl) (by rfl) (by rfl) (by rfl) ?_
      refine X.gyes (by rfl) (by rfl) (by first | rfl | assumption) ?_
      refine X.move (by rfl) (by rfl) ?_
      refine X.gyes (by rfl) (by rfl) (by first | rfl | assumption) ?_
      refine X.move (by rfl) (by rfl) ?_
      refine X.gyes (by rfl) (by rfl) (by first | rfl | assumption) ?_
      obtain ⟨v4, hv4, h⟩ := bindE h
      refine X.callP (i_RequiredUsage_pc _ _ _ _ _ hv4) (by rfl) (by rfl) (by rfl) (by trivial) (by rfl) (by rfl) (by rfl) (by rfl) ?_
      refine X.gyes (by rfl) (by rfl) (by first | rfl | assumption) ?_
      refine X.bin (by rfl) (by rfl) (by rfl) (by rfl) (by intro h; cases h) (by rfl) ?_
      refine X.pickT (by rfl) (by first | rfl | assumption) (by rfl) (by rfl) ?_
      refine X.move (by rfl) (by rfl) ?_
      refine X.ifG (by rfl) (by rfl) (by rfl) (fun hb5 => ?_) (fun hb5 => ?_)
      · replace h := condT hb5 h
        refine X.load_l shp28 (by rfl) (by rfl) (by rfl) (by rfl) (by rfl) (by rfl) ?_
        refine X.gyes (by rfl) (by rfl) (by first | rfl | assumption) ?_
        refine X.load_l shp32 (by rfl) (by rfl) (by rfl) (by rfl) (by rfl) (by rfl) ?_
        refine X.gyes (by rfl) (by rfl) (by first | rfl | assumption) ?_
        refine X.move (by rfl) (by rfl) ?_
        refine X.gyes (by rfl) (by rfl) (by first | rfl | assumption) ?_
        refine X.move (by rfl) (by rfl) ?_
        refine X.gyes (by rfl) (by rfl) (by first | rfl | assumption) ?_
        obtain ⟨v6, hv6, h⟩ := bindE h
        refine X.callP (i_RequiredUsage_pc _ _ _ _ _ hv6) (by rfl) (by rfl) (by rfl) (by trivial) (by rfl) (by rfl) (by rfl) (by rfl) ?_
        refine X.gyes (by rfl) (by rfl) (by first | rfl | assumption) ?_
        refine X.bin (by rfl) (by rfl) (by rfl) (by rfl) (by intro h; cases h) (by rfl) ?_
        refine X.pickT (by rfl) (by first | rfl | assumption) (by rfl) (by rfl) ?_
        refine X.assign (by rfl) (by rfl) ?_
        cases h
        exact X.endG (by trivial) (by trivial) (by rfl) (by rfl)
      · replace h := condF hb5 h
        refine X.gno (by rfl) (by rfl) (by first | rfl | assumption) (by rfl) ?_
        refine X.gno (by rfl) (by rfl) (by first | rfl | assumption) (by rfl) ?_
        refine X.gno (by rfl) (by rfl) (by first | rfl | assumption) (by rfl) ?_
        refine X.gno (by rfl) (by rfl) (by first | rfl | assumption) (by rfl) ?_
        refine X.gno (by rfl) (by rfl) (by first | rfl | assumption) (by rfl) ?_
        refine X.pickF (by rfl) (by first | rfl | assumption) (by rfl) (by rfl) ?_
        refine X.assign (by rfl) (by rfl) ?_
        cases h
        exact X.endG (by trivial) (by trivial) (by rfl) (by rfl)
    · replace h := condF hb3 h
      refine X.gno (by rfl) (by rfl) (by first | rfl | assumption) (by rfl) ?_
      refine X.gno (by rfl) (by rfl) (by first | rfl | assumption) (by rfl) ?_
      refine X.gno (by rfl) (by rfl) (by first | rfl | assumption) (by rfl) ?_
      refine X.gno (by rfl) (by rfl) (by first | rfl | assumption) (by rfl) ?_
      refine X.gno (by rfl) (by rfl) (by first | rfl | assumption) (by rfl) ?_
      refine X.pickF (by rfl) (by first | rfl | assumption) (by rfl) (by rfl) ?_
      refine X.move (by rfl) (by rfl) ?_
      refine X.gno (by rfl) (by rfl) (by first | rfl | assumption) (by rfl) ?_
      refine X.gno (by rfl) (by rfl) (by first | rfl | assumption) (by rfl) ?_
      refine X.gno (by rfl) (by rfl) (by first | rfl | assumption) (by rfl) ?_
      refine X.gno (by rfl) (by rfl) (by first | rfl | assumption) (by rfl) ?_
      refine X.gno (by rfl) (by rfl) (by first | rfl | assumption) (by rfl) ?_
      refine X.gno (by rfl) (by rfl) (by first | rfl | assumption) (by rfl) ?_
      refine X.pickF (by rfl) (by first | rfl | assumption) (by rfl) (by rfl) ?_
      refine X.assign (by rfl) (by rfl) ?_
      cases h
      exact X.endG (by trivial) (by trivial) (by rfl) (by rfl)
  replace h := h2; clear h2
  cases h
  refine R.fin1 Tryz.results58 (by rfl) (by rfl) ?_
  rfl
theorem s_l14Use_pc (b0 : TProject) (b1 : TDomain) (b2 : Int) (b3 : Int) (r : Int) (h : s_l14Use b0 b1 b2 b3 = some r) : PC Tryz.prog 155 [eTProject b0, eTDomain b1, int b2, int b3] (int r) := by
  unfold s_l14Use at h
  refine PC.start Tryz.func155 Tryz.ntmps155 rfl ok155 rfl ?_
  refine Run.seq ?_
  refine Run.reg ?_
  refine X.box (by rfl) (by rfl) (by repeat (first | trivial | refine ⟨by first | rfl | simp [setL], ?_⟩)) (by rfl) (by rfl) (by rfl) (by rfl) ?_
  refine X.box (by rfl) (by rfl) (by repeat (first | trivial | refine ⟨by first | rfl | simp [setL], ?_⟩)) (by rfl) (by rfl) (by rfl) (by rfl) ?_
  refine X.assign (by rfl) (by rfl) ?_
  refine X.nil ?_
  refine Run.seq ?_
  refine Run.reg ?_
  refine X.assign (by rfl) (by rfl) ?_
  refine X.nil ?_
  refine Run.seq ?_
  refine Run.seq ?_
  refine Run.reg ?_
  refine X.fieldAddr_l fld28_1 (by rfl) (by rfl) ?_
  refine X.load_l shp23 (by rfl) (by rfl) (by rfl) (by rfl) (by rfl) (by rfl) ?_
  refine X.len_s elt23 (by rfl) (by exact List.length_map ..) (by rfl) ?_
  refine X.move (by rfl) (by rfl) ?_
  refine X.nil ?_
  obtain ⟨o1, ho1, h⟩ := bindE h
  refine R.join2 (β := Int) [] [] (fun p20 S => (9, int p20) :: S) (fun p20 M => M) (fun p20 => p20 = o1) ?_ ?_
  · intro JJ4 hmeet3
    have hup2 := h; clear h; have h := ho1; clear ho1
    refine Run.block ?_
    refine R.bndS (t := 12) (by rfl) (fun hbd7 => ?_)
    replace hbd7 : b0.Activities.length ≤ 9223372036854775807 := by first | (rw [List.length_map] at hbd7; exact hbd7) | simp
    refine R.loop2 (β := Int × Int) [(2, int b2), (3, int b3), (4, .lptr 256 0), (5, .lptr 320 0), (13, int (b0.Activities.length : Int))] [(256, .blk true [int b0.Deadline, .slice (b0.Activities.map eTActivity), .slice (b0.Links.map eTLink), .slice (b0.Resources.map eTResource), .slice (b0.Stocks.map int)]), (320, .blk true [.slice (b1.MinStart.map int), .slice (b1.MaxStart.map int), .slice (b1.Modes.map l_int)])] (fun bb S => (9, int bb.2) :: (14, int bb.1) :: S) (fun bb M => M) (fun n bb => 0 ≤ bb.1 ∧ bb.1 + n = (b0.Activities.length : Int) ∧ s_l14Use_L1 b0 b1 b2 b3 (b0.Activities.drop bb.1.toNat) bb.1 bb.2 = some o1) b0.Activities.length (0, 0) (by repeat (first | trivial | refine ⟨by first | rfl | simp [setL], ?_⟩)) (by repeat (first | trivial | refine ⟨by first | rfl | simp [setL], ?_⟩)) (by rfl) (by rfl) ⟨Int.le_refl _, by simp, h⟩ ?_
    clear h
    rintro JJ7 n7 ⟨z8, a9⟩ hag7 ⟨hza7, hzb7, h⟩
    dsimp only at hza7 hzb7 h
    refine Run.seq ?_
    refine Run.reg ?_
    refine X.bin (by rfl) (by rfl) (by rfl) (by rfl) (by intro h; cases h) (by rfl) ?_
    refine X.nil ?_
    refine Run.seq ?_
    refine R.cond (by rfl) (fun hc12 => ?_) (fun hc12 => ?_)
    · obtain ⟨x10, xs11, hd7, hx7, hds7, hlt7⟩ := drop_atI hza7 hc12
      rw [hd7] at h
      rw [s_l14Use_L1] at h
      refine Run.skip ?_
      refine Run.seq ?_
      refine Run.block ?_
      refine Run.seq ?_
      refine Run.reg ?_
      refine X.move (by rfl) (by rfl) ?_
      refine X.assign (by rfl) (by rfl) ?_
      refine X.nil ?_
      refine Run.seq ?_
      obtain ⟨v13, hv13, h⟩ := bindE h
      obtain ⟨e14, he14, h2⟩ := bindE h
      refine R.drawG [(2, int b2), (3, int b3), (4, .lptr 256 0), (5, .lptr 320 0), (9, int a9), (10, int z8), (13, int (b0.Activities.length : Int)), (14, int z8), (37, bool e14)] [(256, .blk true [int b0.Deadline, .slice (b0.Activities.map eTActivity), .slice (b0.Links.map eTLink), .slice (b0.Resources.map eTResource), .slice (b0.Stocks.map int)]), (320, .blk true [.slice (b1.MinStart.map int), .slice (b1.MaxStart.map int), .slice (b1.Modes.map l_int)])] (footOf [(1, ([320], [])), (9, ([320], [])), (13, ([256], [])), (14, ([320], []))]) mixed (by kernel_rfl) (by kernel_rfl) ?_ ?_
      · clear h; have h := he14; clear he14 h2
        refine X.fieldAddr_l fld32_1 (by rfl) (by rfl) ?_
        refine X.load_l shp26 (by rfl) (by rfl) (by rfl) (by rfl) (by rfl) (by rfl) ?_
        refine X.move (by rfl) (by rfl) ?_
        refine X.index_s elt26 (by rfl) (by rfl) (idxL_spec hv13).1 (idxL_map int hv13) (by rfl) (by rfl) (by rfl) ?_
        refine X.load_c shp3 (by rfl) (by rfl) (by rfl) (by rfl) ?_
        refine X.move (by rfl) (by rfl) ?_
        refine X.bin (by rfl) (by rfl) (by rfl) (by rfl) (by intro h; cases h) (by rfl) ?_
        refine X.move (by rfl) (by rfl) ?_
        refine X.ifG (by rfl) (by rfl) (by rfl) (fun hb15 => ?_) (fun hb15 => ?_)
        · replace h := condT hb15 h
          refine X.fieldAddr_l fld32_0 (by rfl) (by rfl) ?_
          refine X.gyes (by rfl) (by rfl) (by first | rfl | assumption) ?_
          refine X.load_l shp26 (by rfl) (by rfl) (by rfl) (by rfl) (by rfl) (by rfl) ?_
          refine X.gyes (by rfl) (by rfl) (by first | rfl | assumption) ?_
          refine X.move (by rfl) (by rfl) ?_
          refine X.gyes (by rfl) (by rfl) (by first | rfl | assumption) ?_
          obtain ⟨v16, hv16, h⟩ := bindE h
          refine X.index_s elt26 (by rfl) (by rfl) (idxL_spec hv16).1 (idxL_map int hv16) (by rfl) (by rfl) (by rfl) ?_
          refine X.gyes (by rfl) (by rfl) (by first | rfl | assumption) ?_
          refine X.load_c shp3 (by rfl) (by rfl) (by rfl) (by rfl) ?_
          refine X.gyes (by rfl) (by rfl) (by first | rfl | assumption) ?_
          refine X.load_l shp28 (by rfl) (by rfl) (by rfl) (by rfl) (by rfl) (by rfl) ?_
          refine X.gyes (by rfl) (by rfl) (by first | rfl | assumption) ?_
          refine X.load_l shp32 (by rfl) (by rfl) (by rfl) (by rfl) (by rfl) (by rfl) ?_
          refine X.gyes (by rfl) (by rfl) (by first | rfl | assumption) ?_
          refine X.move (by rfl) (by rfl) ?_
          refine X.gyes (by rfl) (by rfl) (by first | rfl | assumption) ?_
          obtain ⟨v17, hv17, h⟩ := bindE h
          refine X.callP (s_l14Short_pc _ _ _ _ hv17) (by rfl) (by rfl) (by rfl) (by trivial) (by rfl) (by rfl) (by rfl) (by rfl) ?_
          refine X.gyes (by rfl) (by rfl) (by first | rfl | assumption) ?_
          refine X.addW (by rfl) (by rfl) (by rfl) ?_
          refine X.gyes (by rfl) (by rfl) (by first | rfl | assumption) ?_
          refine X.move (by rfl) (by rfl) ?_
          refine X.gyes (by rfl) (by rfl) (by first | rfl | assumption) ?_
          refine X.bin (by rfl) (by rfl) (by rfl) (by rfl) (by intro h; cases h) (by rfl) ?_
          refine X.pickT (by rfl) (by first | rfl | assumption) (by rfl) (by rfl) ?_
          cases h
          exact X.endG (by trivial) (by trivial) (by rfl) (by rfl)
        · replace h := condF hb15 h
          refine X.gno (by rfl) (by rfl) (by first | rfl | assumption) (by rfl) ?_
          refine X.gno (by rfl) (by rfl) (by first | rfl | assumption) (by rfl) ?_
          refine X.gno (by rfl) (by rfl) (by first | rfl | assumption) (by rfl) ?_
          refine X.gno (by rfl) (by rfl) (by first | rfl | assumption) (by rfl) ?_
          refine X.gno (by rfl) (by rfl) (by first | rfl | assumption) (by rfl) ?_
          refine X.gno (by rfl) (by rfl) (by first | rfl | assumption) (by rfl) ?_
          refine X.gno (by rfl) (by rfl) (by first | rfl | assumption) (by rfl) ?_
          refine X.gno (by rfl) (by rfl) (by first | rfl | assumption) (by rfl) ?_
          refine X.gno (by rfl) (by rfl) (by first | rfl | assumption) (by rfl) ?_
          refine X.gno (by rfl) (by rfl) (by first | rfl | assumption) (by rfl) ?_
          refine X.gno (by rfl) (by rfl) (by first | rfl | assumption) (by rfl) ?_
          refine X.pickF (by rfl) (by first | rfl | assumption) (by rfl) (by rfl) ?_
          cases h
          exact X.endG (by trivial) (by trivial) (by rfl) (by rfl)
      replace h := h2; clear h2
      refine R.cond (by rfl) (fun hc18 => ?_) (fun hc18 => ?_)
      · replace h := condT hc18 h
        refine Run.reg ?_
        refine X.move (by rfl) (by rfl) ?_
        refine X.load_l shp28 (by rfl) (by rfl) (by rfl) (by rfl) (by rfl) (by rfl) ?_
        refine X.load_l shp32 (by rfl) (by rfl) (by rfl) (by rfl) (by rfl) (by rfl) ?_
        refine X.move (by rfl) (by rfl) ?_
        refine X.move (by rfl) (by rfl) ?_
        obtain ⟨v19, hv19, h⟩ := bindE h
        refine X.callP (s_l14Need_pc _ _ _ _ _ hv19) (by rfl) (by rfl) (by rfl) (by trivial) (by rfl) (by rfl) (by rfl) (by rfl) ?_
        refine X.addW (by rfl) (by rfl) (by rfl) ?_
        refine X.assign (by rfl) (by rfl) ?_
        refine X.nil ?_
        refine Run.blk ?_
        refine Run.reg ?_
        refine X.add (by rfl) (by rfl) (by omega) (by rfl) ?_
        refine X.move (by rfl) (by rfl) ?_
        refine X.nil ?_
        exact hag7 (n7 - 1) (z8 + 1, (W (a9 + v19))) _ _ (by omega) ⟨by first | omega | (dsimp only; omega), by first | omega | (dsimp only; omega), by first | (rw [hds7]; exact h) | (dsimp only; rw [hds7]; exact h)⟩ (by trivial) (by trivial) (by rfl) (by rfl)
      · replace h := condF hc18 h
        refine Run.skip ?_
        refine Run.blk ?_
        refine Run.reg ?_
        refine X.add (by rfl) (by rfl) (by omega) (by rfl) ?_
        refine X.move (by rfl) (by rfl) ?_
        refine X.nil ?_
        exact hag7 (n7 - 1) (z8 + 1, a9) _ _ (by omega) ⟨by first | omega | (dsimp only; omega), by first | omega | (dsimp only; omega), by first | (rw [hds7]; exact h) | (dsimp only; rw [hds7]; exact h)⟩ (by trivial) (by trivial) (by rfl) (by rfl)
    · rw [drop_endI hza7 hc12] at h
      rw [s_l14Use_L1] at h
      refine Run.exit (by rfl) ?_
      exact hmeet3 a9 _ _ (Option.some.inj h) (by trivial) (by trivial) (by rfl) (by rfl)
  rintro p20 rfl
  refine Run.seq ?_
  refine Run.reg ?_
  refine X.move (by rfl) (by rfl) ?_
  refine X.assign (by rfl) (by rfl) ?_
  refine X.nil ?_
  cases h
  refine R.fin1 Tryz.results155 (by rfl) (by rfl) ?_
  rfl
theorem i_Project_compulsory_pc (b0 : TProject) (b1 : TDomain) (b2 : Int) (r : Int × Int) (h : i_Project_compulsory b0 b1 b2 = some r) : PC Tryz.prog 120 [eTProject b0, eTDomain b1, int b2] (.tuple [int r.1, int r.2]) := by
  unfold i_Project_compulsory at h
  refine PC.start Tryz.func120 Tryz.ntmps120 rfl ok120 rfl ?_
  refine Run.seq ?_
  refine Run.reg ?_
  refine X.box (by rfl) (by rfl) (by repeat (first | trivial | refine ⟨by first | rfl | simp [setL], ?_⟩)) (by rfl) (by rfl) (by rfl) (by rfl) ?_
  refine X.box (by rfl) (by rfl) (by repeat (first | trivial | refine ⟨by first | rfl | simp [setL], ?_⟩)) (by rfl) (by rfl) (by rfl) (by rfl) ?_
  refine X.assign (by rfl) (by rfl) ?_
  refine X.assign (by rfl) (by rfl) ?_
  refine X.nil ?_
  refine Run.seq ?_
  refine Run.draw (footOf [(1, ([256], [])), (6, ([256], [])), (10, ([192], [])), (11, ([256], []))]) mixed (by kernel_rfl) (by kernel_rfl) ?_
  refine X.fieldAddr_l fld32_1 (by rfl) (by rfl) ?_
  refine X.load_l shp26 (by rfl) (by rfl) (by rfl) (by rfl) (by rfl) (by rfl) ?_
  refine X.move (by rfl) (by rfl) ?_
  obtain ⟨v1, hv1, h⟩ := bindE h
  refine X.index_s elt26 (by rfl) (by rfl) (idxL_spec hv1).1 (idxL_map int hv1) (by rfl) (by rfl) (by rfl) ?_
  refine X.load_c shp3 (by rfl) (by rfl) (by rfl) (by rfl) ?_
  refine X.fieldAddr_l fld32_0 (by rfl) (by rfl) ?_
  refine X.load_l shp26 (by rfl) (by rfl) (by rfl) (by rfl) (by rfl) (by rfl) ?_
  refine X.move (by rfl) (by rfl) ?_
  obtain ⟨v2, hv2, h⟩ := bindE h
  refine X.index_s elt26 (by rfl) (by rfl) (idxL_spec hv2).1 (idxL_map int hv2) (by rfl) (by rfl) (by rfl) ?_
  refine X.load_c shp3 (by rfl) (by rfl) (by rfl) (by rfl) ?_
  refine X.load_l shp28 (by rfl) (by rfl) (by rfl) (by rfl) (by rfl) (by rfl) ?_
  refine X.load_l shp32 (by rfl) (by rfl) (by rfl) (by rfl) (by rfl) (by rfl) ?_
  refine X.move (by rfl) (by rfl) ?_
  obtain ⟨v3, hv3, h⟩ := bindE h
  refine X.callP (i_Project_duration_pc _ _ _ _ hv3) (by rfl) (by rfl) (by rfl) (by trivial) (by rfl) (by rfl) (by rfl) (by rfl) ?_
  refine X.addW (by rfl) (by rfl) (by rfl) ?_
  refine X.assign (by rfl) (by rfl) ?_
  refine X.assign (by rfl) (by rfl) ?_
  refine X.nil ?_
  cases h
  refine R.fin2 Tryz.results120 (by rfl) (by rfl) (by rfl) (by repeat (first | trivial | refine ⟨by first | rfl | simp [setL], ?_⟩)) ?_
  rfl
theorem i_Project_compulsoryUsage_pc (b0 : TProject) (b1 : TDomain) (b2 : Int) (b3 : Int) (r : Int) (h : i_Project_compulsoryUsage b0 b1 b2 b3 = some r) : PC Tryz.prog 116 [eTProject b0, eTDomain b1, int b2, int b3] (int r) := by
  unfold i_Project_compulsoryUsage at h
  refine PC.start Tryz.func116 Tryz.ntmps116 rfl ok116 rfl ?_
  refine Run.seq ?_
  refine Run.reg ?_
  refine X.box (by rfl) (by rfl) (by repeat (first | trivial | refine ⟨by first | rfl | simp [setL], ?_⟩)) (by rfl) (by rfl) (by rfl) (by rfl) ?_
  refine X.box (by rfl) (by rfl) (by repeat (first | trivial | refine ⟨by first | rfl | simp [setL], ?_⟩)) (by rfl) (by rfl) (by rfl) (by rfl) ?_
  refine X.assign (by rfl) (by rfl) ?_
  refine X.nil ?_
  refine Run.seq ?_
  refine Run.reg ?_
  refine X.assign (by rfl) (by rfl) ?_
  refine X.nil ?_
  refine Run.seq ?_
  refine Run.seq ?_
  refine Run.reg ?_
  refine X.fieldAddr_l fld28_1 (by rfl) (by rfl) ?_
  refine X.load_l shp23 (by rfl) (by rfl) (by rfl) (by rfl) (by rfl) (by rfl) ?_
  refine X.len_s elt23 (by rfl) (by exact List.length_map ..) (by rfl) ?_
  refine X.move (by rfl) (by rfl) ?_
  refine X.nil ?_
  obtain ⟨o1, ho1, h⟩ := bindE h
  refine R.join2 (β := Int) [] [] (fun p19 S => (9, int p19) :: S) (fun p19 M => M) (fun p19 => p19 = o1) ?_ ?_
  · intro JJ4 hmeet3
    have hup2 := h; clear h; have h := ho1; clear ho1
    refine Run.block ?_
    refine R.bndS (t := 15) (by rfl) (fun hbd7 => ?_)
    replace hbd7 : b0.Activities.length ≤ 9223372036854775807 := by first | (rw [List.length_map] at hbd7; exact hbd7) | simp
    refine R.loop2 (β := Int × Int) [(2, int b2), (3, int b3), (4, .lptr 256 0), (5, .lptr 320 0), (15, .slice (b0.Activities.map eTActivity)), (16, int (b0.Activities.length : Int))] [(256, .blk true [int b0.Deadline, .slice (b0.Activities.map eTActivity), .slice (b0.Links.map eTLink), .slice (b0.Resources.map eTResource), .slice (b0.Stocks.map int)]), (320, .blk true [.slice (b1.MinStart.map int), .slice (b1.MaxStart.map int), .slice (b1.Modes.map l_int)])] (fun bb S => (9, int bb.2) :: (17, int bb.1) :: S) (fun bb M => M) (fun n bb => 0 ≤ bb.1 ∧ bb.1 + n = (b0.Activities.length : Int) ∧ i_Project_compulsoryUsage_L1 b0 b1 b2 b3 (b0.Activities.drop bb.1.toNat) bb.1 bb.2 = some o1) b0.Activities.length (0, 0) (by repeat (first | trivial | refine ⟨by first | rfl | simp [setL], ?_⟩)) (by repeat (first | trivial | refine ⟨by first | rfl | simp [setL], ?_⟩)) (by rfl) (by rfl) ⟨Int.le_refl _, by simp, h⟩ ?_
    clear h
    rintro JJ7 n7 ⟨z8, a9⟩ hag7 ⟨hza7, hzb7, h⟩
    dsimp only at hza7 hzb7 h
    refine Run.seq ?_
    refine Run.reg ?_
    refine X.bin (by rfl) (by rfl) (by rfl) (by rfl) (by intro h; cases h) (by rfl) ?_
    refine X.nil ?_
    refine Run.seq ?_
    refine R.cond (by rfl) (fun hc12 => ?_) (fun hc12 => ?_)
    · obtain ⟨x10, xs11, hd7, hx7, hds7, hlt7⟩ := drop_atI hza7 hc12
      rw [hd7] at h
      rw [i_Project_compulsoryUsage_L1] at h
      refine Run.skip ?_
      refine Run.seq ?_
      refine Run.block ?_
      refine Run.seq ?_
      refine Run.reg ?_
      refine X.move (by rfl) (by rfl) ?_
      refine X.index_s elt23 (by rfl) (by rfl) (idxL_spec hx7).1 (idxL_map eTActivity hx7) (by rfl) (by rfl) (by rfl) ?_
      refine X.load_c shp50 (by rfl) (by rfl) (by rfl) (by rfl) ?_
      refine X.alloc zer50 (by rfl) (by rfl) (by rfl) ?_
      refine X.assign (by rfl) (by rfl) ?_
      refine X.store_l shp50 (by rfl) (by rfl) (by rfl) (by rfl) (by repeat (first | trivial | refine ⟨by first | rfl | simp [setL], ?_⟩)) (by rfl) (by rfl) (by rfl) ?_
      refine X.nil ?_
      refine Run.seq ?_
      refine Run.reg ?_
      refine X.load_l shp28 (by rfl) (by rfl) (by rfl) (by rfl) (by rfl) (by rfl) ?_
      refine X.load_l shp32 (by rfl) (by rfl) (by rfl) (by rfl) (by rfl) (by rfl) ?_
      refine X.move (by rfl) (by rfl) ?_
      obtain ⟨v13, hv13, h⟩ := bindE h
      refine X.callT (i_Project_compulsory_pc _ _ _ _ hv13) (by rfl) (by rfl) (by rfl) (by trivial) (by rfl) (by rfl) (by rfl) (by rfl) (by rfl) (by rfl) ?_
      refine X.move (by rfl) (by rfl) ?_
      refine X.extract (by rfl) (by rfl) (by rfl) ?_
      refine X.extract (by rfl) (by rfl) (by rfl) ?_
      refine X.assign (by rfl) (by rfl) ?_
      refine X.assign (by rfl) (by rfl) ?_
      refine X.nil ?_
      refine Run.seq ?_
      obtain ⟨e14, he14, h2⟩ := bindE h
      refine R.regG [(2, int b2), (3, int b3), (4, .lptr 256 0), (5, .lptr 320 0), (9, int a9), (10, int z8), (11, .lptr 704 0), (15, .slice (b0.Activities.map eTActivity)), (16, int (b0.Activities.length : Int)), (17, int z8), (36, bool e14)] [(256, .blk true [int b0.Deadline, .slice (b0.Activities.map eTActivity), .slice (b0.Links.map eTLink), .slice (b0.Resources.map eTResource), .slice (b0.Stocks.map int)]), (320, .blk true [.slice (b1.MinStart.map int), .slice (b1.MaxStart.map int), .slice (b1.Modes.map l_int)]), (704, .blk true [str x10.Name, int x10.Family, .slice (x10.Modes.map eTMode)])] ?_ ?_
      · clear h; have h := he14; clear he14 h2
        refine X.move (by rfl) (by rfl) ?_
        refine X.move (by rfl) (by rfl) ?_
        refine X.bin (by rfl) (by rfl) (by rfl) (by rfl) (by intro h; cases h) (by rfl) ?_
        refine X.move (by rfl) (by rfl) ?_
        refine X.ifG (by rfl) (by rfl) (by rfl) (fun hb15 => ?_) (fun hb15 => ?_)
        · replace h := condT hb15 h
          refine X.move (by rfl) (by rfl) ?_
          refine X.gyes (by rfl) (by rfl) (by first | rfl | assumption) ?_
          refine X.move (by rfl) (by rfl) ?_
          refine X.gyes (by rfl) (by rfl) (by first | rfl | assumption) ?_
          refine X.bin (by rfl) (by rfl) (by rfl) (by rfl) (by intro h; cases h) (by rfl) ?_
          refine X.pickT (by rfl) (by first | rfl | assumption) (by rfl) (by rfl) ?_
          cases h
          exact X.endG (by trivial) (by trivial) (by rfl) (by rfl)
        · replace h := condF hb15 h
          refine X.gno (by rfl) (by rfl) (by first | rfl | assumption) (by rfl) ?_
          refine X.gno (by rfl) (by rfl) (by first | rfl | assumption) (by rfl) ?_
          refine X.pickF (by rfl) (by first | rfl | assumption) (by rfl) (by rfl) ?_
          cases h
          exact X.endG (by trivial) (by trivial) (by rfl) (by rfl)
      replace h := h2; clear h2
      refine R.cond (by rfl) (fun hc16 => ?_) (fun hc16 => ?_)
      · replace h := condT hc16 h
        refine Run.draw (footOf [(1, ([704], [])), (3, ([320], []))]) mixed (by kernel_rfl) (by kernel_rfl) ?_
        refine X.move (by rfl) (by rfl) ?_
        refine X.load_l shp50 (by rfl) (by rfl) (by rfl) (by rfl) (by rfl) (by rfl) ?_
        refine X.fieldAddr_l fld32_2 (by rfl) (by rfl) ?_
        refine X.load_l shp30 (by rfl) (by rfl) (by rfl) (by rfl) (by rfl) (by rfl) ?_
        refine X.move (by rfl) (by rfl) ?_
        obtain ⟨v17, hv17, h⟩ := bindE h
        refine X.index_s elt30 (by rfl) (by rfl) (idxL_spec hv17).1 (idxL_map l_int hv17) (by rfl) (by rfl) (by rfl) ?_
        refine X.load_c shp26 (by rfl) (by rfl) (by rfl) (by rfl) ?_
        refine X.move (by rfl) (by rfl) ?_
        obtain ⟨v18, hv18, h⟩ := bindE h
        refine X.callP (i_MinUsage_pc _ _ _ _ hv18) (by rfl) (by rfl) (by rfl) (by trivial) (by rfl) (by rfl) (by rfl) (by rfl) ?_
        refine X.addW (by rfl) (by rfl) (by rfl) ?_
        refine X.assign (by rfl) (by rfl) ?_
        refine X.nil ?_
        refine Run.blk ?_
        refine Run.reg ?_
        refine X.add (by rfl) (by rfl) (by omega) (by rfl) ?_
        refine X.move (by rfl) (by rfl) ?_
        refine X.nil ?_
        exact hag7 (n7 - 1) (z8 + 1, (W (a9 + v18))) _ _ (by omega) ⟨by first | omega | (dsimp only; omega), by first | omega | (dsimp only; omega), by first | (rw [hds7]; exact h) | (dsimp only; rw [hds7]; exact h)⟩ (by trivial) (by trivial) (by rfl) (by rfl)
      · replace h := condF hc16 h
        refine Run.skip ?_
        refine Run.blk ?_
        refine Run.reg ?_
        refine X.add (by rfl) (by rfl) (by omega) (by rfl) ?_
        refine X.move (by rfl) (by rfl) ?_
        refine X.nil ?_
        exact hag7 (n7 - 1) (z8 + 1, a9) _ _ (by omega) ⟨by first | omega | (dsimp only; omega), by first | omega | (dsimp only; omega), by first | (rw [hds7]; exact h) | (dsimp only; rw [hds7]; exact h)⟩ (by trivial) (by trivial) (by rfl) (by rfl)
    · rw [drop_endI hza7 hc12] at h
      rw [i_Project_compulsoryUsage_L1] at h
      refine Run.exit (by rfl) ?_
      exact hmeet3 a9 _ _ (Option.some.inj h) (by trivial) (by trivial) (by rfl) (by rfl)
  rintro p19 rfl
  refine Run.seq ?_
  refine Run.reg ?_
  refine X.move (by rfl) (by rfl) ?_
  refine X.assign (by rfl) (by rfl) ?_
  refine X.nil ?_
  cases h
  refine R.fin1 Tryz.results116 (by rfl) (by rfl) ?_
  rfl
theorem s_l02Min_pc (b0 : Int) (b1 : Int) (r : Int) (h : s_l02Min b0 b1 = some r) : PC Tryz.prog 168 [int b0, int b1] (int r) := by
  unfold s_l02Min at h
  refine PC.start Tryz.func168 Tryz.ntmps168 rfl ok168 rfl ?_
  refine Run.seq ?_
  refine Run.reg ?_
  refine X.assign (by rfl) (by rfl) ?_
  refine X.nil ?_
  refine Run.seq ?_
  refine Run.seq ?_
  refine Run.reg ?_
  refine X.move (by rfl) (by rfl) ?_
  refine X.move (by rfl) (by rfl) ?_
  refine X.bin (by rfl) (by rfl) (by rfl) (by rfl) (by intro h; cases h) (by rfl) ?_
  refine X.nil ?_
  refine R.cond (by rfl) (fun hc1 => ?_) (fun hc1 => ?_)
  · replace h := condT hc1 h
    refine Run.seq ?_
    refine Run.reg ?_
    refine X.move (by rfl) (by rfl) ?_
    refine X.assign (by rfl) (by rfl) ?_
    refine X.nil ?_
    cases h
    refine R.fin1 Tryz.results168 (by rfl) (by rfl) ?_
    rfl
  · replace h := condF hc1 h
    refine Run.skip ?_
    refine Run.seq ?_
    refine Run.reg ?_
    refine X.move (by rfl) (by rfl) ?_
    refine X.assign (by rfl) (by rfl) ?_
    refine X.nil ?_
    cases h
    refine R.fin1 Tryz.results168 (by rfl) (by rfl) ?_
    rfl
theorem s_l02Max_pc (b0 : Int) (b1 : Int) (r : Int) (h : s_l02Max b0 b1 = some r) : PC Tryz.prog 159 [int b0, int b1] (int r) := by
  unfold s_l02Max at h
  refine PC.start Tryz.func159 Tryz.ntmps159 rfl ok159 rfl ?_
  refine Run.seq ?_
  refine Run.reg ?_
  refine X.assign (by rfl) (by rfl) ?_
  refine X.nil ?_
  refine Run.seq ?_
  refine Run.seq ?_
  refine Run.reg ?_
  refine X.move (by rfl) (by rfl) ?_
  refine X.move (by rfl) (by rfl) ?_
  refine X.bin (by rfl) (by rfl) (by rfl) (by rfl) (by intro h; cases h) (by rfl) ?_
  refine X.nil ?_
  refine R.cond (by rfl) (fun hc1 => ?_) (fun hc1 => ?_)
  · replace h := condT hc1 h
    refine Run.seq ?_
    refine Run.reg ?_
    refine X.move (by rfl) (by rfl) ?_
    refine X.assign (by rfl) (by rfl) ?_
    refine X.nil ?_
    cases h
    refine R.fin1 Tryz.results159 (by rfl) (by rfl) ?_
    rfl
  · replace h := condF hc1 h
    refine Run.skip ?_
    refine Run.seq ?_
    refine Run.reg ?_
    refine X.move (by rfl) (by rfl) ?_
    refine X.assign (by rfl) (by rfl) ?_
    refine X.nil ?_
    cases h
    refine R.fin1 Tryz.results159 (by rfl) (by rfl) ?_
    rfl
theorem s_Overlap_pc (b0 : Int) (b1 : Int) (b2 : Int) (b3 : Int) (r : Int) (h : s_Overlap b0 b1 b2 b3 = some r) : PC Tryz.prog 314 [int b0, int b1, int b2, int b3] (int r) := by
  unfold s_Overlap at h
  refine PC.start Tryz.func314 Tryz.ntmps314 rfl ok314 rfl ?_
  refine Run.seq ?_
  refine Run.reg ?_
  refine X.assign (by rfl) (by rfl) ?_
  refine X.nil ?_
  refine Run.seq ?_
  refine Run.seq ?_
  refine Run.reg ?_
  refine X.move (by rfl) (by rfl) ?_
  refine X.move (by rfl) (by rfl) ?_
  refine X.move (by rfl) (by rfl) ?_
  refine X.move (by rfl) (by rfl) ?_
  refine X.buildSlice false elt26 zer3 (by rfl) (by rfl) (by rfl) (by rfl) (by rfl) (by rfl) (by repeat (first | trivial | refine ⟨by first | rfl | simp [setL], ?_⟩)) (allSz_spec (by rfl)) (by rfl) (by rfl) (by rfl) ?_
  refine X.len_o elt26 (by rfl) (by rfl) (by first | rfl | simp [setL] | omega) (by first | exact List.length_map .. | rfl) (by rfl) (by rfl) ?_
  refine X.move (by rfl) (by rfl) ?_
  refine X.nil ?_
  obtain ⟨o1, ho1, h⟩ := bindE h
  refine R.join2 (β := Unit) [(0, int b0), (1, int b1), (2, int b2), (3, int b3)] [] (fun p14 S => S) (fun p14 M => M) (fun p14 => (Sum.inl p14) = o1) ?_ ?_
  · intro JJ4 hmeet3
    have hup2 := h; clear h; have h := ho1; clear ho1
    refine Run.block ?_
    refine R.bndO (n := 960) (by rfl) (fun hbd7 => ?_)
    replace hbd7 : ([b0, b1, b2, b3] : List Int).length ≤ 9223372036854775807 := by first | (rw [List.length_map] at hbd7; exact hbd7) | simp
    refine R.loop2 (β := Int) [(0, int b0), (1, int b1), (2, int b2), (3, int b3), (16, int (([b0, b1, b2, b3] : List Int).length : Int))] [(960, .obj false 3 1 (([b0, b1, b2, b3] : List Int).map int))] (fun bb S => (15, .own 960 (([b0, b1, b2, b3] : List Int).map int).length) :: (17, int bb) :: S) (fun bb M => M) (fun n bb => 0 ≤ bb ∧ bb + n = (([b0, b1, b2, b3] : List Int).length : Int) ∧ s_Overlap_L1 (([b0, b1, b2, b3] : List Int).drop bb.toNat) bb = some o1) ([b0, b1, b2, b3] : List Int).length (0 : Int) (by repeat (first | trivial | refine ⟨by first | rfl | simp [setL], ?_⟩)) (by repeat (first | trivial | refine ⟨by first | rfl | simp [setL], ?_⟩)) (by rfl) (by rfl) ⟨Int.le_refl _, by simp, h⟩ ?_
    clear h
    rintro JJ7 n7 z8 hag7 ⟨hza7, hzb7, h⟩
    refine Run.seq ?_
    refine Run.reg ?_
    refine X.bin (by rfl) (by rfl) (by rfl) (by rfl) (by intro h; cases h) (by rfl) ?_
    refine X.nil ?_
    refine Run.seq ?_
    refine R.cond (by rfl) (fun hc11 => ?_) (fun hc11 => ?_)
    · obtain ⟨x9, xs10, hd7, hx7, hds7, hlt7⟩ := drop_atI hza7 hc11
      rw [hd7] at h
      rw [s_Overlap_L1] at h
      refine Run.skip ?_
      refine Run.seq ?_
      refine Run.block ?_
      refine Run.seq ?_
      refine Run.reg ?_
      refine X.index_o elt26 (by rfl) (by rfl) (by first | rfl | simp [setL] | omega) (by rfl) (idxL_spec hx7).1 (idxL_map int hx7) (by rfl) (by rfl) (by rfl) ?_
      refine X.load_c shp3 (by rfl) (by rfl) (by rfl) (by rfl) ?_
      refine X.assign (by rfl) (by rfl) ?_
      refine X.nil ?_
      refine Run.seq ?_
      refine Run.reg ?_
      refine X.move (by rfl) (by rfl) ?_
      obtain ⟨v12, hv12, h⟩ := bindE h
      refine X.callP (s_l01In_pc _ _ _ _ hv12) (by rfl) (by rfl) (by rfl) (by trivial) (by rfl) (by rfl) (by rfl) (by rfl) ?_
      refine X.un (by rfl) (by rfl) (by rfl) ?_
      refine X.nil ?_
      refine R.cond (by rfl) (fun hc13 => ?_) (fun hc13 => ?_)
      · replace h := condT hc13 h
        refine Run.seq ?_
        refine Run.reg ?_
        refine X.assign (by rfl) (by rfl) ?_
        refine X.nil ?_
        cases h
        have h := hup2
        replace h := elimR h
        cases h
        refine R.fin1 Tryz.results314 (by rfl) (by rfl) ?_
        rfl
      · replace h := condF hc13 h
        refine Run.skip ?_
        refine Run.blk ?_
        refine Run.reg ?_
        refine X.add (by rfl) (by rfl) (by omega) (by rfl) ?_
        refine X.move (by rfl) (by rfl) ?_
        refine X.nil ?_
        exact hag7 (n7 - 1) (z8 + 1) _ _ (by omega) ⟨by first | omega | (dsimp only; omega), by first | omega | (dsimp only; omega), by first | (rw [hds7]; exact h) | (dsimp only; rw [hds7]; exact h)⟩ (by repeat (first | trivial | refine ⟨by first | rfl | simp [setL], ?_⟩)) (by repeat (first | trivial | refine ⟨by first | rfl | simp [setL], ?_⟩)) (by rfl) (by rfl)
    · rw [drop_endI hza7 hc11] at h
      rw [s_Overlap_L1] at h
      refine Run.exit (by rfl) ?_
      exact hmeet3 () _ _ (Option.some.inj h) (by repeat (first | trivial | refine ⟨by first | rfl | simp [setL], ?_⟩)) (by repeat (first | trivial | refine ⟨by first | rfl | simp [setL], ?_⟩)) (by rfl) (by rfl)
  rintro p14 rfl
  replace h := elimL h
  refine Run.seq ?_
  refine Run.seq ?_
  refine Run.reg ?_
  refine X.move (by rfl) (by rfl) ?_
  refine X.bin (by rfl) (by rfl) (by rfl) (by rfl) (by intro h; cases h) (by rfl) ?_
  refine X.nil ?_
  refine R.cond (by rfl) (fun hc16 => ?_) (fun hc16 => ?_)
  · replace h := condT hc16 h
    refine Run.seq ?_
    refine Run.reg ?_
    refine X.assign (by rfl) (by rfl) ?_
    refine X.nil ?_
    cases h
    refine R.fin1 Tryz.results314 (by rfl) (by rfl) ?_
    rfl
  · replace h := condF hc16 h
    refine Run.skip ?_
    refine Run.seq ?_
    refine Run.reg ?_
    refine X.move (by rfl) (by rfl) ?_
    refine X.move (by rfl) (by rfl) ?_
    refine X.addW (by rfl) (by rfl) (by rfl) ?_
    refine X.move (by rfl) (by rfl) ?_
    obtain ⟨v17, hv17, h⟩ := bindE h
    refine X.callP (s_l02Min_pc _ _ _ hv17) (by rfl) (by rfl) (by rfl) (by trivial) (by rfl) (by rfl) (by rfl) (by rfl) ?_
    refine X.move (by rfl) (by rfl) ?_
    refine X.move (by rfl) (by rfl) ?_
    obtain ⟨v18, hv18, h⟩ := bindE h
    refine X.callP (s_l02Max_pc _ _ _ hv18) (by rfl) (by rfl) (by rfl) (by trivial) (by rfl) (by rfl) (by rfl) (by rfl) ?_
    refine X.subW (by rfl) (by rfl) (by rfl) ?_
    obtain ⟨v19, hv19, h⟩ := bindE h
    refine X.callP (s_l02Max_pc _ _ _ hv19) (by rfl) (by rfl) (by rfl) (by trivial) (by rfl) (by rfl) (by rfl) (by rfl) ?_
    refine X.assign (by rfl) (by rfl) ?_
    refine X.nil ?_
    cases h
    refine R.fin1 Tryz.results314 (by rfl) (by rfl) ?_
    rfl
theorem s_l15Work_pc (b0 : TProject) (b1 : TDomain) (b2 : Int) (b3 : Int) (b4 : Int) (b5 : Int) (r : Int) (h : s_l15Work b0 b1 b2 b3 b4 b5 = some r) : PC Tryz.prog 261 [eTProject b0, eTDomain b1, int b2, int b3, int b4, int b5] (int r) := by
  unfold s_l15Work at h
  refine PC.start Tryz.func261 Tryz.ntmps261 rfl ok261 rfl ?_
  refine Run.seq ?_
  refine Run.reg ?_
  refine X.box (by rfl) (by rfl) (by repeat (first | trivial | refine ⟨by first | rfl | simp [setL], ?_⟩)) (by rfl) (by rfl) (by rfl) (by rfl) ?_
  refine X.box (by rfl) (by rfl) (by repeat (first | trivial | refine ⟨by first | rfl | simp [setL], ?_⟩)) (by rfl) (by rfl) (by rfl) (by rfl) ?_
  refine X.assign (by rfl) (by rfl) ?_
  refine X.nil ?_
  refine Run.seq ?_
  refine Run.reg ?_
  refine X.assign (by rfl) (by rfl) ?_
  refine X.nil ?_
  refine Run.seq ?_
  refine Run.seq ?_
  refine Run.reg ?_
  refine X.fieldAddr_l fld32_2 (by rfl) (by rfl) ?_
  refine X.load_l shp30 (by rfl) (by rfl) (by rfl) (by rfl) (by rfl) (by rfl) ?_
  refine X.move (by rfl) (by rfl) ?_
  obtain ⟨v1, hv1, h⟩ := bindE h
  refine X.index_s elt30 (by rfl) (by rfl) (idxL_spec hv1).1 (idxL_map l_int hv1) (by rfl) (by rfl) (by rfl) ?_
  refine X.load_c shp26 (by rfl) (by rfl) (by rfl) (by rfl) ?_
  refine X.len_s elt26 (by rfl) (by exact List.length_map ..) (by rfl) ?_
  refine X.move (by rfl) (by rfl) ?_
  refine X.nil ?_
  obtain ⟨o2, ho2, h⟩ := bindE h
  refine R.join2 (β := Int) [] [] (fun p25 S => (13, int p25) :: S) (fun p25 M => M) (fun p25 => p25 = o2) ?_ ?_
  · intro JJ5 hmeet4
    have hup3 := h; clear h; have h := ho2; clear ho2
    refine Run.block ?_
    refine R.bndS (t := 22) (by rfl) (fun hbd8 => ?_)
    replace hbd8 : v1.length ≤ 9223372036854775807 := by first | (rw [List.length_map] at hbd8; exact hbd8) | simp
    refine R.loop2 (β := Int × Int) [(2, int b2), (3, int b3), (4, int b4), (5, int b5), (6, .lptr 384 0), (7, .lptr 448 0), (22, .slice (v1.map int)), (23, int (v1.length : Int))] [(384, .blk true [int b0.Deadline, .slice (b0.Activities.map eTActivity), .slice (b0.Links.map eTLink), .slice (b0.Resources.map eTResource), .slice (b0.Stocks.map int)]), (448, .blk true [.slice (b1.MinStart.map int), .slice (b1.MaxStart.map int), .slice (b1.Modes.map l_int)])] (fun bb S => (13, int bb.2) :: (24, int bb.1) :: S) (fun bb M => M) (fun n bb => 0 ≤ bb.1 ∧ bb.1 + n = (v1.length : Int) ∧ s_l15Work_L1 b0 b1 b2 b3 b4 b5 (v1.drop bb.1.toNat) bb.1 bb.2 = some o2) v1.length (0, (-1)) (by repeat (first | trivial | refine ⟨by first | rfl | simp [setL], ?_⟩)) (by repeat (first | trivial | refine ⟨by first | rfl | simp [setL], ?_⟩)) (by rfl) (by rfl) ⟨Int.le_refl _, by simp, h⟩ ?_
    clear h
    rintro JJ8 n8 ⟨z9, a10⟩ hag8 ⟨hza8, hzb8, h⟩
    dsimp only at hza8 hzb8 h
    refine Run.seq ?_
    refine Run.reg ?_
    refine X.bin (by rfl) (by rfl) (by rfl) (by rfl) (by intro h; cases h) (by rfl) ?_
    refine X.nil ?_
    refine Run.seq ?_
    refine R.cond (by rfl) (fun hc13 => ?_) (fun hc13 => ?_)
    · obtain ⟨x11, xs12, hd8, hx8, hds8, hlt8⟩ := drop_atI hza8 hc13
      rw [hd8] at h
      rw [s_l15Work_L1] at h
      refine Run.skip ?_
      refine Run.seq ?_
      refine Run.block ?_
      refine Run.seq ?_
      refine Run.reg ?_
      refine X.index_s elt26 (by rfl) (by rfl) (idxL_spec hx8).1 (idxL_map int hx8) (by rfl) (by rfl) (by rfl) ?_
      refine X.load_c shp3 (by rfl) (by rfl) (by rfl) (by rfl) ?_
      refine X.assign (by rfl) (by rfl) ?_
      refine X.nil ?_
      refine Run.seq ?_
      refine Run.reg ?_
      refine X.fieldAddr_l fld28_1 (by rfl) (by rfl) ?_
      refine X.load_l shp23 (by rfl) (by rfl) (by rfl) (by rfl) (by rfl) (by rfl) ?_
      refine X.move (by rfl) (by rfl) ?_
      obtain ⟨v14, hv14, h⟩ := bindE h
      refine X.index_s elt23 (by rfl) (by rfl) (idxL_spec hv14).1 (idxL_map eTActivity hv14) (by rfl) (by rfl) (by rfl) ?_
      refine X.fieldAddr_c fld50_2 (by rfl) (by rfl) ?_
      refine X.load_c shp48 (by rfl) (by rfl) (by rfl) (by rfl) ?_
      refine X.move (by rfl) (by rfl) ?_
      obtain ⟨v15, hv15, h⟩ := bindE h
      refine X.index_s elt48 (by rfl) (by rfl) (idxL_spec hv15).1 (idxL_map eTMode hv15) (by rfl) (by rfl) (by rfl) ?_
      refine X.load_c shp47 (by rfl) (by rfl) (by rfl) (by rfl) ?_
      refine X.alloc zer47 (by rfl) (by rfl) (by rfl) ?_
      refine X.store_l shp47 (by rfl) (by rfl) (by rfl) (by rfl) (by repeat (first | trivial | refine ⟨by first | rfl | simp [setL], ?_⟩)) (by rfl) (by rfl) (by rfl) ?_
      refine X.nil ?_
      refine Run.seq ?_
      refine Run.draw (footOf [(1, ([1024], [])), (6, ([448], [])), (11, ([1024], [])), (16, ([448], [])), (21, ([1024], []))]) mixed (by kernel_rfl) (by kernel_rfl) ?_
      refine X.fieldAddr_l fld47_1 (by rfl) (by rfl) ?_
      refine X.load_l shp26 (by rfl) (by rfl) (by rfl) (by rfl) (by rfl) (by rfl) ?_
      refine X.move (by rfl) (by rfl) ?_
      obtain ⟨v16, hv16, h⟩ := bindE h
      refine X.index_s elt26 (by rfl) (by rfl) (idxL_spec hv16).1 (idxL_map int hv16) (by rfl) (by rfl) (by rfl) ?_
      refine X.load_c shp3 (by rfl) (by rfl) (by rfl) (by rfl) ?_
      refine X.fieldAddr_l fld32_0 (by rfl) (by rfl) ?_
      refine X.load_l shp26 (by rfl) (by rfl) (by rfl) (by rfl) (by rfl) (by rfl) ?_
      refine X.move (by rfl) (by rfl) ?_
      obtain ⟨v17, hv17, h⟩ := bindE h
      refine X.index_s elt26 (by rfl) (by rfl) (idxL_spec hv17).1 (idxL_map int hv17) (by rfl) (by rfl) (by rfl) ?_
      refine X.load_c shp3 (by rfl) (by rfl) (by rfl) (by rfl) ?_
      refine X.fieldAddr_l fld47_0 (by rfl) (by rfl) ?_
      refine X.load_l shp3 (by rfl) (by rfl) (by rfl) (by rfl) (by rfl) (by rfl) ?_
      refine X.move (by rfl) (by rfl) ?_
      refine X.move (by rfl) (by rfl) ?_
      obtain ⟨v18, hv18, h⟩ := bindE h
      refine X.callP (s_Overlap_pc _ _ _ _ _ hv18) (by rfl) (by rfl) (by rfl) (by trivial) (by rfl) (by rfl) (by rfl) (by rfl) ?_
      refine X.fieldAddr_l fld32_1 (by rfl) (by rfl) ?_
      refine X.load_l shp26 (by rfl) (by rfl) (by rfl) (by rfl) (by rfl) (by rfl) ?_
      refine X.move (by rfl) (by rfl) ?_
      obtain ⟨v19, hv19, h⟩ := bindE h
      refine X.index_s elt26 (by rfl) (by rfl) (idxL_spec hv19).1 (idxL_map int hv19) (by rfl) (by rfl) (by rfl) ?_
      refine X.load_c shp3 (by rfl) (by rfl) (by rfl) (by rfl) ?_
      refine X.fieldAddr_l fld47_0 (by rfl) (by rfl) ?_
      refine X.load_l shp3 (by rfl) (by rfl) (by rfl) (by rfl) (by rfl) (by rfl) ?_
      refine X.move (by rfl) (by rfl) ?_
      refine X.move (by rfl) (by rfl) ?_
      obtain ⟨v20, hv20, h⟩ := bindE h
      refine X.callP (s_Overlap_pc _ _ _ _ _ hv20) (by rfl) (by rfl) (by rfl) (by trivial) (by rfl) (by rfl) (by rfl) (by rfl) ?_
      obtain ⟨v21, hv21, h⟩ := bindE h
      refine X.callP (s_l02Min_pc _ _ _ hv21) (by rfl) (by rfl) (by rfl) (by trivial) (by rfl) (by rfl) (by rfl) (by rfl) ?_
      refine X.mulW (by rfl) (by rfl) (by rfl) ?_
      refine X.assign (by rfl) (by rfl) ?_
      refine X.nil ?_
      refine Run.seq ?_
      obtain ⟨e22, he22, h2⟩ := bindE h
      refine R.regG [(2, int b2), (3, int b3), (4, int b4), (5, int b5), (6, .lptr 384 0), (7, .lptr 448 0), (13, int a10), (17, int (W (v16 * v21))), (22, .slice (v1.map int)), (23, int (v1.length : Int)), (24, int z9), (70, bool e22)] [(384, .blk true [int b0.Deadline, .slice (b0.Activities.map eTActivity), .slice (b0.Links.map eTLink), .slice (b0.Resources.map eTResource), .slice (b0.Stocks.map int)]), (448, .blk true [.slice (b1.MinStart.map int), .slice (b1.MaxStart.map int), .slice (b1.Modes.map l_int)])] ?_ ?_
      · clear h; have h := he22; clear he22 h2
        refine X.move (by rfl) (by rfl) ?_
        refine X.bin (by rfl) (by rfl) (by rfl) (by rfl) (by intro h; cases h) (by rfl) ?_
        refine X.move (by rfl) (by rfl) ?_
        refine X.ifG (by rfl) (by rfl) (by rfl) (fun hb23 => ?_) (fun hb23 => ?_)
        · replace h := condF hb23 h
          refine X.move (by rfl) (by rfl) ?_
          refine X.gyes (by rfl) (by rfl) (by first | rfl | assumption) ?_
          refine X.move (by rfl) (by rfl) ?_
          refine X.gyes (by rfl) (by rfl) (by first | rfl | assumption) ?_
          refine X.bin (by rfl) (by rfl) (by rfl) (by rfl) (by intro h; cases h) (by rfl) ?_
          refine X.pickF (by rfl) (by first | rfl | assumption) (by rfl) (by rfl) ?_
          cases h
          exact X.endG (by trivial) (by trivial) (by rfl) (by rfl)
        · replace h := condT hb23 h
          refine X.gno (by rfl) (by rfl) (by first | rfl | assumption) (by rfl) ?_
          refine X.gno (by rfl) (by rfl) (by first | rfl | assumption) (by rfl) ?_
          refine X.pickT (by rfl) (by first | rfl | assumption) (by rfl) (by rfl) ?_
          cases h
          exact X.endG (by trivial) (by trivial) (by rfl) (by rfl)
      replace h := h2; clear h2
      refine R.cond (by rfl) (fun hc24 => ?_) (fun hc24 => ?_)
      · replace h := condT hc24 h
        refine Run.reg ?_
        refine X.move (by rfl) (by rfl) ?_
        refine X.assign (by rfl) (by rfl) ?_
        refine X.nil ?_
        refine Run.blk ?_
        refine Run.reg ?_
        refine X.add (by rfl) (by rfl) (by omega) (by rfl) ?_
        refine X.move (by rfl) (by rfl) ?_
        refine X.nil ?_
        exact hag8 (n8 - 1) (z9 + 1, (W (v16 * v21))) _ _ (by omega) ⟨by first | omega | (dsimp only; omega), by first | omega | (dsimp only; omega), by first | (rw [hds8]; exact h) | (dsimp only; rw [hds8]; exact h)⟩ (by trivial) (by trivial) (by rfl) (by rfl)
      · replace h := condF hc24 h
        refine Run.skip ?_
        refine Run.blk ?_
        refine Run.reg ?_
        refine X.add (by rfl) (by rfl) (by omega) (by rfl) ?_
        refine X.move (by rfl) (by rfl) ?_
        refine X.nil ?_
        exact hag8 (n8 - 1) (z9 + 1, a10) _ _ (by omega) ⟨by first | omega | (dsimp only; omega), by first | omega | (dsimp only; omega), by first | (rw [hds8]; exact h) | (dsimp only; rw [hds8]; exact h)⟩ (by trivial) (by trivial) (by rfl) (by rfl)
    · rw [drop_endI hza8 hc13] at h
      rw [s_l15Work_L1] at h
      refine Run.exit (by rfl) ?_
      exact hmeet4 a10 _ _ (Option.some.inj h) (by trivial) (by trivial) (by rfl) (by rfl)
  rintro p25 rfl
  refine Run.seq ?_
  refine Run.reg ?_
  refine X.move (by rfl) (by rfl) ?_
  obtain ⟨v26, hv26, h⟩ := bindE h
  refine X.callP (s_l02Max_pc _ _ _ hv26) (by rfl) (by rfl) (by rfl) (by trivial) (by rfl) (by rfl) (by rfl) (by rfl) ?_
  refine X.assign (by rfl) (by rfl) ?_
  refine X.nil ?_
  cases h
  refine R.fin1 Tryz.results261 (by rfl) (by rfl) ?_
  rfl
theorem s_l03Span_pc (b0 : List TStep) (b1 : Int) (b2 : Int) (r : Bool) (h : s_l03Span b0 b1 b2 = some r) : PC Tryz.prog 315 [.slice (b0.map eTStep), int b1, int b2] (bool r) := by
  unfold s_l03Span at h
  refine PC.start Tryz.func315 Tryz.ntmps315 rfl ok315 rfl ?_
  refine Run.seq ?_
  refine Run.reg ?_
  refine X.assign (by rfl) (by rfl) ?_
  refine X.nil ?_
  refine Run.seq ?_
  obtain ⟨v1, hv1, h⟩ := bindE h
  obtain ⟨e2, he2, h2⟩ := bindE h
  refine R.regG [(6, bool e2)] [] ?_ ?_
  · clear h; have h := he2; clear he2 h2
    refine X.move (by rfl) (by rfl) ?_
    refine X.callP (s_StepsOk_pc _ _ hv1) (by rfl) (by rfl) (by rfl) (by trivial) (by rfl) (by rfl) (by rfl) (by rfl) ?_
    refine X.move (by rfl) (by rfl) ?_
    refine X.ifG (by rfl) (by rfl) (by rfl) (fun hb3 => ?_) (fun hb3 => ?_)
    · replace h := condT hb3 h
      refine X.move (by rfl) (by rfl) ?_
      refine X.gyes (by rfl) (by rfl) (by first | rfl | assumption) ?_
      obtain ⟨v4, hv4, h⟩ := bindE h
      refine X.callP (s_l01In_pc _ _ _ _ hv4) (by rfl) (by rfl) (by rfl) (by trivial) (by rfl) (by rfl) (by rfl) (by rfl) ?_
      refine X.pickT (by rfl) (by first | rfl | assumption) (by rfl) (by rfl) ?_
      refine X.move (by rfl) (by rfl) ?_
      refine X.ifG (by rfl) (by rfl) (by rfl) (fun hb5 => ?_) (fun hb5 => ?_)
      · replace h := condT hb5 h
        refine X.move (by rfl) (by rfl) ?_
        refine X.gyes (by rfl) (by rfl) (by first | rfl | assumption) ?_
        obtain ⟨v6, hv6, h⟩ := bindE h
        refine X.callP (s_l01In_pc _ _ _ _ hv6) (by rfl) (by rfl) (by rfl) (by trivial) (by rfl) (by rfl) (by rfl) (by rfl) ?_
        refine X.pickT (by rfl) (by first | rfl | assumption) (by rfl) (by rfl) ?_
        refine X.assign (by rfl) (by rfl) ?_
        cases h
        exact X.endG (by trivial) (by trivial) (by rfl) (by rfl)
      · replace h := condF hb5 h
        refine X.gno (by rfl) (by rfl) (by first | rfl | assumption) (by rfl) ?_
        refine X.pickF (by rfl) (by first | rfl | assumption) (by rfl) (by rfl) ?_
        refine X.assign (by rfl) (by rfl) ?_
        cases h
        exact X.endG (by trivial) (by trivial) (by rfl) (by rfl)
    · replace h := condF hb3 h
      refine X.gno (by rfl) (by rfl) (by first | rfl | assumption) (by rfl) ?_
      refine X.pickF (by rfl) (by first | rfl | assumption) (by rfl) (by rfl) ?_
      refine X.move (by rfl) (by rfl) ?_
      refine X.gno (by rfl) (by rfl) (by first | rfl | assumption) (by rfl) ?_
      refine X.gno (by rfl) (by rfl) (by first | rfl | assumption) (by rfl) ?_
      refine X.pickF (by rfl) (by first | rfl | assumption) (by rfl) (by rfl) ?_
      refine X.assign (by rfl) (by rfl) ?_
      cases h
      exact X.endG (by trivial) (by trivial) (by rfl) (by rfl)
  replace h := h2; clear h2
  cases h
  refine R.fin1 Tryz.results315 (by rfl) (by rfl) ?_
  rfl
theorem s_l03At_pc (b0 : List TStep) (b1 : Int) (r : Int) (h : s_l03At b0 b1 = some r) : PC Tryz.prog 157 [.slice (b0.map eTStep), int b1] (int r) := by
  unfold s_l03At at h
  refine PC.start Tryz.func157 Tryz.ntmps157 rfl ok157 rfl ?_
  refine Run.seq ?_
  refine Run.reg ?_
  refine X.assign (by rfl) (by rfl) ?_
  refine X.nil ?_
  refine Run.seq ?_
  refine Run.reg ?_
  refine X.assign (by rfl) (by rfl) ?_
  refine X.nil ?_
  refine Run.seq ?_
  refine Run.seq ?_
  refine Run.reg ?_
  refine X.move (by rfl) (by rfl) ?_
  refine X.len_s elt62 (by rfl) (by exact List.length_map ..) (by rfl) ?_
  refine X.move (by rfl) (by rfl) ?_
  refine X.nil ?_
  obtain ⟨o1, ho1, h⟩ := bindE h
  refine R.join2 (β := Int) [] [] (fun p14 S => (5, int p14) :: S) (fun p14 M => M) (fun p14 => p14 = o1) ?_ ?_
  · intro JJ4 hmeet3
    have hup2 := h; clear h; have h := ho1; clear ho1
    refine Run.block ?_
    refine R.bndS (t := 0) (by rfl) (fun hbd7 => ?_)
    replace hbd7 : b0.length ≤ 9223372036854775807 := by first | (rw [List.length_map] at hbd7; exact hbd7) | simp
    refine R.loop2 (β := Int × Int) [(1, int b1), (8, .slice (b0.map eTStep)), (9, int (b0.length : Int))] [] (fun bb S => (5, int bb.2) :: (10, int bb.1) :: S) (fun bb M => M) (fun n bb => 0 ≤ bb.1 ∧ bb.1 + n = (b0.length : Int) ∧ s_l03At_L1 b1 (b0.drop bb.1.toNat) bb.1 bb.2 = some o1) b0.length (0, 0) (by repeat (first | trivial | refine ⟨by first | rfl | simp [setL], ?_⟩)) (by repeat (first | trivial | refine ⟨by first | rfl | simp [setL], ?_⟩)) (by rfl) (by rfl) ⟨Int.le_refl _, by simp, h⟩ ?_
    clear h
    rintro JJ7 n7 ⟨z8, a9⟩ hag7 ⟨hza7, hzb7, h⟩
    dsimp only at hza7 hzb7 h
    refine Run.seq ?_
    refine Run.reg ?_
    refine X.bin (by rfl) (by rfl) (by rfl) (by rfl) (by intro h; cases h) (by rfl) ?_
    refine X.nil ?_
    refine Run.seq ?_
    refine R.cond (by rfl) (fun hc12 => ?_) (fun hc12 => ?_)
    · obtain ⟨x10, xs11, hd7, hx7, hds7, hlt7⟩ := drop_atI hza7 hc12
      rw [hd7] at h
      rw [s_l03At_L1] at h
      refine Run.skip ?_
      refine Run.seq ?_
      refine Run.block ?_
      refine Run.seq ?_
      refine Run.reg ?_
      refine X.index_s elt62 (by rfl) (by rfl) (idxL_spec hx7).1 (idxL_map eTStep hx7) (by rfl) (by rfl) (by rfl) ?_
      refine X.load_c shp183 (by rfl) (by rfl) (by rfl) (by rfl) ?_
      refine X.alloc zer183 (by rfl) (by rfl) (by rfl) ?_
      refine X.store_l shp183 (by rfl) (by rfl) (by rfl) (by rfl) (by repeat (first | trivial | refine ⟨by first | rfl | simp [setL], ?_⟩)) (by rfl) (by rfl) (by rfl) ?_
      refine X.nil ?_
      refine Run.seq ?_
      refine Run.reg ?_
      refine X.fieldAddr_l fld183_0 (by rfl) (by rfl) ?_
      refine X.load_l shp3 (by rfl) (by rfl) (by rfl) (by rfl) (by rfl) (by rfl) ?_
      refine X.move (by rfl) (by rfl) ?_
      refine X.bin (by rfl) (by rfl) (by rfl) (by rfl) (by intro h; cases h) (by rfl) ?_
      refine X.nil ?_
      refine R.cond (by rfl) (fun hc13 => ?_) (fun hc13 => ?_)
      · replace h := condT hc13 h
        refine Run.reg ?_
        refine X.fieldAddr_l fld183_1 (by rfl) (by rfl) ?_
        refine X.load_l shp3 (by rfl) (by rfl) (by rfl) (by rfl) (by rfl) (by rfl) ?_
        refine X.assign (by rfl) (by rfl) ?_
        refine X.nil ?_
        refine Run.blk ?_
        refine Run.reg ?_
        refine X.add (by rfl) (by rfl) (by omega) (by rfl) ?_
        refine X.move (by rfl) (by rfl) ?_
        refine X.nil ?_
        exact hag7 (n7 - 1) (z8 + 1, x10.Capacity) _ _ (by omega) ⟨by first | omega | (dsimp only; omega), by first | omega | (dsimp only; omega), by first | (rw [hds7]; exact h) | (dsimp only; rw [hds7]; exact h)⟩ (by trivial) (by trivial) (by rfl) (by rfl)
      · replace h := condF hc13 h
        refine Run.skip ?_
        refine Run.blk ?_
        refine Run.reg ?_
        refine X.add (by rfl) (by rfl) (by omega) (by rfl) ?_
        refine X.move (by rfl) (by rfl) ?_
        refine X.nil ?_
        exact hag7 (n7 - 1) (z8 + 1, a9) _ _ (by omega) ⟨by first | omega | (dsimp only; omega), by first | omega | (dsimp only; omega), by first | (rw [hds7]; exact h) | (dsimp only; rw [hds7]; exact h)⟩ (by trivial) (by trivial) (by rfl) (by rfl)
    · rw [drop_endI hza7 hc12] at h
      rw [s_l03At_L1] at h
      refine Run.exit (by rfl) ?_
      exact hmeet3 a9 _ _ (Option.some.inj h) (by trivial) (by trivial) (by rfl) (by rfl)
  rintro p14 rfl
  refine Run.seq ?_
  refine Run.reg ?_
  refine X.move (by rfl) (by rfl) ?_
  refine X.assign (by rfl) (by rfl) ?_
  refine X.nil ?_
  cases h
  refine R.fin1 Tryz.results157 (by rfl) (by rfl) ?_
  rfl
theorem s_TotalCapacity_pc (b0 : List TStep) (b1 : Int) (b2 : Int) (r : Int) (h : s_TotalCapacity b0 b1 b2 = some r) : PC Tryz.prog 262 [.slice (b0.map eTStep), int b1, int b2] (int r) := by
  unfold s_TotalCapacity at h
  refine PC.start Tryz.func262 Tryz.ntmps262 rfl ok262 rfl ?_
  refine Run.seq ?_
  refine Run.reg ?_
  refine X.assign (by rfl) (by rfl) ?_
  refine X.nil ?_
  refine Run.seq ?_
  refine Run.seq ?_
  refine Run.reg ?_
  refine X.move (by rfl) (by rfl) ?_
  refine X.move (by rfl) (by rfl) ?_
  refine X.move (by rfl) (by rfl) ?_
  obtain ⟨v1, hv1, h⟩ := bindE h
  refine X.callP (s_l03Span_pc _ _ _ _ hv1) (by rfl) (by rfl) (by rfl) (by trivial) (by rfl) (by rfl) (by rfl) (by rfl) ?_
  refine X.un (by rfl) (by rfl) (by rfl) ?_
  refine X.nil ?_
  refine R.cond (by rfl) (fun hc2 => ?_) (fun hc2 => ?_)
  · replace h := condT hc2 h
    refine Run.seq ?_
    refine Run.reg ?_
    refine X.assign (by rfl) (by rfl) ?_
    refine X.nil ?_
    cases h
    refine R.fin1 Tryz.results262 (by rfl) (by rfl) ?_
    rfl
  · replace h := condF hc2 h
    refine Run.skip ?_
    refine Run.seq ?_
    refine Run.reg ?_
    refine X.assign (by rfl) (by rfl) ?_
    refine X.nil ?_
    refine Run.seq ?_
    refine Run.seq ?_
    refine Run.reg ?_
    refine X.move (by rfl) (by rfl) ?_
    refine X.assign (by rfl) (by rfl) ?_
    refine X.nil ?_
    obtain ⟨o3, ho3, h⟩ := bindE h
    refine R.join2 (β := Int) [] [] (fun p14 S => (7, int p14) :: S) (fun p14 M => M) (fun p14 => p14 = o3) ?_ ?_
    · intro JJ6 hmeet5
      have hup4 := h; clear h; have h := ho3; clear ho3
      refine Run.block ?_
      refine R.loop2 (β := Int × Int) [(0, .slice (b0.map eTStep)), (2, int b2)] [] (fun bb S => (7, int bb.1) :: (8, int bb.2) :: S) (fun bb M => M) (fun n bb => s_TotalCapacity_L1 b0 b2 n bb.1 bb.2 = some o3) F0 (0, b1) (by repeat (first | trivial | refine ⟨by first | rfl | simp [setL], ?_⟩)) (by repeat (first | trivial | refine ⟨by first | rfl | simp [setL], ?_⟩)) (by rfl) (by rfl) h ?_
      clear h
      rintro JJ6 n6 ⟨a8, a9⟩ hag6 h
      dsimp only at h
      obtain _ | n6 := n6
      · exact absurd h (by simp [s_TotalCapacity_L1])
      rw [s_TotalCapacity_L1] at h
      refine Run.seq ?_
      refine Run.seq ?_
      refine Run.reg ?_
      refine X.move (by rfl) (by rfl) ?_
      refine X.move (by rfl) (by rfl) ?_
      refine X.bin (by rfl) (by rfl) (by rfl) (by rfl) (by intro h; cases h) (by rfl) ?_
      refine X.nil ?_
      refine R.cond (by rfl) (fun hc12 => ?_) (fun hc12 => ?_)
      · replace h := condT hc12 h
        refine Run.skip ?_
        refine Run.seq ?_
        refine Run.block ?_
        refine Run.reg ?_
        refine X.move (by rfl) (by rfl) ?_
        refine X.move (by rfl) (by rfl) ?_
        refine X.move (by rfl) (by rfl) ?_
        obtain ⟨v13, hv13, h⟩ := bindE h
        refine X.callP (s_l03At_pc _ _ _ hv13) (by rfl) (by rfl) (by rfl) (by trivial) (by rfl) (by rfl) (by rfl) (by rfl) ?_
        refine X.addW (by rfl) (by rfl) (by rfl) ?_
        refine X.assign (by rfl) (by rfl) ?_
        refine X.nil ?_
        refine Run.blk ?_
        refine Run.reg ?_
        refine X.move (by rfl) (by rfl) ?_
        refine X.addW (by rfl) (by rfl) (by rfl) ?_
        refine X.assign (by rfl) (by rfl) ?_
        refine X.nil ?_
        exact hag6 n6 ((W (a8 + v13)), (W (a9 + 1))) _ _ (by omega) h (by trivial) (by trivial) (by rfl) (by rfl)
      · replace h := condF hc12 h
        refine Run.exit (by rfl) ?_
        exact hmeet5 a8 _ _ (Option.some.inj h) (by trivial) (by trivial) (by rfl) (by rfl)
    rintro p14 rfl
    refine Run.seq ?_
    refine Run.reg ?_
    refine X.move (by rfl) (by rfl) ?_
    refine X.assign (by rfl) (by rfl) ?_
    refine X.nil ?_
    cases h
    refine R.fin1 Tryz.results262 (by rfl) (by rfl) ?_
    rfl
theorem s_l15Over_pc (b0 : TProject) (b1 : TDomain) (b2 : Int) (b3 : Int) (b4 : Int) (r : Bool) (h : s_l15Over b0 b1 b2 b3 b4 = some r) : PC Tryz.prog 156 [eTProject b0, eTDomain b1, int b2, int b3, int b4] (bool r) := by
  unfold s_l15Over at h
  refine PC.start Tryz.func156 Tryz.ntmps156 rfl ok156 rfl ?_
  refine Run.seq ?_
  refine Run.reg ?_
  refine X.box (by rfl) (by rfl) (by repeat (first | trivial | refine ⟨by first | rfl | simp [setL], ?_⟩)) (by rfl) (by rfl) (by rfl) (by rfl) ?_
  refine X.box (by rfl) (by rfl) (by repeat (first | trivial | refine ⟨by first | rfl | simp [setL], ?_⟩)) (by rfl) (by rfl) (by rfl) (by rfl) ?_
  refine X.assign (by rfl) (by rfl) ?_
  refine X.nil ?_
  refine Run.seq ?_
  refine Run.reg ?_
  refine X.assign (by rfl) (by rfl) ?_
  refine X.nil ?_
  refine Run.seq ?_
  refine Run.seq ?_
  refine Run.reg ?_
  refine X.fieldAddr_l fld28_1 (by rfl) (by rfl) ?_
  refine X.load_l shp23 (by rfl) (by rfl) (by rfl) (by rfl) (by rfl) (by rfl) ?_
  refine X.len_s elt23 (by rfl) (by exact List.length_map ..) (by rfl) ?_
  refine X.move (by rfl) (by rfl) ?_
  refine X.nil ?_
  obtain ⟨o1, ho1, h⟩ := bindE h
  refine R.join2 (β := Int) [(2, int b2), (3, int b3), (4, int b4), (5, .lptr 320 0)] [(320, .blk true [int b0.Deadline, .slice (b0.Activities.map eTActivity), .slice (b0.Links.map eTLink), .slice (b0.Resources.map eTResource), .slice (b0.Stocks.map int)])] (fun p14 S => (11, int p14) :: S) (fun p14 M => M) (fun p14 => p14 = o1) ?_ ?_
  · intro JJ4 hmeet3
    have hup2 := h; clear h; have h := ho1; clear ho1
    refine Run.block ?_
    refine R.bndS (t := 14) (by rfl) (fun hbd7 => ?_)
    replace hbd7 : b0.Activities.length ≤ 9223372036854775807 := by first | (rw [List.length_map] at hbd7; exact hbd7) | simp
    refine R.loop2 (β := Int × Int) [(2, int b2), (3, int b3), (4, int b4), (5, .lptr 320 0), (6, .lptr 384 0), (15, int (b0.Activities.length : Int))] [(320, .blk true [int b0.Deadline, .slice (b0.Activities.map eTActivity), .slice (b0.Links.map eTLink), .slice (b0.Resources.map eTResource), .slice (b0.Stocks.map int)]), (384, .blk true [.slice (b1.MinStart.map int), .slice (b1.MaxStart.map int), .slice (b1.Modes.map l_int)])] (fun bb S => (11, int bb.2) :: (16, int bb.1) :: S) (fun bb M => M) (fun n bb => 0 ≤ bb.1 ∧ bb.1 + n = (b0.Activities.length : Int) ∧ s_l15Over_L1 b0 b1 b2 b3 b4 (b0.Activities.drop bb.1.toNat) bb.1 bb.2 = some o1) b0.Activities.length (0, 0) (by repeat (first | trivial | refine ⟨by first | rfl | simp [setL], ?_⟩)) (by repeat (first | trivial | refine ⟨by first | rfl | simp [setL], ?_⟩)) (by rfl) (by rfl) ⟨Int.le_refl _, by simp, h⟩ ?_
    clear h
    rintro JJ7 n7 ⟨z8, a9⟩ hag7 ⟨hza7, hzb7, h⟩
    dsimp only at hza7 hzb7 h
    refine Run.seq ?_
    refine Run.reg ?_
    refine X.bin (by rfl) (by rfl) (by rfl) (by rfl) (by intro h; cases h) (by rfl) ?_
    refine X.nil ?_
    refine Run.seq ?_
    refine R.cond (by rfl) (fun hc12 => ?_) (fun hc12 => ?_)
    · obtain ⟨x10, xs11, hd7, hx7, hds7, hlt7⟩ := drop_atI hza7 hc12
      rw [hd7] at h
      rw [s_l15Over_L1] at h
      refine Run.skip ?_
      refine Run.seq ?_
      refine Run.block ?_
      refine Run.seq ?_
      refine Run.reg ?_
      refine X.move (by rfl) (by rfl) ?_
      refine X.assign (by rfl) (by rfl) ?_
      refine X.nil ?_
      refine Run.reg ?_
      refine X.move (by rfl) (by rfl) ?_
      refine X.load_l shp28 (by rfl) (by rfl) (by rfl) (by rfl) (by rfl) (by rfl) ?_
      refine X.load_l shp32 (by rfl) (by rfl) (by rfl) (by rfl) (by rfl) (by rfl) ?_
      refine X.move (by rfl) (by rfl) ?_
      refine X.move (by rfl) (by rfl) ?_
      refine X.move (by rfl) (by rfl) ?_
      refine X.move (by rfl) (by rfl) ?_
      obtain ⟨v13, hv13, h⟩ := bindE h
      refine X.callP (s_l15Work_pc _ _ _ _ _ _ _ hv13) (by rfl) (by rfl) (by rfl) (by trivial) (by rfl) (by rfl) (by rfl) (by rfl) ?_
      refine X.addW (by rfl) (by rfl) (by rfl) ?_
      refine X.assign (by rfl) (by rfl) ?_
      refine X.nil ?_
      refine Run.blk ?_
      refine Run.reg ?_
      refine X.add (by rfl) (by rfl) (by omega) (by rfl) ?_
      refine X.move (by rfl) (by rfl) ?_
      refine X.nil ?_
      exact hag7 (n7 - 1) (z8 + 1, (W (a9 + v13))) _ _ (by omega) ⟨by first | omega | (dsimp only; omega), by first | omega | (dsimp only; omega), by first | (rw [hds7]; exact h) | (dsimp only; rw [hds7]; exact h)⟩ (by trivial) (by trivial) (by rfl) (by rfl)
    · rw [drop_endI hza7 hc12] at h
      rw [s_l15Over_L1] at h
      refine Run.exit (by rfl) ?_
      exact hmeet3 a9 _ _ (Option.some.inj h) (by trivial) (by trivial) (by rfl) (by rfl)
  rintro p14 rfl
  refine Run.seq ?_
  refine Run.reg ?_
  refine X.move (by rfl) (by rfl) ?_
  refine X.fieldAddr_l fld28_3 (by rfl) (by rfl) ?_
  refine X.load_l shp25 (by rfl) (by rfl) (by rfl) (by rfl) (by rfl) (by rfl) ?_
  refine X.move (by rfl) (by rfl) ?_
  obtain ⟨v15, hv15, h⟩ := bindE h
  refine X.index_s elt25 (by rfl) (by rfl) (idxL_spec hv15).1 (idxL_map eTResource hv15) (by rfl) (by rfl) (by rfl) ?_
  refine X.fieldAddr_c fld64_0 (by rfl) (by rfl) ?_
  refine X.load_c shp62 (by rfl) (by rfl) (by rfl) (by rfl) ?_
  refine X.move (by rfl) (by rfl) ?_
  refine X.move (by rfl) (by rfl) ?_
  obtain ⟨v16, hv16, h⟩ := bindE h
  refine X.callP (s_TotalCapacity_pc _ _ _ _ hv16) (by rfl) (by rfl) (by rfl) (by trivial) (by rfl) (by rfl) (by rfl) (by rfl) ?_
  refine X.bin (by rfl) (by rfl) (by rfl) (by rfl) (by intro h; cases h) (by rfl) ?_
  refine X.assign (by rfl) (by rfl) ?_
  refine X.nil ?_
  cases h
  refine R.fin1 Tryz.results156 (by rfl) (by rfl) ?_
  rfl
theorem i_Overlap_pc (b0 : Int) (b1 : Int) (b2 : Int) (b3 : Int) (r : Int) (h : i_Overlap b0 b1 b2 b3 = some r) : PC Tryz.prog 42 [int b0, int b1, int b2, int b3] (int r) := by
  unfold i_Overlap at h
  refine PC.start Tryz.func42 Tryz.ntmps42 rfl ok42 rfl ?_
  refine Run.seq ?_
  refine Run.reg ?_
  refine X.assign (by rfl) (by rfl) ?_
  refine X.nil ?_
  refine Run.seq ?_
  refine Run.seq ?_
  refine Run.reg ?_
  refine X.move (by rfl) (by rfl) ?_
  refine X.move (by rfl) (by rfl) ?_
  refine X.move (by rfl) (by rfl) ?_
  refine X.move (by rfl) (by rfl) ?_
  refine X.buildSlice false elt26 zer3 (by rfl) (by rfl) (by rfl) (by rfl) (by rfl) (by rfl) (by repeat (first | trivial | refine ⟨by first | rfl | simp [setL], ?_⟩)) (allSz_spec (by rfl)) (by rfl) (by rfl) (by rfl) ?_
  refine X.len_o elt26 (by rfl) (by rfl) (by first | rfl | simp [setL] | omega) (by first | exact List.length_map .. | rfl) (by rfl) (by rfl) ?_
  refine X.move (by rfl) (by rfl) ?_
  refine X.nil ?_
  obtain ⟨o1, ho1, h⟩ := bindE h
  refine R.join2 (β := Unit) [(0, int b0), (1, int b1), (2, int b2), (3, int b3)] [] (fun p14 S => S) (fun p14 M => M) (fun p14 => (Sum.inl p14) = o1) ?_ ?_
  · intro JJ4 hmeet3
    have hup2 := h; clear h; have h := ho1; clear ho1
    refine Run.block ?_
    refine R.bndO (n := 960) (by rfl) (fun hbd7 => ?_)
    replace hbd7 : ([b0, b1, b2, b3] : List Int).length ≤ 9223372036854775807 := by first | (rw [List.length_map] at hbd7; exact hbd7) | simp
    refine R.loop2 (β := Int) [(0, int b0), (1, int b1), (2, int b2), (3, int b3), (16, int (([b0, b1, b2, b3] : List Int).length : Int))] [(960, .obj false 3 1 (([b0, b1, b2, b3] : List Int).map int))] (fun bb S => (15, .own 960 (([b0, b1, b2, b3] : List Int).map int).length) :: (17, int bb) :: S) (fun bb M => M) (fun n bb => 0 ≤ bb ∧ bb + n = (([b0, b1, b2, b3] : List Int).length : Int) ∧ i_Overlap_L1 (([b0, b1, b2, b3] : List Int).drop bb.toNat) bb = some o1) ([b0, b1, b2, b3] : List Int).length (0 : Int) (by repeat (first | trivial | refine ⟨by first | rfl | simp [setL], ?_⟩)) (by repeat (first | trivial | refine ⟨by first | rfl | simp [setL], ?_⟩)) (by rfl) (by rfl) ⟨Int.le_refl _, by simp, h⟩ ?_
    clear h
    rintro JJ7 n7 z8 hag7 ⟨hza7, hzb7, h⟩
    refine Run.seq ?_
    refine Run.reg ?_
    refine X.bin (by rfl) (by rfl) (by rfl) (by rfl) (by intro h; cases h) (by rfl) ?_
    refine X.nil ?_
    refine Run.seq ?_
    refine R.cond (by rfl) (fun hc11 => ?_) (fun hc11 => ?_)
    · obtain ⟨x9, xs10, hd7, hx7, hds7, hlt7⟩ := drop_atI hza7 hc11
      rw [hd7] at h
      rw [i_Overlap_L1] at h
      refine Run.skip ?_
      refine Run.seq ?_
      refine Run.block ?_
      refine Run.seq ?_
      refine Run.reg ?_
      refine X.index_o elt26 (by rfl) (by rfl) (by first | rfl | simp [setL] | omega) (by rfl) (idxL_spec hx7).1 (idxL_map int hx7) (by rfl) (by rfl) (by rfl) ?_
      refine X.load_c shp3 (by rfl) (by rfl) (by rfl) (by rfl) ?_
      refine X.assign (by rfl) (by rfl) ?_
      refine X.nil ?_
      refine Run.seq ?_
      refine Run.reg ?_
      refine X.move (by rfl) (by rfl) ?_
      obtain ⟨v12, hv12, h⟩ := bindE h
      refine X.callP (i_within_pc _ _ _ _ hv12) (by rfl) (by rfl) (by rfl) (by trivial) (by rfl) (by rfl) (by rfl) (by rfl) ?_
      refine X.un (by rfl) (by rfl) (by rfl) ?_
      refine X.nil ?_
      refine R.cond (by rfl) (fun hc13 => ?_) (fun hc13 => ?_)
      · replace h := condT hc13 h
        refine Run.seq ?_
        refine Run.reg ?_
        refine X.assign (by rfl) (by rfl) ?_
        refine X.nil ?_
        cases h
        have h := hup2
        replace h := elimR h
        cases h
        refine R.fin1 Tryz.results42 (by rfl) (by rfl) ?_
        rfl
      · replace h := condF hc13 h
        refine Run.skip ?_
        refine Run.blk ?_
        refine Run.reg ?_
        refine X.add (by rfl) (by rfl) (by omega) (by rfl) ?_
        refine X.move (by rfl) (by rfl) ?_
        refine X.nil ?_
        exact hag7 (n7 - 1) (z8 + 1) _ _ (by omega) ⟨by first | omega | (dsimp only; omega), by first | omega | (dsimp only; omega), by first | (rw [hds7]; exact h) | (dsimp only; rw [hds7]; exact h)⟩ (by repeat (first | trivial | refine ⟨by first | rfl | simp [setL], ?_⟩)) (by repeat (first | trivial | refine ⟨by first | rfl | simp [setL], ?_⟩)) (by rfl) (by rfl)
    · rw [drop_endI hza7 hc11] at h
      rw [i_Overlap_L1] at h
      refine Run.exit (by rfl) ?_
      exact hmeet3 () _ _ (Option.some.inj h) (by repeat (first | trivial | refine ⟨by first | rfl | simp [setL], ?_⟩)) (by repeat (first | trivial | refine ⟨by first | rfl | simp [setL], ?_⟩)) (by rfl) (by rfl)
  rintro p14 rfl
  replace h := elimL h
  refine Run.seq ?_
  refine Run.seq ?_
  refine Run.reg ?_
  refine X.move (by rfl) (by rfl) ?_
  refine X.bin (by rfl) (by rfl) (by rfl) (by rfl) (by intro h; cases h) (by rfl) ?_
  refine X.nil ?_
  refine R.cond (by rfl) (fun hc16 => ?_) (fun hc16 => ?_)
  · replace h := condT hc16 h
    refine Run.seq ?_
    refine Run.reg ?_
    refine X.assign (by rfl) (by rfl) ?_
    refine X.nil ?_
    cases h
    refine R.fin1 Tryz.results42 (by rfl) (by rfl) ?_
    rfl
  · replace h := condF hc16 h
    refine Run.skip ?_
    refine Run.seq ?_
    refine Run.reg ?_
    refine X.move (by rfl) (by rfl) ?_
    refine X.move (by rfl) (by rfl) ?_
    refine X.addW (by rfl) (by rfl) (by rfl) ?_
    refine X.move (by rfl) (by rfl) ?_
    refine X.min2 (by rfl) (by rfl) (by rfl) ?_
    refine X.move (by rfl) (by rfl) ?_
    refine X.move (by rfl) (by rfl) ?_
    refine X.max2 (by rfl) (by rfl) (by rfl) ?_
    refine X.subW (by rfl) (by rfl) (by rfl) ?_
    refine X.max2 (by rfl) (by rfl) (by rfl) ?_
    refine X.assign (by rfl) (by rfl) ?_
    refine X.nil ?_
    cases h
    refine R.fin1 Tryz.results42 (by rfl) (by rfl) ?_
    rfl
theorem i_Project_minWork_pc (b0 : TProject) (b1 : TDomain) (b2 : Int) (b3 : Int) (b4 : Int) (b5 : Int) (r : Int) (h : i_Project_minWork b0 b1 b2 b3 b4 b5 = some r) : PC Tryz.prog 129 [eTProject b0, eTDomain b1, int b2, int b3, int b4, int b5] (int r) := by
  unfold i_Project_minWork at h
  refine PC.start Tryz.func129 Tryz.ntmps129 rfl ok129 rfl ?_
  refine Run.seq ?_
  refine Run.reg ?_
  refine X.box (by rfl) (by rfl) (by repeat (first | trivial | refine ⟨by first | rfl | simp [setL], ?_⟩)) (by rfl) (by rfl) (by rfl) (by rfl) ?_
  refine X.box (by rfl) (by rfl) (by repeat (first | trivial | refine ⟨by first | rfl | simp [setL], ?_⟩)) (by rfl) (by rfl) (by rfl) (by rfl) ?_
  refine X.assign (by rfl) (by rfl) ?_
  refine X.nil ?_
  refine Run.seq ?_
  refine Run.reg ?_
  refine X.assign (by rfl) (by rfl) ?_
  refine X.assign (by rfl) (by rfl) ?_
  refine X.nil ?_
  refine Run.seq ?_
  refine Run.seq ?_
  refine Run.reg ?_
  refine X.fieldAddr_l fld32_2 (by rfl) (by rfl) ?_
  refine X.load_l shp30 (by rfl) (by rfl) (by rfl) (by rfl) (by rfl) (by rfl) ?_
  refine X.move (by rfl) (by rfl) ?_
  obtain ⟨v1, hv1, h⟩ := bindE h
  refine X.index_s elt30 (by rfl) (by rfl) (idxL_spec hv1).1 (idxL_map l_int hv1) (by rfl) (by rfl) (by rfl) ?_
  refine X.load_c shp26 (by rfl) (by rfl) (by rfl) (by rfl) ?_
  refine X.len_s elt26 (by rfl) (by exact List.length_map ..) (by rfl) ?_
  refine X.move (by rfl) (by rfl) ?_
  refine X.nil ?_
  obtain ⟨o2, ho2, h⟩ := bindE h
  refine R.join2 (β := Int) [] [] (fun p25 S => (13, int p25) :: S) (fun p25 M => M) (fun p25 => p25 = o2) ?_ ?_
  · intro JJ5 hmeet4
    have hup3 := h; clear h; have h := ho2; clear ho2
    refine Run.block ?_
    refine R.bndS (t := 23) (by rfl) (fun hbd8 => ?_)
    replace hbd8 : v1.length ≤ 9223372036854775807 := by first | (rw [List.length_map] at hbd8; exact hbd8) | simp
    refine R.loop2 (β := Int × Int × Bool) [(2, int b2), (3, int b3), (4, int b4), (5, int b5), (6, .lptr 384 0), (7, .lptr 448 0), (23, .slice (v1.map int)), (24, int (v1.length : Int))] [(384, .blk true [int b0.Deadline, .slice (b0.Activities.map eTActivity), .slice (b0.Links.map eTLink), .slice (b0.Resources.map eTResource), .slice (b0.Stocks.map int)]), (448, .blk true [.slice (b1.MinStart.map int), .slice (b1.MaxStart.map int), .slice (b1.Modes.map l_int)])] (fun bb S => (13, int bb.2.1) :: (14, bool bb.2.2) :: (25, int bb.1) :: S) (fun bb M => M) (fun n bb => 0 ≤ bb.1 ∧ bb.1 + n = (v1.length : Int) ∧ i_Project_minWork_L1 b0 b1 b2 b3 b4 b5 (v1.drop bb.1.toNat) bb.1 bb.2.1 bb.2.2 = some o2) v1.length (0, 0, false) (by repeat (first | trivial | refine ⟨by first | rfl | simp [setL], ?_⟩)) (by repeat (first | trivial | refine ⟨by first | rfl | simp [setL], ?_⟩)) (by rfl) (by rfl) ⟨Int.le_refl _, by simp, h⟩ ?_
    clear h
    rintro JJ8 n8 ⟨z9, a10, a11⟩ hag8 ⟨hza8, hzb8, h⟩
    dsimp only at hza8 hzb8 h
    refine Run.seq ?_
    refine Run.reg ?_
    refine X.bin (by rfl) (by rfl) (by rfl) (by rfl) (by intro h; cases h) (by rfl) ?_
    refine X.nil ?_
    refine Run.seq ?_
    refine R.cond (by rfl) (fun hc14 => ?_) (fun hc14 => ?_)
    · obtain ⟨x12, xs13, hd8, hx8, hds8, hlt8⟩ := drop_atI hza8 hc14
      rw [hd8] at h
      rw [i_Project_minWork_L1] at h
      refine Run.skip ?_
      refine Run.seq ?_
      refine Run.block ?_
      refine Run.seq ?_
      refine Run.reg ?_
      refine X.index_s elt26 (by rfl) (by rfl) (idxL_spec hx8).1 (idxL_map int hx8) (by rfl) (by rfl) (by rfl) ?_
      refine X.load_c shp3 (by rfl) (by rfl) (by rfl) (by rfl) ?_
      refine X.assign (by rfl) (by rfl) ?_
      refine X.nil ?_
      refine Run.seq ?_
      refine Run.reg ?_
      refine X.fieldAddr_l fld28_1 (by rfl) (by rfl) ?_
      refine X.load_l shp23 (by rfl) (by rfl) (by rfl) (by rfl) (by rfl) (by rfl) ?_
      refine X.move (by rfl) (by rfl) ?_
      obtain ⟨v15, hv15, h⟩ := bindE h
      refine X.index_s elt23 (by rfl) (by rfl) (idxL_spec hv15).1 (idxL_map eTActivity hv15) (by rfl) (by rfl) (by rfl) ?_
      refine X.fieldAddr_c fld50_2 (by rfl) (by rfl) ?_
      refine X.load_c shp48 (by rfl) (by rfl) (by rfl) (by rfl) ?_
      refine X.move (by rfl) (by rfl) ?_
      obtain ⟨v16, hv16, h⟩ := bindE h
      refine X.index_s elt48 (by rfl) (by rfl) (idxL_spec hv16).1 (idxL_map eTMode hv16) (by rfl) (by rfl) (by rfl) ?_
      refine X.load_c shp47 (by rfl) (by rfl) (by rfl) (by rfl) ?_
      refine X.alloc zer47 (by rfl) (by rfl) (by rfl) ?_
      refine X.store_l shp47 (by rfl) (by rfl) (by rfl) (by rfl) (by repeat (first | trivial | refine ⟨by first | rfl | simp [setL], ?_⟩)) (by rfl) (by rfl) (by rfl) ?_
      refine X.nil ?_
      refine Run.seq ?_
      refine Run.draw (footOf [(1, ([448], [])), (6, ([1088], [])), (11, ([448], [])), (16, ([1088], [])), (22, ([1088], []))]) mixed (by kernel_rfl) (by kernel_rfl) ?_
      refine X.fieldAddr_l fld32_0 (by rfl) (by rfl) ?_
      refine X.load_l shp26 (by rfl) (by rfl) (by rfl) (by rfl) (by rfl) (by rfl) ?_
      refine X.move (by rfl) (by rfl) ?_
      obtain ⟨v17, hv17, h⟩ := bindE h
      refine X.index_s elt26 (by rfl) (by rfl) (idxL_spec hv17).1 (idxL_map int hv17) (by rfl) (by rfl) (by rfl) ?_
      refine X.load_c shp3 (by rfl) (by rfl) (by rfl) (by rfl) ?_
      refine X.fieldAddr_l fld47_0 (by rfl) (by rfl) ?_
      refine X.load_l shp3 (by rfl) (by rfl) (by rfl) (by rfl) (by rfl) (by rfl) ?_
      refine X.move (by rfl) (by rfl) ?_
      refine X.move (by rfl) (by rfl) ?_
      obtain ⟨v18, hv18, h⟩ := bindE h
      refine X.callP (i_Overlap_pc _ _ _ _ _ hv18) (by rfl) (by rfl) (by rfl) (by trivial) (by rfl) (by rfl) (by rfl) (by rfl) ?_
      refine X.fieldAddr_l fld32_1 (by rfl) (by rfl) ?_
      refine X.load_l shp26 (by rfl) (by rfl) (by rfl) (by rfl) (by rfl) (by rfl) ?_
      refine X.move (by rfl) (by rfl) ?_
      obtain ⟨v19, hv19, h⟩ := bindE h
      refine X.index_s elt26 (by rfl) (by rfl) (idxL_spec hv19).1 (idxL_map int hv19) (by rfl) (by rfl) (by rfl) ?_
      refine X.load_c shp3 (by rfl) (by rfl) (by rfl) (by rfl) ?_
      refine X.fieldAddr_l fld47_0 (by rfl) (by rfl) ?_
      refine X.load_l shp3 (by rfl) (by rfl) (by rfl) (by rfl) (by rfl) (by rfl) ?_
      refine X.move (by rfl) (by rfl) ?_
      refine X.move (by rfl) (by rfl) ?_
      obtain ⟨v20, hv20, h⟩ := bindE h
      refine X.callP (i_Overlap_pc _ _ _ _ _ hv20) (by rfl) (by rfl) (by rfl) (by trivial) (by rfl) (by rfl) (by rfl) (by rfl) ?_
      refine X.min2 (by rfl) (by rfl) (by rfl) ?_
      refine X.fieldAddr_l fld47_1 (by rfl) (by rfl) ?_
      refine X.load_l shp26 (by rfl) (by rfl) (by rfl) (by rfl) (by rfl) (by rfl) ?_
      refine X.move (by rfl) (by rfl) ?_
      obtain ⟨v21, hv21, h⟩ := bindE h
      refine X.index_s elt26 (by rfl) (by rfl) (idxL_spec hv21).1 (idxL_map int hv21) (by rfl) (by rfl) (by rfl) ?_
      refine X.load_c shp3 (by rfl) (by rfl) (by rfl) (by rfl) ?_
      refine X.mulW (by rfl) (by rfl) (by rfl) ?_
      refine X.assign (by rfl) (by rfl) ?_
      refine X.nil ?_
      refine Run.seq ?_
      obtain ⟨e22, he22, h2⟩ := bindE h
      refine R.regG [(2, int b2), (3, int b3), (4, int b4), (5, int b5), (6, .lptr 384 0), (7, .lptr 448 0), (13, int a10), (14, bool a11), (18, int (W ((min v18 v20) * v21))), (23, .slice (v1.map int)), (24, int (v1.length : Int)), (25, int z9), (71, bool e22)] [(384, .blk true [int b0.Deadline, .slice (b0.Activities.map eTActivity), .slice (b0.Links.map eTLink), .slice (b0.Resources.map eTResource), .slice (b0.Stocks.map int)]), (448, .blk true [.slice (b1.MinStart.map int), .slice (b1.MaxStart.map int), .slice (b1.Modes.map l_int)])] ?_ ?_
      · clear h; have h := he22; clear he22 h2
        refine X.move (by rfl) (by rfl) ?_
        refine X.un (by rfl) (by rfl) (by rfl) ?_
        refine X.move (by rfl) (by rfl) ?_
        refine X.ifG (by rfl) (by rfl) (by rfl) (fun hb23 => ?_) (fun hb23 => ?_)
        · replace h := condF hb23 h
          refine X.move (by rfl) (by rfl) ?_
          refine X.gyes (by rfl) (by rfl) (by first | rfl | assumption) ?_
          refine X.move (by rfl) (by rfl) ?_
          refine X.gyes (by rfl) (by rfl) (by first | rfl | assumption) ?_
          refine X.bin (by rfl) (by rfl) (by rfl) (by rfl) (by intro h; cases h) (by rfl) ?_
          refine X.pickF (by rfl) (by first | rfl | assumption) (by rfl) (by rfl) ?_
          cases h
          exact X.endG (by trivial) (by trivial) (by rfl) (by rfl)
        · replace h := condT hb23 h
          refine X.gno (by rfl) (by rfl) (by first | rfl | assumption) (by rfl) ?_
          refine X.gno (by rfl) (by rfl) (by first | rfl | assumption) (by rfl) ?_
          refine X.pickT (by rfl) (by first | rfl | assumption) (by rfl) (by rfl) ?_
          cases h
          exact X.endG (by trivial) (by trivial) (by rfl) (by rfl)
      replace h := h2; clear h2
      refine R.cond (by rfl) (fun hc24 => ?_) (fun hc24 => ?_)
      · replace h := condT hc24 h
        refine Run.reg ?_
        refine X.move (by rfl) (by rfl) ?_
        refine X.assign (by rfl) (by rfl) ?_
        refine X.assign (by rfl) (by rfl) ?_
        refine X.nil ?_
        refine Run.blk ?_
        refine Run.reg ?_
        refine X.add (by rfl) (by rfl) (by omega) (by rfl) ?_
        refine X.move (by rfl) (by rfl) ?_
        refine X.nil ?_
        exact hag8 (n8 - 1) (z9 + 1, (W ((min v18 v20) * v21)), true) _ _ (by omega) ⟨by first | omega | (dsimp only; omega), by first | omega | (dsimp only; omega), by first | (rw [hds8]; exact h) | (dsimp only; rw [hds8]; exact h)⟩ (by trivial) (by trivial) (by rfl) (by rfl)
      · replace h := condF hc24 h
        refine Run.skip ?_
        refine Run.blk ?_
        refine Run.reg ?_
        refine X.add (by rfl) (by rfl) (by omega) (by rfl) ?_
        refine X.move (by rfl) (by rfl) ?_
        refine X.nil ?_
        exact hag8 (n8 - 1) (z9 + 1, a10, a11) _ _ (by omega) ⟨by first | omega | (dsimp only; omega), by first | omega | (dsimp only; omega), by first | (rw [hds8]; exact h) | (dsimp only; rw [hds8]; exact h)⟩ (by trivial) (by trivial) (by rfl) (by rfl)
    · rw [drop_endI hza8 hc14] at h
      rw [i_Project_minWork_L1] at h
      refine Run.exit (by rfl) ?_
      exact hmeet4 a10 _ _ (Option.some.inj h) (by trivial) (by trivial) (by rfl) (by rfl)
  rintro p25 rfl
  refine Run.seq ?_
  refine Run.reg ?_
  refine X.move (by rfl) (by rfl) ?_
  refine X.assign (by rfl) (by rfl) ?_
  refine X.nil ?_
  cases h
  refine R.fin1 Tryz.results129 (by rfl) (by rfl) ?_
  rfl
theorem i_Project_totalWork_pc (b0 : TProject) (b1 : TDomain) (b2 : Int) (b3 : Int) (b4 : Int) (r : Int) (h : i_Project_totalWork b0 b1 b2 b3 b4 = some r) : PC Tryz.prog 132 [eTProject b0, eTDomain b1, int b2, int b3, int b4] (int r) := by
  unfold i_Project_totalWork at h
  refine PC.start Tryz.func132 Tryz.ntmps132 rfl ok132 rfl ?_
  refine Run.seq ?_
  refine Run.reg ?_
  refine X.box (by rfl) (by rfl) (by repeat (first | trivial | refine ⟨by first | rfl | simp [setL], ?_⟩)) (by rfl) (by rfl) (by rfl) (by rfl) ?_
  refine X.box (by rfl) (by rfl) (by repeat (first | trivial | refine ⟨by first | rfl | simp [setL], ?_⟩)) (by rfl) (by rfl) (by rfl) (by rfl) ?_
  refine X.assign (by rfl) (by rfl) ?_
  refine X.nil ?_
  refine Run.seq ?_
  refine Run.reg ?_
  refine X.assign (by rfl) (by rfl) ?_
  refine X.nil ?_
  refine Run.seq ?_
  refine Run.seq ?_
  refine Run.reg ?_
  refine X.fieldAddr_l fld28_1 (by rfl) (by rfl) ?_
  refine X.load_l shp23 (by rfl) (by rfl) (by rfl) (by rfl) (by rfl) (by rfl) ?_
  refine X.len_s elt23 (by rfl) (by exact List.length_map ..) (by rfl) ?_
  refine X.move (by rfl) (by rfl) ?_
  refine X.nil ?_
  obtain ⟨o1, ho1, h⟩ := bindE h
  refine R.join2 (β := Int) [] [] (fun p14 S => (11, int p14) :: S) (fun p14 M => M) (fun p14 => p14 = o1) ?_ ?_
  · intro JJ4 hmeet3
    have hup2 := h; clear h; have h := ho1; clear ho1
    refine Run.block ?_
    refine R.bndS (t := 14) (by rfl) (fun hbd7 => ?_)
    replace hbd7 : b0.Activities.length ≤ 9223372036854775807 := by first | (rw [List.length_map] at hbd7; exact hbd7) | simp
    refine R.loop2 (β := Int × Int) [(2, int b2), (3, int b3), (4, int b4), (5, .lptr 320 0), (6, .lptr 384 0), (15, int (b0.Activities.length : Int))] [(320, .blk true [int b0.Deadline, .slice (b0.Activities.map eTActivity), .slice (b0.Links.map eTLink), .slice (b0.Resources.map eTResource), .slice (b0.Stocks.map int)]), (384, .blk true [.slice (b1.MinStart.map int), .slice (b1.MaxStart.map int), .slice (b1.Modes.map l_int)])] (fun bb S => (11, int bb.2) :: (16, int bb.1) :: S) (fun bb M => M) (fun n bb => 0 ≤ bb.1 ∧ bb.1 + n = (b0.Activities.length : Int) ∧ i_Project_totalWork_L1 b0 b1 b2 b3 b4 (b0.Activities.drop bb.1.toNat) bb.1 bb.2 = some o1) b0.Activities.length (0, 0) (by repeat (first | trivial | refine ⟨by first | rfl | simp [setL], ?_⟩)) (by repeat (first | trivial | refine ⟨by first | rfl | simp [setL], ?_⟩)) (by rfl) (by rfl) ⟨Int.le_refl _, by simp, h⟩ ?_
    clear h
    rintro JJ7 n7 ⟨z8, a9⟩ hag7 ⟨hza7, hzb7, h⟩
    dsimp only at hza7 hzb7 h
    refine Run.seq ?_
    refine Run.reg ?_
    refine X.bin (by rfl) (by rfl) (by rfl) (by rfl) (by intro h; cases h) (by rfl) ?_
    refine X.nil ?_
    refine Run.seq ?_
    refine R.cond (by rfl) (fun hc12 => ?_) (fun hc12 => ?_)
    · obtain ⟨x10, xs11, hd7, hx7, hds7, hlt7⟩ := drop_atI hza7 hc12
      rw [hd7] at h
      rw [i_Project_totalWork_L1] at h
      refine Run.skip ?_
      refine Run.seq ?_
      refine Run.block ?_
      refine Run.seq ?_
      refine Run.reg ?_
      refine X.move (by rfl) (by rfl) ?_
      refine X.assign (by rfl) (by rfl) ?_
      refine X.nil ?_
      refine Run.reg ?_
      refine X.move (by rfl) (by rfl) ?_
      refine X.load_l shp28 (by rfl) (by rfl) (by rfl) (by rfl) (by rfl) (by rfl) ?_
      refine X.load_l shp32 (by rfl) (by rfl) (by rfl) (by rfl) (by rfl) (by rfl) ?_
      refine X.move (by rfl) (by rfl) ?_
      refine X.move (by rfl) (by rfl) ?_
      refine X.move (by rfl) (by rfl) ?_
      refine X.move (by rfl) (by rfl) ?_
      obtain ⟨v13, hv13, h⟩ := bindE h
      refine X.callP (i_Project_minWork_pc _ _ _ _ _ _ _ hv13) (by rfl) (by rfl) (by rfl) (by trivial) (by rfl) (by rfl) (by rfl) (by rfl) ?_
      refine X.addW (by rfl) (by rfl) (by rfl) ?_
      refine X.assign (by rfl) (by rfl) ?_
      refine X.nil ?_
      refine Run.blk ?_
      refine Run.reg ?_
      refine X.add (by rfl) (by rfl) (by omega) (by rfl) ?_
      refine X.move (by rfl) (by rfl) ?_
      refine X.nil ?_
      exact hag7 (n7 - 1) (z8 + 1, (W (a9 + v13))) _ _ (by omega) ⟨by first | omega | (dsimp only; omega), by first | omega | (dsimp only; omega), by first | (rw [hds7]; exact h) | (dsimp only; rw [hds7]; exact h)⟩ (by trivial) (by trivial) (by rfl) (by rfl)
    · rw [drop_endI hza7 hc12] at h
      rw [i_Project_totalWork_L1] at h
      refine Run.exit (by rfl) ?_
      exact hmeet3 a9 _ _ (Option.some.inj h) (by trivial) (by trivial) (by rfl) (by rfl)
  rintro p14 rfl
  refine Run.seq ?_
  refine Run.reg ?_
  refine X.move (by rfl) (by rfl) ?_
  refine X.assign (by rfl) (by rfl) ?_
  refine X.nil ?_
  cases h
  refine R.fin1 Tryz.results132 (by rfl) (by rfl) ?_
  rfl
theorem i_capacityAt_pc (b0 : List TStep) (b1 : Int) (r : Int) (h : i_capacityAt b0 b1 = some r) : PC Tryz.prog 126 [.slice (b0.map eTStep), int b1] (int r) := by
  unfold i_capacityAt at h
  refine PC.start Tryz.func126 Tryz.ntmps126 rfl ok126 rfl ?_
  refine Run.seq ?_
  refine Run.reg ?_
  refine X.assign (by rfl) (by rfl) ?_
  refine X.nil ?_
  refine Run.seq ?_
  refine Run.reg ?_
  refine X.assign (by rfl) (by rfl) ?_
  refine X.nil ?_
  refine Run.seq ?_
  refine Run.seq ?_
  refine Run.reg ?_
  refine X.move (by rfl) (by rfl) ?_
  refine X.len_s elt62 (by rfl) (by exact List.length_map ..) (by rfl) ?_
  refine X.move (by rfl) (by rfl) ?_
  refine X.nil ?_
  obtain ⟨o1, ho1, h⟩ := bindE h
  refine R.join2 (β := Int) [] [] (fun p14 S => (5, int p14) :: S) (fun p14 M => M) (fun p14 => p14 = o1) ?_ ?_
  · intro JJ4 hmeet3
    have hup2 := h; clear h; have h := ho1; clear ho1
    refine Run.block ?_
    refine R.bndS (t := 0) (by rfl) (fun hbd7 => ?_)
    replace hbd7 : b0.length ≤ 9223372036854775807 := by first | (rw [List.length_map] at hbd7; exact hbd7) | simp
    refine R.loop2 (β := Int × Int) [(1, int b1), (8, .slice (b0.map eTStep)), (9, int (b0.length : Int))] [] (fun bb S => (5, int bb.2) :: (10, int bb.1) :: S) (fun bb M => M) (fun n bb => 0 ≤ bb.1 ∧ bb.1 + n = (b0.length : Int) ∧ i_capacityAt_L1 b1 (b0.drop bb.1.toNat) bb.1 bb.2 = some o1) b0.length (0, 0) (by repeat (first | trivial | refine ⟨by first | rfl | simp [setL], ?_⟩)) (by repeat (first | trivial | refine ⟨by first | rfl | simp [setL], ?_⟩)) (by rfl) (by rfl) ⟨Int.le_refl _, by simp, h⟩ ?_
    clear h
    rintro JJ7 n7 ⟨z8, a9⟩ hag7 ⟨hza7, hzb7, h⟩
    dsimp only at hza7 hzb7 h
    refine Run.seq ?_
    refine Run.reg ?_
    refine X.bin (by rfl) (by rfl) (by rfl) (by rfl) (by intro h; cases h) (by rfl) ?_
    refine X.nil ?_
    refine Run.seq ?_
    refine R.cond (by rfl) (fun hc12 => ?_) (fun hc12 => ?_)
    · obtain ⟨x10, xs11, hd7, hx7, hds7, hlt7⟩ := drop_atI hza7 hc12
      rw [hd7] at h
      rw [i_capacityAt_L1] at h
      refine Run.skip ?_
      refine Run.seq ?_
      refine Run.block ?_
      refine Run.seq ?_
      refine Run.reg ?_
      refine X.index_s elt62 (by rfl) (by rfl) (idxL_spec hx7).1 (idxL_map eTStep hx7) (by rfl) (by rfl) (by rfl) ?_
      refine X.load_c shp183 (by rfl) (by rfl) (by rfl) (by rfl) ?_
      refine X.alloc zer183 (by rfl) (by rfl) (by rfl) ?_
      refine X.store_l shp183 (by rfl) (by rfl) (by rfl) (by rfl) (by repeat (first | trivial | refine ⟨by first | rfl | simp [setL], ?_⟩)) (by rfl) (by rfl) (by rfl) ?_
      refine X.nil ?_
      refine Run.seq ?_
      refine Run.reg ?_
      refine X.fieldAddr_l fld183_0 (by rfl) (by rfl) ?_
      refine X.load_l shp3 (by rfl) (by rfl) (by rfl) (by rfl) (by rfl) (by rfl) ?_
      refine X.move (by rfl) (by rfl) ?_
      refine X.bin (by rfl) (by rfl) (by rfl) (by rfl) (by intro h; cases h) (by rfl) ?_
      refine X.nil ?_
      refine R.cond (by rfl) (fun hc13 => ?_) (fun hc13 => ?_)
      · replace h := condT hc13 h
        refine Run.reg ?_
        refine X.fieldAddr_l fld183_1 (by rfl) (by rfl) ?_
        refine X.load_l shp3 (by rfl) (by rfl) (by rfl) (by rfl) (by rfl) (by rfl) ?_
        refine X.assign (by rfl) (by rfl) ?_
        refine X.nil ?_
        refine Run.blk ?_
        refine Run.reg ?_
        refine X.add (by rfl) (by rfl) (by omega) (by rfl) ?_
        refine X.move (by rfl) (by rfl) ?_
        refine X.nil ?_
        exact hag7 (n7 - 1) (z8 + 1, x10.Capacity) _ _ (by omega) ⟨by first | omega | (dsimp only; omega), by first | omega | (dsimp only; omega), by first | (rw [hds7]; exact h) | (dsimp only; rw [hds7]; exact h)⟩ (by trivial) (by trivial) (by rfl) (by rfl)
      · replace h := condF hc13 h
        refine Run.skip ?_
        refine Run.blk ?_
        refine Run.reg ?_
        refine X.add (by rfl) (by rfl) (by omega) (by rfl) ?_
        refine X.move (by rfl) (by rfl) ?_
        refine X.nil ?_
        exact hag7 (n7 - 1) (z8 + 1, a9) _ _ (by omega) ⟨by first | omega | (dsimp only; omega), by first | omega | (dsimp only; omega), by first | (rw [hds7]; exact h) | (dsimp only; rw [hds7]; exact h)⟩ (by trivial) (by trivial) (by rfl) (by rfl)
    · rw [drop_endI hza7 hc12] at h
      rw [i_capacityAt_L1] at h
      refine Run.exit (by rfl) ?_
      exact hmeet3 a9 _ _ (Option.some.inj h) (by trivial) (by trivial) (by rfl) (by rfl)
  rintro p14 rfl
  refine Run.seq ?_
  refine Run.reg ?_
  refine X.move (by rfl) (by rfl) ?_
  refine X.assign (by rfl) (by rfl) ?_
  refine X.nil ?_
  cases h
  refine R.fin1 Tryz.results126 (by rfl) (by rfl) ?_
  rfl
theorem i_TotalCapacity_pc (b0 : List TStep) (b1 : Int) (b2 : Int) (r : Int) (h : i_TotalCapacity b0 b1 b2 = some r) : PC Tryz.prog 47 [.slice (b0.map eTStep), int b1, int b2] (int r) := by
  unfold i_TotalCapacity at h
  refine PC.start Tryz.func47 Tryz.ntmps47 rfl ok47 rfl ?_
  refine Run.seq ?_
  refine Run.reg ?_
  refine X.assign (by rfl) (by rfl) ?_
  refine X.nil ?_
  refine Run.seq ?_
  refine Run.seq ?_
  obtain ⟨v1, hv1, h⟩ := bindE h
  obtain ⟨e2, he2, h2⟩ := bindE h
  refine R.regG [(0, .slice (b0.map eTStep)), (1, int b1), (2, int b2), (21, bool e2)] [] ?_ ?_
  · clear h; have h := he2; clear he2 h2
    refine X.move (by rfl) (by rfl) ?_
    refine X.callP (i_StepsOk_pc _ _ hv1) (by rfl) (by rfl) (by rfl) (by trivial) (by rfl) (by rfl) (by rfl) (by rfl) ?_
    refine X.un (by rfl) (by rfl) (by rfl) ?_
    refine X.move (by rfl) (by rfl) ?_
    refine X.ifG (by rfl) (by rfl) (by rfl) (fun hb3 => ?_) (fun hb3 => ?_)
    · replace h := condF hb3 h
      refine X.move (by rfl) (by rfl) ?_
      refine X.gyes (by rfl) (by rfl) (by first | rfl | assumption) ?_
      obtain ⟨v4, hv4, h⟩ := bindE h
      refine X.callP (i_isTime_pc _ _ hv4) (by rfl) (by rfl) (by rfl) (by trivial) (by rfl) (by rfl) (by rfl) (by rfl) ?_
      refine X.gyes (by rfl) (by rfl) (by first | rfl | assumption) ?_
      refine X.un (by rfl) (by rfl) (by rfl) ?_
      refine X.pickF (by rfl) (by first | rfl | assumption) (by rfl) (by rfl) ?_
      refine X.move (by rfl) (by rfl) ?_
      refine X.ifG (by rfl) (by rfl) (by rfl) (fun hb5 => ?_) (fun hb5 => ?_)
      · replace h := condF hb5 h
        refine X.move (by rfl) (by rfl) ?_
        refine X.gyes (by rfl) (by rfl) (by first | rfl | assumption) ?_
        obtain ⟨v6, hv6, h⟩ := bindE h
        refine X.callP (i_isTime_pc _ _ hv6) (by rfl) (by rfl) (by rfl) (by trivial) (by rfl) (by rfl) (by rfl) (by rfl) ?_
        refine X.gyes (by rfl) (by rfl) (by first | rfl | assumption) ?_
        refine X.un (by rfl) (by rfl) (by rfl) ?_
        refine X.pickF (by rfl) (by first | rfl | assumption) (by rfl) (by rfl) ?_
        cases h
        exact X.endG (by trivial) (by trivial) (by rfl) (by rfl)
      · replace h := condT hb5 h
        refine X.gno (by rfl) (by rfl) (by first | rfl | assumption) (by rfl) ?_
        refine X.gno (by rfl) (by rfl) (by first | rfl | assumption) (by rfl) ?_
        refine X.pickT (by rfl) (by first | rfl | assumption) (by rfl) (by rfl) ?_
        cases h
        exact X.endG (by trivial) (by trivial) (by rfl) (by rfl)
    · replace h := condT hb3 h
      refine X.gno (by rfl) (by rfl) (by first | rfl | assumption) (by rfl) ?_
      refine X.gno (by rfl) (by rfl) (by first | rfl | assumption) (by rfl) ?_
      refine X.pickT (by rfl) (by first | rfl | assumption) (by rfl) (by rfl) ?_
      refine X.move (by rfl) (by rfl) ?_
      refine X.gno (by rfl) (by rfl) (by first | rfl | assumption) (by rfl) ?_
      refine X.gno (by rfl) (by rfl) (by first | rfl | assumption) (by rfl) ?_
      refine X.gno (by rfl) (by rfl) (by first | rfl | assumption) (by rfl) ?_
      refine X.pickT (by rfl) (by first | rfl | assumption) (by rfl) (by rfl) ?_
      cases h
      exact X.endG (by trivial) (by trivial) (by rfl) (by rfl)
  replace h := h2; clear h2
  refine R.cond (by rfl) (fun hc7 => ?_) (fun hc7 => ?_)
  · replace h := condT hc7 h
    refine Run.seq ?_
    refine Run.reg ?_
    refine X.assign (by rfl) (by rfl) ?_
    refine X.nil ?_
    cases h
    refine R.fin1 Tryz.results47 (by rfl) (by rfl) ?_
    rfl
  · replace h := condF hc7 h
    refine Run.skip ?_
    refine Run.seq ?_
    refine Run.reg ?_
    refine X.assign (by rfl) (by rfl) ?_
    refine X.nil ?_
    refine Run.seq ?_
    refine Run.seq ?_
    refine Run.reg ?_
    refine X.move (by rfl) (by rfl) ?_
    refine X.assign (by rfl) (by rfl) ?_
    refine X.nil ?_
    obtain ⟨o8, ho8, h⟩ := bindE h
    refine R.join2 (β := Int) [] [] (fun p19 S => (7, int p19) :: S) (fun p19 M => M) (fun p19 => p19 = o8) ?_ ?_
    · intro JJ11 hmeet10
      have hup9 := h; clear h; have h := ho8; clear ho8
      refine Run.block ?_
      refine R.loop2 (β := Int × Int) [(0, .slice (b0.map eTStep)), (2, int b2)] [] (fun bb S => (7, int bb.1) :: (8, int bb.2) :: S) (fun bb M => M) (fun n bb => i_TotalCapacity_L1 b0 b2 n bb.1 bb.2 = some o8) F0 (0, b1) (by repeat (first | trivial | refine ⟨by first | rfl | simp [setL], ?_⟩)) (by repeat (first | trivial | refine ⟨by first | rfl | simp [setL], ?_⟩)) (by rfl) (by rfl) h ?_
      clear h
      rintro JJ11 n11 ⟨a13, a14⟩ hag11 h
      dsimp only at h
      obtain _ | n11 := n11
      · exact absurd h (by simp [i_TotalCapacity_L1])
      rw [i_TotalCapacity_L1] at h
      refine Run.seq ?_
      refine Run.seq ?_
      refine Run.reg ?_
      refine X.move (by rfl) (by rfl) ?_
      refine X.move (by rfl) (by rfl) ?_
      refine X.bin (by rfl) (by rfl) (by rfl) (by rfl) (by intro h; cases h) (by rfl) ?_
      refine X.nil ?_
      refine R.cond (by rfl) (fun hc17 => ?_) (fun hc17 => ?_)
      · replace h := condT hc17 h
        refine Run.skip ?_
        refine Run.seq ?_
        refine Run.block ?_
        refine Run.reg ?_
        refine X.move (by rfl) (by rfl) ?_
        refine X.move (by rfl) (by rfl) ?_
        refine X.move (by rfl) (by rfl) ?_
        obtain ⟨v18, hv18, h⟩ := bindE h
        refine X.callP (i_capacityAt_pc _ _ _ hv18) (by rfl) (by rfl) (by rfl) (by trivial) (by rfl) (by rfl) (by rfl) (by rfl) ?_
        refine X.addW (by rfl) (by rfl) (by rfl) ?_
        refine X.assign (by rfl) (by rfl) ?_
        refine X.nil ?_
        refine Run.blk ?_
        refine Run.reg ?_
        refine X.move (by rfl) (by rfl) ?_
        refine X.addW (by rfl) (by rfl) (by rfl) ?_
        refine X.assign (by rfl) (by rfl) ?_
        refine X.nil ?_
        exact hag11 n11 ((W (a13 + v18)), (W (a14 + 1))) _ _ (by omega) h (by trivial) (by trivial) (by rfl) (by rfl)
      · replace h := condF hc17 h
        refine Run.exit (by rfl) ?_
        exact hmeet10 a13 _ _ (Option.some.inj h) (by trivial) (by trivial) (by rfl) (by rfl)
    rintro p19 rfl
    refine Run.seq ?_
    refine Run.reg ?_
    refine X.move (by rfl) (by rfl) ?_
    refine X.assign (by rfl) (by rfl) ?_
    refine X.nil ?_
    cases h
    refine R.fin1 Tryz.results47 (by rfl) (by rfl) ?_
    rfl
theorem i_IsOverworked_pc (b0 : TProject) (b1 : TDomain) (b2 : Int) (b3 : Int) (b4 : Int) (r : Bool) (h : i_IsOverworked b0 b1 b2 b3 b4 = some r) : PC Tryz.prog 45 [eTProject b0, eTDomain b1, int b2, int b3, int b4] (bool r) := by
  unfold i_IsOverworked at h
  refine PC.start Tryz.func45 Tryz.ntmps45 rfl ok45 rfl ?_
  refine Run.seq ?_
  refine Run.reg ?_
  refine X.box (by rfl) (by rfl) (by repeat (first | trivial | refine ⟨by first | rfl | simp [setL], ?_⟩)) (by rfl) (by rfl) (by rfl) (by rfl) ?_
  refine X.box (by rfl) (by rfl) (by repeat (first | trivial | refine ⟨by first | rfl | simp [setL], ?_⟩)) (by rfl) (by rfl) (by rfl) (by rfl) ?_
  refine X.assign (by rfl) (by rfl) ?_
  refine X.nil ?_
  refine Run.seq ?_
  refine Run.seq ?_
  obtain ⟨v1, hv1, h⟩ := bindE h
  obtain ⟨e2, he2, h2⟩ := bindE h
  refine R.regG [(2, int b2), (3, int b3), (4, int b4), (5, .lptr 320 0), (6, .lptr 384 0), (35, bool e2)] [(320, .blk true [int b0.Deadline, .slice (b0.Activities.map eTActivity), .slice (b0.Links.map eTLink), .slice (b0.Resources.map eTResource), .slice (b0.Stocks.map int)]), (384, .blk true [.slice (b1.MinStart.map int), .slice (b1.MaxStart.map int), .slice (b1.Modes.map l_int)])] ?_ ?_
  · clear h; have h := he2; clear he2 h2
    refine X.load_l shp28 (by rfl) (by rfl) (by rfl) (by rfl) (by rfl) (by rfl) ?_
    refine X.load_l shp32 (by rfl) (by rfl) (by rfl) (by rfl) (by rfl) (by rfl) ?_
    refine X.callP (i_isUsable_pc _ _ _ hv1) (by rfl) (by rfl) (by rfl) (by trivial) (by rfl) (by rfl) (by rfl) (by rfl) ?_
    refine X.un (by rfl) (by rfl) (by rfl) ?_
    refine X.move (by rfl) (by rfl) ?_
    refine X.ifG (by rfl) (by rfl) (by rfl) (fun hb3 => ?_) (fun hb3 => ?_)
    · replace h := condF hb3 h
      refine X.load_l shp28 (by rfl) (by rfl) (by rfl) (by rfl) (by rfl) (by rfl) ?_
      refine X.gyes (by rfl) (by rfl) (by first | rfl | assumption) ?_
      refine X.move (by rfl) (by rfl) ?_
      refine X.gyes (by rfl) (by rfl) (by first | rfl | assumption) ?_
      obtain ⟨v4, hv4, h⟩ := bindE h
      refine X.callP (i_Project_hasResource_pc _ _ _ hv4) (by rfl) (by rfl) (by rfl) (by trivial) (by rfl) (by rfl) (by rfl) (by rfl) ?_
      refine X.gyes (by rfl) (by rfl) (by first | rfl | assumption) ?_
      refine X.un (by rfl) (by rfl) (by rfl) ?_
      refine X.pickF (by rfl) (by first | rfl | assumption) (by rfl) (by rfl) ?_
      refine X.move (by rfl) (by rfl) ?_
      refine X.ifG (by rfl) (by rfl) (by rfl) (fun hb5 => ?_) (fun hb5 => ?_)
      · replace h := condF hb5 h
        refine X.move (by rfl) (by rfl) ?_
        refine X.gyes (by rfl) (by rfl) (by first | rfl | assumption) ?_
        obtain ⟨v6, hv6, h⟩ := bindE h
        refine X.callP (i_isTime_pc _ _ hv6) (by rfl) (by rfl) (by rfl) (by trivial) (by rfl) (by rfl) (by rfl) (by rfl) ?_
        refine X.gyes (by rfl) (by rfl) (by first | rfl | assumption) ?_
        refine X.un (by rfl) (by rfl) (by rfl) ?_
        refine X.pickF (by rfl) (by first | rfl | assumption) (by rfl) (by rfl) ?_
        refine X.move (by rfl) (by rfl) ?_
        refine X.ifG (by rfl) (by rfl) (by rfl) (fun hb7 => ?_) (fun hb7 => ?_)
        · replace h := condF hb7 h
          refine X.move (by rfl) (by rfl) ?_
          refine X.gyes (by rfl) (by rfl) (by first | rfl | assumption) ?_
          obtain ⟨v8, hv8, h⟩ := bindE h
          refine X.callP (i_isTime_pc _ _ hv8) (by rfl) (by rfl) (by rfl) (by trivial) (by rfl) (by rfl) (by rfl) (by rfl) ?_
          refine X.gyes (by rfl) (by rfl) (by first | rfl | assumption) ?_
          refine X.un (by rfl) (by rfl) (by rfl) ?_
          refine X.pickF (by rfl) (by first | rfl | assumption) (by rfl) (by rfl) ?_
          refine X.move (by rfl) (by rfl) ?_
          refine X.ifG (by rfl) (by rfl) (by rfl) (fun hb9 => ?_) (fun hb9 => ?_)
          · replace h := condF hb9 h
            refine X.move (by rfl) (by rfl) ?_
            refine X.gyes (by rfl) (by rfl) (by first | rfl | assumption) ?_
            refine X.move (by rfl) (by rfl) ?_
            refine X.gyes (by rfl) (by rfl) (by first | rfl | assumption) ?_
            refine X.bin (by rfl) (by rfl) (by rfl) (by rfl) (by intro h; cases h) (by rfl) ?_
            refine X.pickF (by rfl) (by first | rfl | assumption) (by rfl) (by rfl) ?_
            cases h
            exact X.endG (by trivial) (by trivial) (by rfl) (by rfl)
          · replace h := condT hb9 h
            refine X.gno (by rfl) (by rfl) (by first | rfl | assumption) (by rfl) ?_
            refine X.gno (by rfl) (by rfl) (by first | rfl | assumption) (by rfl) ?_
            refine X.pickT (by rfl) (by first | rfl | assumption) (by rfl) (by rfl) ?_
            cases h
            exact X.endG (by trivial) (by trivial) (by rfl) (by rfl)
        · replace h := condT hb7 h
          refine X.gno (by rfl) (by rfl) (by first | rfl | assumption) (by rfl) ?_
          refine X.gno (by rfl) (by rfl) (by first | rfl | assumption) (by rfl) ?_
          refine X.pickT (by rfl) (by first | rfl | assumption) (by rfl) (by rfl) ?_
          refine X.move (by rfl) (by rfl) ?_
          refine X.gno (by rfl) (by rfl) (by first | rfl | assumption) (by rfl) ?_
          refine X.gno (by rfl) (by rfl) (by first | rfl | assumption) (by rfl) ?_
          refine X.gno (by rfl) (by rfl) (by first | rfl | assumption) (by rfl) ?_
          refine X.pickT (by rfl) (by first | rfl | assumption) (by rfl) (by rfl) ?_
          cases h
          exact X.endG (by trivial) (by trivial) (by rfl) (by rfl)
      · replace h := condT hb5 h
        refine X.gno (by rfl) (by rfl) (by first | rfl | assumption) (by rfl) ?_
        refine X.gno (by rfl) (by rfl) (by first | rfl | assumption) (by rfl) ?_
        refine X.pickT (by rfl) (by first | rfl | assumption) (by rfl) (by rfl) ?_
        refine X.move (by rfl) (by rfl) ?_
        refine X.gno (by rfl) (by rfl) (by first | rfl | assumption) (by rfl) ?_
        refine X.gno (by rfl) (by rfl) (by first | rfl | assumption) (by rfl) ?_
        refine X.gno (by rfl) (by rfl) (by first | rfl | assumption) (by rfl) ?_
        refine X.pickT (by rfl) (by first | rfl | assumption) (by rfl) (by rfl) ?_
        refine X.move (by rfl) (by rfl) ?_
        refine X.gno (by rfl) (by rfl) (by first | rfl | assumption) (by rfl) ?_
        refine X.gno (by rfl) (by rfl) (by first | rfl | assumption) (by rfl) ?_
        refine X.gno (by rfl) (by rfl) (by first | rfl | assumption) (by rfl) ?_
        refine X.pickT (by rfl) (by first | rfl | assumption) (by rfl) (by rfl) ?_
        cases h
        exact X.endG (by trivial) (by trivial) (by rfl) (by rfl)
    · replace h := condT hb3 h
      refine X.gno (by rfl) (by rfl) (by first | rfl | assumption) (by rfl) ?_
      refine X.gno (by rfl) (by rfl) (by first | rfl | assumption) (by rfl) ?_
      refine X.gno (by rfl) (by rfl) (by first | rfl | assumption) (by rfl) ?_
      refine X.pickT (by rfl) (by first | rfl | assumption) (by rfl) (by rfl) ?_
      refine X.move (by rfl) (by rfl) ?_
      refine X.gno (by rfl) (by rfl) (by first | rfl | assumption) (by rfl) ?_
      refine X.gno (by rfl) (by rfl) (by first | rfl | assumption) (by rfl) ?_
      refine X.gno (by rfl) (by rfl) (by first | rfl | assumption) (by rfl) ?_
      refine X.pickT (by rfl) (by first | rfl | assumption) (by rfl) (by rfl) ?_
      refine X.move (by rfl) (by rfl) ?_
      refine X.gno (by rfl) (by rfl) (by first | rfl | assumption) (by rfl) ?_
      refine X.gno (by rfl) (by rfl) (by first | rfl | assumption) (by rfl) ?_
      refine X.gno (by rfl) (by rfl) (by first | rfl | assumption) (by rfl) ?_
      refine X.pickT (by rfl) (by first | rfl | assumption) (by rfl) (by rfl) ?_
      refine X.move (by rfl) (by rfl) ?_
      refine X.gno (by rfl) (by rfl) (by first | rfl | assumption) (by rfl) ?_
      refine X.gno (by rfl) (by rfl) (by first | rfl | assumption) (by rfl) ?_
      refine X.gno (by rfl) (by rfl) (by first | rfl | assumption) (by rfl) ?_
      refine X.pickT (by rfl) (by first | rfl | assumption) (by rfl) (by rfl) ?_
      cases h
      exact X.endG (by trivial) (by trivial) (by rfl) (by rfl)
  replace h := h2; clear h2
  refine R.cond (by rfl) (fun hc10 => ?_) (fun hc10 => ?_)
  · replace h := condT hc10 h
    refine Run.seq ?_
    refine Run.reg ?_
    refine X.assign (by rfl) (by rfl) ?_
    refine X.nil ?_
    cases h
    refine R.fin1 Tryz.results45 (by rfl) (by rfl) ?_
    rfl
  · replace h := condF hc10 h
    refine Run.skip ?_
    refine Run.seq ?_
    refine Run.draw (footOf [(0, ([320], [])), (1, ([384], [])), (7, ([320], []))]) mixed (by kernel_rfl) (by kernel_rfl) ?_
    refine X.load_l shp28 (by rfl) (by rfl) (by rfl) (by rfl) (by rfl) (by rfl) ?_
    refine X.load_l shp32 (by rfl) (by rfl) (by rfl) (by rfl) (by rfl) (by rfl) ?_
    refine X.move (by rfl) (by rfl) ?_
    refine X.move (by rfl) (by rfl) ?_
    refine X.move (by rfl) (by rfl) ?_
    obtain ⟨v11, hv11, h⟩ := bindE h
    refine X.callP (i_Project_totalWork_pc _ _ _ _ _ _ hv11) (by rfl) (by rfl) (by rfl) (by trivial) (by rfl) (by rfl) (by rfl) (by rfl) ?_
    refine X.fieldAddr_l fld28_3 (by rfl) (by rfl) ?_
    refine X.load_l shp25 (by rfl) (by rfl) (by rfl) (by rfl) (by rfl) (by rfl) ?_
    refine X.move (by rfl) (by rfl) ?_
    obtain ⟨v12, hv12, h⟩ := bindE h
    refine X.index_s elt25 (by rfl) (by rfl) (idxL_spec hv12).1 (idxL_map eTResource hv12) (by rfl) (by rfl) (by rfl) ?_
    refine X.fieldAddr_c fld64_0 (by rfl) (by rfl) ?_
    refine X.load_c shp62 (by rfl) (by rfl) (by rfl) (by rfl) ?_
    refine X.move (by rfl) (by rfl) ?_
    refine X.move (by rfl) (by rfl) ?_
    obtain ⟨v13, hv13, h⟩ := bindE h
    refine X.callP (i_TotalCapacity_pc _ _ _ _ hv13) (by rfl) (by rfl) (by rfl) (by trivial) (by rfl) (by rfl) (by rfl) (by rfl) ?_
    refine X.bin (by rfl) (by rfl) (by rfl) (by rfl) (by intro h; cases h) (by rfl) ?_
    refine X.assign (by rfl) (by rfl) ?_
    refine X.nil ?_
    cases h
    refine R.fin1 Tryz.results45 (by rfl) (by rfl) ?_
    rfl
theorem i_PairConflict_pc (b0 : TProject) (b1 : TDomain) (b2 : Int) (b3 : Int) (b4 : Int) (r : Bool) (h : i_PairConflict b0 b1 b2 b3 b4 = some r) : PC Tryz.prog 65 [eTProject b0, eTDomain b1, int b2, int b3, int b4] (bool r) := by
  unfold i_PairConflict at h
  refine PC.start Tryz.func65 Tryz.ntmps65 rfl ok65 rfl ?_
  refine Run.seq ?_
  refine Run.reg ?_
  refine X.box (by rfl) (by rfl) (by repeat (first | trivial | refine ⟨by first | rfl | simp [setL], ?_⟩)) (by rfl) (by rfl) (by rfl) (by rfl) ?_
  refine X.box (by rfl) (by rfl) (by repeat (first | trivial | refine ⟨by first | rfl | simp [setL], ?_⟩)) (by rfl) (by rfl) (by rfl) (by rfl) ?_
  refine X.assign (by rfl) (by rfl) ?_
  refine X.nil ?_
  refine Run.seq ?_
  obtain ⟨v1, hv1, h⟩ := bindE h
  obtain ⟨e2, he2, h2⟩ := bindE h
  refine R.regG [(10, bool e2)] [] ?_ ?_
  · clear h; have h := he2; clear he2 h2
    refine X.load_l shp28 (by rfl) (by rfl) (by rfl) (by rfl) (by rfl) (by rfl) ?_
    refine X.load_l shp32 (by rfl) (by rfl) (by rfl) (by rfl) (by rfl) (by rfl) ?_
    refine X.move (by rfl) (by rfl) ?_
    refine X.move (by rfl) (by rfl) ?_
    refine X.move (by rfl) (by rfl) ?_
    refine X.callP (i_BothUse_pc _ _ _ _ _ _ hv1) (by rfl) (by rfl) (by rfl) (by trivial) (by rfl) (by rfl) (by rfl) (by rfl) ?_
    refine X.move (by rfl) (by rfl) ?_
    refine X.ifG (by rfl) (by rfl) (by rfl) (fun hb3 => ?_) (fun hb3 => ?_)
    · replace h := condT hb3 h
      refine X.load_l shp28 (by rfl) (by rfl) (by rfl) (by rfl) (by rfl) (by rfl) ?_
      refine X.gyes (by rfl) (by rfl) (by first | rfl | assumption) ?_
      refine X.load_l shp32 (by rfl) (by rfl) (by rfl) (by rfl) (by rfl) (by rfl) ?_
      refine X.gyes (by rfl) (by rfl) (by first | rfl | assumption) ?_
      refine X.move (by rfl) (by rfl) ?_
      refine X.gyes (by rfl) (by rfl) (by first | rfl | assumption) ?_
      refine X.move (by rfl) (by rfl) ?_
      refine X.gyes (by rfl) (by rfl) (by first | rfl | assumption) ?_
      refine X.move (by rfl) (by rfl) ?_
      refine X.gyes (by rfl) (by rfl) (by first | rfl | assumption) ?_
      obtain ⟨v4, hv4, h⟩ := bindE h
      refine X.callP (i_CanPrecede_pc _ _ _ _ _ _ hv4) (by rfl) (by rfl) (by rfl) (by trivial) (by rfl) (by rfl) (by rfl) (by rfl) ?_
      refine X.gyes (by rfl) (by rfl) (by first | rfl | assumption) ?_
      refine X.un (by rfl) (by rfl) (by rfl) ?_
      refine X.pickT (by rfl) (by first | rfl | assumption) (by rfl) (by rfl) ?_
      refine X.move (by rfl) (by rfl) ?_
      refine X.ifG (by rfl) (by rfl) (by rfl) (fun hb5 => ?_) (fun hb5 => ?_)
      · replace h := condT hb5 h
        refine X.load_l shp28 (by rfl) (by rfl) (by rfl) (by rfl) (by rfl) (by rfl) ?_
        refine X.gyes (by rfl) (by rfl) (by first | rfl | assumption) ?_
        refine X.load_l shp32 (by rfl) (by rfl) (by rfl) (by rfl) (by rfl) (by rfl) ?_
        refine X.gyes (by rfl) (by rfl) (by first | rfl | assumption) ?_
        refine X.move (by rfl) (by rfl) ?_
        refine X.gyes (by rfl) (by rfl) (by first | rfl | assumption) ?_
        refine X.move (by rfl) (by rfl) ?_
        refine X.gyes (by rfl) (by rfl) (by first | rfl | assumption) ?_
        refine X.move (by rfl) (by rfl) ?_
        refine X.gyes (by rfl) (by rfl) (by first | rfl | assumption) ?_
        obtain ⟨v6, hv6, h⟩ := bindE h
        refine X.callP (i_CanPrecede_pc _ _ _ _ _ _ hv6) (by rfl) (by rfl) (by rfl) (by trivial) (by rfl) (by rfl) (by rfl) (by rfl) ?_
        refine X.gyes (by rfl) (by rfl) (by first | rfl | assumption) ?_
        refine X.un (by rfl) (by rfl) (by rfl) ?_
        refine X.pickT (by rfl) (by first | rfl | assumption) (by rfl) (by rfl) ?_
        refine X.assign (by rfl) (by rfl) ?_
        cases h
        exact X.endG (by trivial) (by trivial) (by rfl) (by rfl)
      · replace h := condF hb5 h
        refine X.gno (by rfl) (by rfl) (by first | rfl | assumption) (by rfl) ?_
        refine X.gno (by rfl) (by rfl) (by first | rfl | assumption) (by rfl) ?_
        refine X.gno (by rfl) (by rfl) (by first | rfl | assumption) (by rfl) ?_
        refine X.gno (by rfl) (by rfl) (by first | rfl | assumption) (by rfl) ?_
        refine X.gno (by rfl) (by rfl) (by first | rfl | assumption) (by rfl) ?_
        refine X.gno (by rfl) (by rfl) (by first | rfl | assumption) (by rfl) ?_
        refine X.pickF (by rfl) (by first | rfl | assumption) (by rfl) (by rfl) ?_
        refine X.assign (by rfl) (by rfl) ?_
        cases h
        exact X.endG (by trivial) (by trivial) (by rfl) (by rfl)
    · replace h := condF hb3 h
      refine X.gno (by rfl) (by rfl) (by first | rfl | assumption) (by rfl) ?_
      refine X.gno (by rfl) (by rfl) (by first | rfl | assumption) (by rfl) ?_
      refine X.gno (by rfl) (by rfl) (by first | rfl | assumption) (by rfl) ?_
      refine X.gno (by rfl) (by rfl) (by first | rfl | assumption) (by rfl) ?_
      refine X.gno (by rfl) (by rfl) (by first | rfl | assumption) (by rfl) ?_
      refine X.gno (by rfl) (by rfl) (by first | rfl | assumption) (by rfl) ?_
      refine X.pickF (by rfl) (by first | rfl | assumption) (by rfl) (by rfl) ?_
      refine X.move (by rfl) (by rfl) ?_
      refine X.gno (by rfl) (by rfl) (by first | rfl | assumption) (by rfl) ?_
      refine X.gno (by rfl) (by rfl) (by first | rfl | assumption) (by rfl) ?_
      refine X.gno (by rfl) (by rfl) (by first | rfl | assumption) (by rfl) ?_
      refine X.gno (by rfl) (by rfl) (by first | rfl | assumption) (by rfl) ?_
      refine X.gno (by rfl) (by rfl) (by first | rfl | assumption) (by rfl) ?_
      refine X.gno (by rfl) (by rfl) (by first | rfl | assumption) (by rfl) ?_
      refine X.gno (by rfl) (by rfl) (by first | rfl | assumption) (by rfl) ?_
      refine X.pickF (by rfl) (by first | rfl | assumption) (by rfl) (by rfl) ?_
      refine X.assign (by rfl) (by rfl) ?_
      cases h
      exact X.endG (by trivial) (by trivial) (by rfl) (by rfl)
  replace h := h2; clear h2
  cases h
  refine R.fin1 Tryz.results65 (by rfl) (by rfl) ?_
  rfl
theorem w_toRule_pc (b0 : TRule) (r : TRule) (h : w_toRule b0 = some r) : PC Tryz.prog 83 [eTRule b0] (eTRule r) := by
  unfold w_toRule at h
  refine PC.start Tryz.func83 Tryz.ntmps83 rfl ok83 rfl ?_
  refine Run.seq ?_
  refine Run.reg ?_
  refine X.box (by rfl) (by rfl) (by repeat (first | trivial | refine ⟨by first | rfl | simp [setL], ?_⟩)) (by rfl) (by rfl) (by rfl) (by rfl) ?_
  refine X.alloc zer53 (by rfl) (by rfl) (by rfl) ?_
  refine X.nil ?_
  refine Run.seq ?_
  refine Run.reg ?_
  refine X.alloc zer53 (by rfl) (by rfl) (by rfl) ?_
  refine X.nil ?_
  refine Run.seq ?_
  refine Run.reg ?_
  refine X.fieldAddr_l fld87_0 (by rfl) (by rfl) ?_
  refine X.load_l shp3 (by rfl) (by rfl) (by rfl) (by rfl) (by rfl) (by rfl) ?_
  refine X.fieldAddr_l fld53_0 (by rfl) (by rfl) ?_
  refine X.store_l shp3 (by rfl) (by rfl) (by rfl) (by rfl) (by repeat (first | trivial | refine ⟨by first | rfl | simp [setL], ?_⟩)) (by rfl) (by rfl) (by rfl) ?_
  refine X.nil ?_
  refine Run.seq ?_
  refine Run.reg ?_
  refine X.fieldAddr_l fld87_1 (by rfl) (by rfl) ?_
  refine X.load_l shp3 (by rfl) (by rfl) (by rfl) (by rfl) (by rfl) (by rfl) ?_
  refine X.fieldAddr_l fld53_1 (by rfl) (by rfl) ?_
  refine X.store_l shp3 (by rfl) (by rfl) (by rfl) (by rfl) (by repeat (first | trivial | refine ⟨by first | rfl | simp [setL], ?_⟩)) (by rfl) (by rfl) (by rfl) ?_
  refine X.nil ?_
  refine Run.seq ?_
  refine Run.reg ?_
  refine X.fieldAddr_l fld87_2 (by rfl) (by rfl) ?_
  refine X.load_l shp3 (by rfl) (by rfl) (by rfl) (by rfl) (by rfl) (by rfl) ?_
  refine X.fieldAddr_l fld53_2 (by rfl) (by rfl) ?_
  refine X.store_l shp3 (by rfl) (by rfl) (by rfl) (by rfl) (by repeat (first | trivial | refine ⟨by first | rfl | simp [setL], ?_⟩)) (by rfl) (by rfl) (by rfl) ?_
  refine X.nil ?_
  refine Run.seq ?_
  refine Run.reg ?_
  refine X.fieldAddr_l fld87_3 (by rfl) (by rfl) ?_
  refine X.load_l shp3 (by rfl) (by rfl) (by rfl) (by rfl) (by rfl) (by rfl) ?_
  refine X.fieldAddr_l fld53_3 (by rfl) (by rfl) ?_
  refine X.store_l shp3 (by rfl) (by rfl) (by rfl) (by rfl) (by repeat (first | trivial | refine ⟨by first | rfl | simp [setL], ?_⟩)) (by rfl) (by rfl) (by rfl) ?_
  refine X.nil ?_
  refine Run.seq ?_
  refine Run.reg ?_
  refine X.load_l shp53 (by rfl) (by rfl) (by rfl) (by rfl) (by rfl) (by rfl) ?_
  refine X.store_l shp53 (by rfl) (by rfl) (by rfl) (by rfl) (by repeat (first | trivial | refine ⟨by first | rfl | simp [setL], ?_⟩)) (by rfl) (by rfl) (by rfl) ?_
  refine X.nil ?_
  cases h
  refine R.finC Tryz.results83 shp53 (by rfl) (by rfl) (by rfl) (by rfl) (by repeat (first | trivial | refine ⟨by first | rfl | simp [setL], ?_⟩)) ?_
  rfl
theorem s_RuleOk_pc (b0 : TProject) (b1 : TRule) (r : Bool) (h : s_RuleOk b0 b1 = some r) : PC Tryz.prog 184 [eTProject b0, eTRule b1] (bool r) := by
  unfold s_RuleOk at h
  refine PC.start Tryz.func184 Tryz.ntmps184 rfl ok184 rfl ?_
  refine Run.seq ?_
  refine Run.reg ?_
  refine X.box (by rfl) (by rfl) (by repeat (first | trivial | refine ⟨by first | rfl | simp [setL], ?_⟩)) (by rfl) (by rfl) (by rfl) (by rfl) ?_
  refine X.box (by rfl) (by rfl) (by repeat (first | trivial | refine ⟨by first | rfl | simp [setL], ?_⟩)) (by rfl) (by rfl) (by rfl) (by rfl) ?_
  refine X.assign (by rfl) (by rfl) ?_
  refine X.nil ?_
  refine Run.seq ?_
  refine Run.reg ?_
  refine X.fieldAddr_l fld28_1 (by rfl) (by rfl) ?_
  refine X.load_l shp23 (by rfl) (by rfl) (by rfl) (by rfl) (by rfl) (by rfl) ?_
  refine X.len_s elt23 (by rfl) (by exact List.length_map ..) (by rfl) ?_
  refine X.assign (by rfl) (by rfl) ?_
  refine X.nil ?_
  refine Run.seq ?_
  refine Run.seq ?_
  refine Run.reg ?_
  refine X.load_l shp28 (by rfl) (by rfl) (by rfl) (by rfl) (by rfl) (by rfl) ?_
  obtain ⟨v1, hv1, h⟩ := bindE h
  refine X.callP (s_ProjectOk_pc _ _ hv1) (by rfl) (by rfl) (by rfl) (by trivial) (by rfl) (by rfl) (by rfl) (by rfl) ?_
  refine X.un (by rfl) (by rfl) (by rfl) ?_
  refine X.nil ?_
  refine R.cond (by rfl) (fun hc2 => ?_) (fun hc2 => ?_)
  · replace h := condT hc2 h
    refine Run.seq ?_
    refine Run.reg ?_
    refine X.assign (by rfl) (by rfl) ?_
    refine X.nil ?_
    cases h
    refine R.fin1 Tryz.results184 (by rfl) (by rfl) ?_
    rfl
  · replace h := condF hc2 h
    refine Run.skip ?_
    refine Run.seq ?_
    refine Run.seq ?_
    refine Run.reg ?_
    refine X.fieldAddr_l fld53_0 (by rfl) (by rfl) ?_
    refine X.load_l shp3 (by rfl) (by rfl) (by rfl) (by rfl) (by rfl) (by rfl) ?_
    refine X.nil ?_
    refine Run.block ?_
    refine Run.seq ?_
    refine Run.reg ?_
    refine X.bin (by rfl) (by rfl) (by rfl) (by rfl) (by intro h; cases h) (by rfl) ?_
    refine X.assign (by rfl) (by rfl) ?_
    refine X.nil ?_
    refine R.cond (by rfl) (fun hc3 => ?_) (fun hc3 => ?_)
    · replace h := condT hc3 h
      refine Run.seq ?_
      obtain ⟨v4, hv4, h⟩ := bindE h
      obtain ⟨e5, he5, h2⟩ := bindE h
      refine R.regG [(4, bool e5)] [] ?_ ?_
      · clear h; have h := he5; clear he5 h2
        refine X.fieldAddr_l fld53_1 (by rfl) (by rfl) ?_
        refine X.load_l shp3 (by rfl) (by rfl) (by rfl) (by rfl) (by rfl) (by rfl) ?_
        refine X.fieldAddr_l fld28_2 (by rfl) (by rfl) ?_
        refine X.load_l shp24 (by rfl) (by rfl) (by rfl) (by rfl) (by rfl) (by rfl) ?_
        refine X.len_s elt24 (by rfl) (by exact List.length_map ..) (by rfl) ?_
        refine X.subW (by rfl) (by rfl) (by rfl) ?_
        refine X.callP (s_l01In_pc _ _ _ _ hv4) (by rfl) (by rfl) (by rfl) (by trivial) (by rfl) (by rfl) (by rfl) (by rfl) ?_
        refine X.move (by rfl) (by rfl) ?_
        refine X.ifG (by rfl) (by rfl) (by rfl) (fun hb6 => ?_) (fun hb6 => ?_)
        · replace h := condT hb6 h
          refine X.fieldAddr_l fld53_2 (by rfl) (by rfl) ?_
          refine X.gyes (by rfl) (by rfl) (by first | rfl | assumption) ?_
          refine X.load_l shp3 (by rfl) (by rfl) (by rfl) (by rfl) (by rfl) (by rfl) ?_
          refine X.gyes (by rfl) (by rfl) (by first | rfl | assumption) ?_
          refine X.bin (by rfl) (by rfl) (by rfl) (by rfl) (by intro h; cases h) (by rfl) ?_
          refine X.pickT (by rfl) (by first | rfl | assumption) (by rfl) (by rfl) ?_
          refine X.move (by rfl) (by rfl) ?_
          refine X.ifG (by rfl) (by rfl) (by rfl) (fun hb7 => ?_) (fun hb7 => ?_)
          · replace h := condT hb7 h
            refine X.fieldAddr_l fld53_3 (by rfl) (by rfl) ?_
            refine X.gyes (by rfl) (by rfl) (by first | rfl | assumption) ?_
            refine X.load_l shp3 (by rfl) (by rfl) (by rfl) (by rfl) (by rfl) (by rfl) ?_
            refine X.gyes (by rfl) (by rfl) (by first | rfl | assumption) ?_
            refine X.bin (by rfl) (by rfl) (by rfl) (by rfl) (by intro h; cases h) (by rfl) ?_
            refine X.pickT (by rfl) (by first | rfl | assumption) (by rfl) (by rfl) ?_
            refine X.assign (by rfl) (by rfl) ?_
            cases h
            exact X.endG (by trivial) (by trivial) (by rfl) (by rfl)
          · replace h := condF hb7 h
            refine X.gno (by rfl) (by rfl) (by first | rfl | assumption) (by rfl) ?_
            refine X.gno (by rfl) (by rfl) (by first | rfl | assumption) (by rfl) ?_
            refine X.pickF (by rfl) (by first | rfl | assumption) (by rfl) (by rfl) ?_
            refine X.assign (by rfl) (by rfl) ?_
            cases h
            exact X.endG (by trivial) (by trivial) (by rfl) (by rfl)
        · replace h := condF hb6 h
          refine X.gno (by rfl) (by rfl) (by first | rfl | assumption) (by rfl) ?_
          refine X.gno (by rfl) (by rfl) (by first | rfl | assumption) (by rfl) ?_
          refine X.pickF (by rfl) (by first | rfl | assumption) (by rfl) (by rfl) ?_
          refine X.move (by rfl) (by rfl) ?_
          refine X.gno (by rfl) (by rfl) (by first | rfl | assumption) (by rfl) ?_
          refine X.gno (by rfl) (by rfl) (by first | rfl | assumption) (by rfl) ?_
          refine X.gno (by rfl) (by rfl) (by first | rfl | assumption) (by rfl) ?_
          refine X.pickF (by rfl) (by first | rfl | assumption) (by rfl) (by rfl) ?_
          refine X.assign (by rfl) (by rfl) ?_
          cases h
          exact X.endG (by trivial) (by trivial) (by rfl) (by rfl)
      replace h := h2; clear h2
      cases h
      refine R.fin1 Tryz.results184 (by rfl) (by rfl) ?_
      rfl
    · replace h := condF hc3 h
      refine Run.seq ?_
      refine Run.reg ?_
      refine X.bin (by rfl) (by rfl) (by rfl) (by rfl) (by intro h; cases h) (by rfl) ?_
      refine X.assign (by rfl) (by rfl) ?_
      refine X.nil ?_
      refine R.cond (by rfl) (fun hc8 => ?_) (fun hc8 => ?_)
      · replace h := condT hc8 h
        refine Run.seq ?_
        obtain ⟨v9, hv9, h⟩ := bindE h
        obtain ⟨e10, he10, h2⟩ := bindE h
        refine R.regG [(4, bool e10)] [] ?_ ?_
        · clear h; have h := he10; clear he10 h2
          refine X.fieldAddr_l fld53_1 (by rfl) (by rfl) ?_
          refine X.load_l shp3 (by rfl) (by rfl) (by rfl) (by rfl) (by rfl) (by rfl) ?_
          refine X.move (by rfl) (by rfl) ?_
          refine X.subW (by rfl) (by rfl) (by rfl) ?_
          refine X.callP (s_l01In_pc _ _ _ _ hv9) (by rfl) (by rfl) (by rfl) (by trivial) (by rfl) (by rfl) (by rfl) (by rfl) ?_
          refine X.move (by rfl) (by rfl) ?_
          refine X.ifG (by rfl) (by rfl) (by rfl) (fun hb11 => ?_) (fun hb11 => ?_)
          · replace h := condT hb11 h
            refine X.fieldAddr_l fld53_2 (by rfl) (by rfl) ?_
            refine X.gyes (by rfl) (by rfl) (by first | rfl | assumption) ?_
            refine X.load_l shp3 (by rfl) (by rfl) (by rfl) (by rfl) (by rfl) (by rfl) ?_
            refine X.gyes (by rfl) (by rfl) (by first | rfl | assumption) ?_
            refine X.bin (by rfl) (by rfl) (by rfl) (by rfl) (by intro h; cases h) (by rfl) ?_
            refine X.pickT (by rfl) (by first | rfl | assumption) (by rfl) (by rfl) ?_
            refine X.move (by rfl) (by rfl) ?_
            refine X.ifG (by rfl) (by rfl) (by rfl) (fun hb12 => ?_) (fun hb12 => ?_)
            · replace h := condT hb12 h
              refine X.fieldAddr_l fld53_3 (by rfl) (by rfl) ?_
              refine X.gyes (by rfl) (by rfl) (by first | rfl | assumption) ?_
              refine X.load_l shp3 (by rfl) (by rfl) (by rfl) (by rfl) (by rfl) (by rfl) ?_
              refine X.gyes (by rfl) (by rfl) (by first | rfl | assumption) ?_
              refine X.bin (by rfl) (by rfl) (by rfl) (by rfl) (by intro h; cases h) (by rfl) ?_
              refine X.pickT (by rfl) (by first | rfl | assumption) (by rfl) (by rfl) ?_
              refine X.assign (by rfl) (by rfl) ?_
              cases h
              exact X.endG (by trivial) (by trivial) (by rfl) (by rfl)
            · replace h := condF hb12 h
              refine X.gno (by rfl) (by rfl) (by first | rfl | assumption) (by rfl) ?_
              refine X.gno (by rfl) (by rfl) (by first | rfl | assumption) (by rfl) ?_
              refine X.pickF (by rfl) (by first | rfl | assumption) (by rfl) (by rfl) ?_
              refine X.assign (by rfl) (by rfl) ?_
              cases h
              exact X.endG (by trivial) (by trivial) (by rfl) (by rfl)
          · replace h := condF hb11 h
            refine X.gno (by rfl) (by rfl) (by first | rfl | assumption) (by rfl) ?_
            refine X.gno (by rfl) (by rfl) (by first | rfl | assumption) (by rfl) ?_
            refine X.pickF (by rfl) (by first | rfl | assumption) (by rfl) (by rfl) ?_
            refine X.move (by rfl) (by rfl) ?_
            refine X.gno (by rfl) (by rfl) (by first | rfl | assumption) (by rfl) ?_
            refine X.gno (by rfl) (by rfl) (by first | rfl | assumption) (by rfl) ?_
            refine X.gno (by rfl) (by rfl) (by first | rfl | assumption) (by rfl) ?_
            refine X.pickF (by rfl) (by first | rfl | assumption) (by rfl) (by rfl) ?_
            refine X.assign (by rfl) (by rfl) ?_
            cases h
            exact X.endG (by trivial) (by trivial) (by rfl) (by rfl)
        replace h := h2; clear h2
        cases h
        refine R.fin1 Tryz.results184 (by rfl) (by rfl) ?_
        rfl
      · replace h := condF hc8 h
        refine Run.seq ?_
        refine Run.reg ?_
        refine X.bin (by rfl) (by rfl) (by rfl) (by rfl) (by intro h; cases h) (by rfl) ?_
        refine X.assign (by rfl) (by rfl) ?_
        refine X.nil ?_
        refine R.cond (by rfl) (fun hc13 => ?_) (fun hc13 => ?_)
        · replace h := condT hc13 h
          refine Run.seq ?_
          obtain ⟨v14, hv14, h⟩ := bindE h
          obtain ⟨e15, he15, h2⟩ := bindE h
          refine R.regG [(4, bool e15)] [] ?_ ?_
          · clear h; have h := he15; clear he15 h2
            refine X.fieldAddr_l fld53_1 (by rfl) (by rfl) ?_
            refine X.load_l shp3 (by rfl) (by rfl) (by rfl) (by rfl) (by rfl) (by rfl) ?_
            refine X.fieldAddr_l fld28_3 (by rfl) (by rfl) ?_
            refine X.load_l shp25 (by rfl) (by rfl) (by rfl) (by rfl) (by rfl) (by rfl) ?_
            refine X.len_s elt25 (by rfl) (by exact List.length_map ..) (by rfl) ?_
            refine X.subW (by rfl) (by rfl) (by rfl) ?_
            refine X.callP (s_l01In_pc _ _ _ _ hv14) (by rfl) (by rfl) (by rfl) (by trivial) (by rfl) (by rfl) (by rfl) (by rfl) ?_
            refine X.move (by rfl) (by rfl) ?_
            refine X.ifG (by rfl) (by rfl) (by rfl) (fun hb16 => ?_) (fun hb16 => ?_)
            · replace h := condT hb16 h
              refine X.fieldAddr_l fld53_2 (by rfl) (by rfl) ?_
              refine X.gyes (by rfl) (by rfl) (by first | rfl | assumption) ?_
              refine X.load_l shp3 (by rfl) (by rfl) (by rfl) (by rfl) (by rfl) (by rfl) ?_
              refine X.gyes (by rfl) (by rfl) (by first | rfl | assumption) ?_
              obtain ⟨v17, hv17, h⟩ := bindE h
              refine X.callP (s_l01In_pc _ _ _ _ hv17) (by rfl) (by rfl) (by rfl) (by trivial) (by rfl) (by rfl) (by rfl) (by rfl) ?_
              refine X.pickT (by rfl) (by first | rfl | assumption) (by rfl) (by rfl) ?_
              refine X.move (by rfl) (by rfl) ?_
              refine X.ifG (by rfl) (by rfl) (by rfl) (fun hb18 => ?_) (fun hb18 => ?_)
              · replace h := condT hb18 h
                refine X.fieldAddr_l fld53_3 (by rfl) (by rfl) ?_
                refine X.gyes (by rfl) (by rfl) (by first | rfl | assumption) ?_
                refine X.load_l shp3 (by rfl) (by rfl) (by rfl) (by rfl) (by rfl) (by rfl) ?_
                refine X.gyes (by rfl) (by rfl) (by first | rfl | assumption) ?_
                refine X.bin (by rfl) (by rfl) (by rfl) (by rfl) (by intro h; cases h) (by rfl) ?_
                refine X.pickT (by rfl) (by first | rfl | assumption) (by rfl) (by rfl) ?_
                refine X.assign (by rfl) (by rfl) ?_
                cases h
                exact X.endG (by trivial) (by trivial) (by rfl) (by rfl)
              · replace h := condF hb18 h
                refine X.gno (by rfl) (by rfl) (by first | rfl | assumption) (by rfl) ?_
                refine X.gno (by rfl) (by rfl) (by first | rfl | assumption) (by rfl) ?_
                refine X.pickF (by rfl) (by first | rfl | assumption) (by rfl) (by rfl) ?_
                refine X.assign (by rfl) (by rfl) ?_
                cases h
                exact X.endG (by trivial) (by trivial) (by rfl) (by rfl)
            · replace h := condF hb16 h
              refine X.gno (by rfl) (by rfl) (by first | rfl | assumption) (by rfl) ?_
              refine X.gno (by rfl) (by rfl) (by first | rfl | assumption) (by rfl) ?_
              refine X.pickF (by rfl) (by first | rfl | assumption) (by rfl) (by rfl) ?_
              refine X.move (by rfl) (by rfl) ?_
              refine X.gno (by rfl) (by rfl) (by first | rfl | assumption) (by rfl) ?_
              refine X.gno (by rfl) (by rfl) (by first | rfl | assumption) (by rfl) ?_
              refine X.gno (by rfl) (by rfl) (by first | rfl | assumption) (by rfl) ?_
              refine X.pickF (by rfl) (by first | rfl | assumption) (by rfl) (by rfl) ?_
              refine X.assign (by rfl) (by rfl) ?_
              cases h
              exact X.endG (by trivial) (by trivial) (by rfl) (by rfl)
          replace h := h2; clear h2
          cases h
          refine R.fin1 Tryz.results184 (by rfl) (by rfl) ?_
          rfl
        · replace h := condF hc13 h
          refine Run.seq ?_
          refine Run.reg ?_
          refine X.bin (by rfl) (by rfl) (by rfl) (by rfl) (by intro h; cases h) (by rfl) ?_
          refine X.assign (by rfl) (by rfl) ?_
          refine X.nil ?_
          refine R.cond (by rfl) (fun hc19 => ?_) (fun hc19 => ?_)
          · replace h := condT hc19 h
            refine Run.seq ?_
            obtain ⟨v20, hv20, h⟩ := bindE h
            obtain ⟨e21, he21, h2⟩ := bindE h
            refine R.regG [(4, bool e21)] [] ?_ ?_
            · clear h; have h := he21; clear he21 h2
              refine X.fieldAddr_l fld53_1 (by rfl) (by rfl) ?_
              refine X.load_l shp3 (by rfl) (by rfl) (by rfl) (by rfl) (by rfl) (by rfl) ?_
              refine X.fieldAddr_l fld28_3 (by rfl) (by rfl) ?_
              refine X.load_l shp25 (by rfl) (by rfl) (by rfl) (by rfl) (by rfl) (by rfl) ?_
              refine X.len_s elt25 (by rfl) (by exact List.length_map ..) (by rfl) ?_
              refine X.subW (by rfl) (by rfl) (by rfl) ?_
              refine X.callP (s_l01In_pc _ _ _ _ hv20) (by rfl) (by rfl) (by rfl) (by trivial) (by rfl) (by rfl) (by rfl) (by rfl) ?_
              refine X.move (by rfl) (by rfl) ?_
              refine X.ifG (by rfl) (by rfl) (by rfl) (fun hb22 => ?_) (fun hb22 => ?_)
              · replace h := condT hb22 h
                refine X.fieldAddr_l fld53_2 (by rfl) (by rfl) ?_
                refine X.gyes (by rfl) (by rfl) (by first | rfl | assumption) ?_
                refine X.load_l shp3 (by rfl) (by rfl) (by rfl) (by rfl) (by rfl) (by rfl) ?_
                refine X.gyes (by rfl) (by rfl) (by first | rfl | assumption) ?_
                obtain ⟨v23, hv23, h⟩ := bindE h
                refine X.callP (s_l01In_pc _ _ _ _ hv23) (by rfl) (by rfl) (by rfl) (by trivial) (by rfl) (by rfl) (by rfl) (by rfl) ?_
                refine X.pickT (by rfl) (by first | rfl | assumption) (by rfl) (by rfl) ?_
                refine X.move (by rfl) (by rfl) ?_
                refine X.ifG (by rfl) (by rfl) (by rfl) (fun hb24 => ?_) (fun hb24 => ?_)
                · replace h := condT hb24 h
                  refine X.fieldAddr_l fld53_3 (by rfl) (by rfl) ?_
                  refine X.gyes (by rfl) (by rfl) (by first | rfl | assumption) ?_
                  refine X.load_l shp3 (by rfl) (by rfl) (by rfl) (by rfl) (by rfl) (by rfl) ?_
                  refine X.gyes (by rfl) (by rfl) (by first | rfl | assumption) ?_
                  obtain ⟨v25, hv25, h⟩ := bindE h
                  refine X.callP (s_l01In_pc _ _ _ _ hv25) (by rfl) (by rfl) (by rfl) (by trivial) (by rfl) (by rfl) (by rfl) (by rfl) ?_
                  refine X.pickT (by rfl) (by first | rfl | assumption) (by rfl) (by rfl) ?_
                  refine X.move (by rfl) (by rfl) ?_
                  refine X.ifG (by rfl) (by rfl) (by rfl) (fun hb26 => ?_) (fun hb26 => ?_)
                  · replace h := condT hb26 h
                    refine X.fieldAddr_l fld53_2 (by rfl) (by rfl) ?_
                    refine X.gyes (by rfl) (by rfl) (by first | rfl | assumption) ?_
                    refine X.load_l shp3 (by rfl) (by rfl) (by rfl) (by rfl) (by rfl) (by rfl) ?_
                    refine X.gyes (by rfl) (by rfl) (by first | rfl | assumption) ?_
                    refine X.fieldAddr_l fld53_3 (by rfl) (by rfl) ?_
                    refine X.gyes (by rfl) (by rfl) (by first | rfl | assumption) ?_
                    refine X.load_l shp3 (by rfl) (by rfl) (by rfl) (by rfl) (by rfl) (by rfl) ?_
                    refine X.gyes (by rfl) (by rfl) (by first | rfl | assumption) ?_
                    refine X.bin (by rfl) (by rfl) (by rfl) (by rfl) (by intro h; cases h) (by rfl) ?_
                    refine X.pickT (by rfl) (by first | rfl | assumption) (by rfl) (by rfl) ?_
                    refine X.assign (by rfl) (by rfl) ?_
                    cases h
                    exact X.endG (by trivial) (by trivial) (by rfl) (by rfl)
                  · replace h := condF hb26 h
                    refine X.gno (by rfl) (by rfl) (by first | rfl | assumption) (by rfl) ?_
                    refine X.gno (by rfl) (by rfl) (by first | rfl | assumption) (by rfl) ?_
                    refine X.gno (by rfl) (by rfl) (by first | rfl | assumption) (by rfl) ?_
                    refine X.gno (by rfl) (by rfl) (by first | rfl | assumption) (by rfl) ?_
                    refine X.pickF (by rfl) (by first | rfl | assumption) (by rfl) (by rfl) ?_
                    refine X.assign (by rfl) (by rfl) ?_
                    cases h
                    exact X.endG (by trivial) (by trivial) (by rfl) (by rfl)
                · replace h := condF hb24 h
                  refine X.gno (by rfl) (by rfl) (by first | rfl | assumption) (by rfl) ?_
                  refine X.gno (by rfl) (by rfl) (by first | rfl | assumption) (by rfl) ?_
                  refine X.pickF (by rfl) (by first | rfl | assumption) (by rfl) (by rfl) ?_
                  refine X.move (by rfl) (by rfl) ?_
                  refine X.gno (by rfl) (by rfl) (by first | rfl | assumption) (by rfl) ?_
                  refine X.gno (by rfl) (by rfl) (by first | rfl | assumption) (by rfl) ?_
                  refine X.gno (by rfl) (by rfl) (by first | rfl | assumption) (by rfl) ?_
                  refine X.gno (by rfl) (by rfl) (by first | rfl | assumption) (by rfl) ?_
                  refine X.gno (by rfl) (by rfl) (by first | rfl | assumption) (by rfl) ?_
                  refine X.pickF (by rfl) (by first | rfl | assumption) (by rfl) (by rfl) ?_
                  refine X.assign (by rfl) (by rfl) ?_
                  cases h
                  exact X.endG (by trivial) (by trivial) (by rfl) (by rfl)
              · replace h := condF hb22 h
                refine X.gno (by rfl) (by rfl) (by first | rfl | assumption) (by rfl) ?_
                refine X.gno (by rfl) (by rfl) (by first | rfl | assumption) (by rfl) ?_
                refine X.pickF (by rfl) (by first | rfl | assumption) (by rfl) (by rfl) ?_
                refine X.move (by rfl) (by rfl) ?_
                refine X.gno (by rfl) (by rfl) (by first | rfl | assumption) (by rfl) ?_
                refine X.gno (by rfl) (by rfl) (by first | rfl | assumption) (by rfl) ?_
                refine X.gno (by rfl) (by rfl) (by first | rfl | assumption) (by rfl) ?_
                refine X.pickF (by rfl) (by first | rfl | assumption) (by rfl) (by rfl) ?_
                refine X.move (by rfl) (by rfl) ?_
                refine X.gno (by rfl) (by rfl) (by first | rfl | assumption) (by rfl) ?_
                refine X.gno (by rfl) (by rfl) (by first | rfl | assumption) (by rfl) ?_
                refine X.gno (by rfl) (by rfl) (by first | rfl | assumption) (by rfl) ?_
                refine X.gno (by rfl) (by rfl) (by first | rfl | assumption) (by rfl) ?_
                refine X.gno (by rfl) (by rfl) (by first | rfl | assumption) (by rfl) ?_
                refine X.pickF (by rfl) (by first | rfl | assumption) (by rfl) (by rfl) ?_
                refine X.assign (by rfl) (by rfl) ?_
                cases h
                exact X.endG (by trivial) (by trivial) (by rfl) (by rfl)
            replace h := h2; clear h2
            cases h
            refine R.fin1 Tryz.results184 (by rfl) (by rfl) ?_
            rfl
          · replace h := condF hc19 h
            refine Run.seq ?_
            refine Run.reg ?_
            refine X.bin (by rfl) (by rfl) (by rfl) (by rfl) (by intro h; cases h) (by rfl) ?_
            refine X.assign (by rfl) (by rfl) ?_
            refine X.nil ?_
            refine R.cond (by rfl) (fun hc27 => ?_) (fun hc27 => ?_)
            · replace h := condT hc27 h
              refine Run.seq ?_
              obtain ⟨v28, hv28, h⟩ := bindE h
              obtain ⟨e29, he29, h2⟩ := bindE h
              refine R.regG [(4, bool e29)] [] ?_ ?_
              · clear h; have h := he29; clear he29 h2
                refine X.load_l shp28 (by rfl) (by rfl) (by rfl) (by rfl) (by rfl) (by rfl) ?_
                refine X.fieldAddr_l fld53_1 (by rfl) (by rfl) ?_
                refine X.load_l shp3 (by rfl) (by rfl) (by rfl) (by rfl) (by rfl) (by rfl) ?_
                refine X.callP (s_IsMachine_pc _ _ _ hv28) (by rfl) (by rfl) (by rfl) (by trivial) (by rfl) (by rfl) (by rfl) (by rfl) ?_
                refine X.move (by rfl) (by rfl) ?_
                refine X.ifG (by rfl) (by rfl) (by rfl) (fun hb30 => ?_) (fun hb30 => ?_)
                · replace h := condT hb30 h
                  refine X.fieldAddr_l fld53_2 (by rfl) (by rfl) ?_
                  refine X.gyes (by rfl) (by rfl) (by first | rfl | assumption) ?_
                  refine X.load_l shp3 (by rfl) (by rfl) (by rfl) (by rfl) (by rfl) (by rfl) ?_
                  refine X.gyes (by rfl) (by rfl) (by first | rfl | assumption) ?_
                  refine X.move (by rfl) (by rfl) ?_
                  refine X.gyes (by rfl) (by rfl) (by first | rfl | assumption) ?_
                  refine X.subW (by rfl) (by rfl) (by rfl) ?_
                  refine X.gyes (by rfl) (by rfl) (by first | rfl | assumption) ?_
                  obtain ⟨v31, hv31, h⟩ := bindE h
                  refine X.callP (s_l01In_pc _ _ _ _ hv31) (by rfl) (by rfl) (by rfl) (by trivial) (by rfl) (by rfl) (by rfl) (by rfl) ?_
                  refine X.pickT (by rfl) (by first | rfl | assumption) (by rfl) (by rfl) ?_
                  refine X.move (by rfl) (by rfl) ?_
                  refine X.ifG (by rfl) (by rfl) (by rfl) (fun hb32 => ?_) (fun hb32 => ?_)
                  · replace h := condT hb32 h
                    refine X.fieldAddr_l fld53_3 (by rfl) (by rfl) ?_
                    refine X.gyes (by rfl) (by rfl) (by first | rfl | assumption) ?_
                    refine X.load_l shp3 (by rfl) (by rfl) (by rfl) (by rfl) (by rfl) (by rfl) ?_
                    refine X.gyes (by rfl) (by rfl) (by first | rfl | assumption) ?_
                    refine X.move (by rfl) (by rfl) ?_
                    refine X.gyes (by rfl) (by rfl) (by first | rfl | assumption) ?_
                    refine X.subW (by rfl) (by rfl) (by rfl) ?_
                    refine X.gyes (by rfl) (by rfl) (by first | rfl | assumption) ?_
                    obtain ⟨v33, hv33, h⟩ := bindE h
                    refine X.callP (s_l01In_pc _ _ _ _ hv33) (by rfl) (by rfl) (by rfl) (by trivial) (by rfl) (by rfl) (by rfl) (by rfl) ?_
                    refine X.pickT (by rfl) (by first | rfl | assumption) (by rfl) (by rfl) ?_
                    refine X.move (by rfl) (by rfl) ?_
                    refine X.ifG (by rfl) (by rfl) (by rfl) (fun hb34 => ?_) (fun hb34 => ?_)
                    · replace h := condT hb34 h
                      refine X.fieldAddr_l fld53_2 (by rfl) (by rfl) ?_
                      refine X.gyes (by rfl) (by rfl) (by first | rfl | assumption) ?_
                      refine X.load_l shp3 (by rfl) (by rfl) (by rfl) (by rfl) (by rfl) (by rfl) ?_
                      refine X.gyes (by rfl) (by rfl) (by first | rfl | assumption) ?_
                      refine X.fieldAddr_l fld53_3 (by rfl) (by rfl) ?_
                      refine X.gyes (by rfl) (by rfl) (by first | rfl | assumption) ?_
                      refine X.load_l shp3 (by rfl) (by rfl) (by rfl) (by rfl) (by rfl) (by rfl) ?_
                      refine X.gyes (by rfl) (by rfl) (by first | rfl | assumption) ?_
                      refine X.bin (by rfl) (by rfl) (by rfl) (by rfl) (by intro h; cases h) (by rfl) ?_
                      refine X.pickT (by rfl) (by first | rfl | assumption) (by rfl) (by rfl) ?_
                      refine X.assign (by rfl) (by rfl) ?_
                      cases h
                      exact X.endG (by trivial) (by trivial) (by rfl) (by rfl)
                    · replace h := condF hb34 h
                      refine X.gno (by rfl) (by rfl) (by first | rfl | assumption) (by rfl) ?_
                      refine X.gno (by rfl) (by rfl) (by first | rfl | assumption) (by rfl) ?_
                      refine X.gno (by rfl) (by rfl) (by first | rfl | assumption) (by rfl) ?_
                      refine X.gno (by rfl) (by rfl) (by first | rfl | assumption) (by rfl) ?_
                      refine X.pickF (by rfl) (by first | rfl | assumption) (by rfl) (by rfl) ?_
                      refine X.assign (by rfl) (by rfl) ?_
                      cases h
                      exact X.endG (by trivial) (by trivial) (by rfl) (by rfl)
                  · replace h := condF hb32 h
                    refine X.gno (by rfl) (by rfl) (by first | rfl | assumption) (by rfl) ?_
                    refine X.gno (by rfl) (by rfl) (by first | rfl | assumption) (by rfl) ?_
                    refine X.gno (by rfl) (by rfl) (by first | rfl | assumption) (by rfl) ?_
                    refine X.gno (by rfl) (by rfl) (by first | rfl | assumption) (by rfl) ?_
                    refine X.pickF (by rfl) (by first | rfl | assumption) (by rfl) (by rfl) ?_
                    refine X.move (by rfl) (by rfl) ?_
                    refine X.gno (by rfl) (by rfl) (by first | rfl | assumption) (by rfl) ?_
                    refine X.gno (by rfl) (by rfl) (by first | rfl | assumption) (by rfl) ?_
                    refine X.gno (by rfl) (by rfl) (by first | rfl | assumption) (by rfl) ?_
                    refine X.gno (by rfl) (by rfl) (by first | rfl | assumption) (by rfl) ?_
                    refine X.gno (by rfl) (by rfl) (by first | rfl | assumption) (by rfl) ?_
                    refine X.pickF (by rfl) (by first | rfl | assumption) (by rfl) (by rfl) ?_
                    refine X.assign (by rfl) (by rfl) ?_
                    cases h
                    exact X.endG (by trivial) (by trivial) (by rfl) (by rfl)
                · replace h := condF hb30 h
                  refine X.gno (by rfl) (by rfl) (by first | rfl | assumption) (by rfl) ?_
                  refine X.gno (by rfl) (by rfl) (by first | rfl | assumption) (by rfl) ?_
                  refine X.gno (by rfl) (by rfl) (by first | rfl | assumption) (by rfl) ?_
                  refine X.gno (by rfl) (by rfl) (by first | rfl | assumption) (by rfl) ?_
                  refine X.pickF (by rfl) (by first | rfl | assumption) (by rfl) (by rfl) ?_
                  refine X.move (by rfl) (by rfl) ?_
                  refine X.gno (by rfl) (by rfl) (by first | rfl | assumption) (by rfl) ?_
                  refine X.gno (by rfl) (by rfl) (by first | rfl | assumption) (by rfl) ?_
                  refine X.gno (by rfl) (by rfl) (by first | rfl | assumption) (by rfl) ?_
                  refine X.gno (by rfl) (by rfl) (by first | rfl | assumption) (by rfl) ?_
                  refine X.gno (by rfl) (by rfl) (by first | rfl | assumption) (by rfl) ?_
                  refine X.pickF (by rfl) (by first | rfl | assumption) (by rfl) (by rfl) ?_
                  refine X.move (by rfl) (by rfl) ?_
                  refine X.gno (by rfl) (by rfl) (by first | rfl | assumption) (by rfl) ?_
                  refine X.gno (by rfl) (by rfl) (by first | rfl | assumption) (by rfl) ?_
                  refine X.gno (by rfl) (by rfl) (by first | rfl | assumption) (by rfl) ?_
                  refine X.gno (by rfl) (by rfl) (by first | rfl | assumption) (by rfl) ?_
                  refine X.gno (by rfl) (by rfl) (by first | rfl | assumption) (by rfl) ?_
                  refine X.pickF (by rfl) (by first | rfl | assumption) (by rfl) (by rfl) ?_
                  refine X.assign (by rfl) (by rfl) ?_
                  cases h
                  exact X.endG (by trivial) (by trivial) (by rfl) (by rfl)
              replace h := h2; clear h2
              cases h
              refine R.fin1 Tryz.results184 (by rfl) (by rfl) ?_
              rfl
            · replace h := condF hc27 h
              refine Run.seq ?_
              refine Run.reg ?_
              refine X.bin (by rfl) (by rfl) (by rfl) (by rfl) (by intro h; cases h) (by rfl) ?_
              refine X.assign (by rfl) (by rfl) ?_
              refine X.nil ?_
              refine R.cond (by rfl) (fun hc35 => ?_) (fun hc35 => ?_)
              · replace h := condT hc35 h
                refine Run.seq ?_
                obtain ⟨v36, hv36, h⟩ := bindE h
                obtain ⟨e37, he37, h2⟩ := bindE h
                refine R.regG [(4, bool e37)] [] ?_ ?_
                · clear h; have h := he37; clear he37 h2
                  refine X.fieldAddr_l fld53_1 (by rfl) (by rfl) ?_
                  refine X.load_l shp3 (by rfl) (by rfl) (by rfl) (by rfl) (by rfl) (by rfl) ?_
                  refine X.fieldAddr_l fld28_4 (by rfl) (by rfl) ?_
                  refine X.load_l shp26 (by rfl) (by rfl) (by rfl) (by rfl) (by rfl) (by rfl) ?_
                  refine X.len_s elt26 (by rfl) (by exact List.length_map ..) (by rfl) ?_
                  refine X.subW (by rfl) (by rfl) (by rfl) ?_
                  refine X.callP (s_l01In_pc _ _ _ _ hv36) (by rfl) (by rfl) (by rfl) (by trivial) (by rfl) (by rfl) (by rfl) (by rfl) ?_
                  refine X.move (by rfl) (by rfl) ?_
                  refine X.ifG (by rfl) (by rfl) (by rfl) (fun hb38 => ?_) (fun hb38 => ?_)
                  · replace h := condT hb38 h
                    refine X.fieldAddr_l fld53_2 (by rfl) (by rfl) ?_
                    refine X.gyes (by rfl) (by rfl) (by first | rfl | assumption) ?_
                    refine X.load_l shp3 (by rfl) (by rfl) (by rfl) (by rfl) (by rfl) (by rfl) ?_
                    refine X.gyes (by rfl) (by rfl) (by first | rfl | assumption) ?_
                    refine X.bin (by rfl) (by rfl) (by rfl) (by rfl) (by intro h; cases h) (by rfl) ?_
                    refine X.pickT (by rfl) (by first | rfl | assumption) (by rfl) (by rfl) ?_
                    refine X.move (by rfl) (by rfl) ?_
                    refine X.ifG (by rfl) (by rfl) (by rfl) (fun hb39 => ?_) (fun hb39 => ?_)
                    · replace h := condT hb39 h
                      refine X.fieldAddr_l fld53_3 (by rfl) (by rfl) ?_
                      refine X.gyes (by rfl) (by rfl) (by first | rfl | assumption) ?_
                      refine X.load_l shp3 (by rfl) (by rfl) (by rfl) (by rfl) (by rfl) (by rfl) ?_
                      refine X.gyes (by rfl) (by rfl) (by first | rfl | assumption) ?_
                      refine X.bin (by rfl) (by rfl) (by rfl) (by rfl) (by intro h; cases h) (by rfl) ?_
                      refine X.pickT (by rfl) (by first | rfl | assumption) (by rfl) (by rfl) ?_
                      refine X.assign (by rfl) (by rfl) ?_
                      cases h
                      exact X.endG (by trivial) (by trivial) (by rfl) (by rfl)
                    · replace h := condF hb39 h
                      refine X.gno (by rfl) (by rfl) (by first | rfl | assumption) (by rfl) ?_
                      refine X.gno (by rfl) (by rfl) (by first | rfl | assumption) (by rfl) ?_
                      refine X.pickF (by rfl) (by first | rfl | assumption) (by rfl) (by rfl) ?_
                      refine X.assign (by rfl) (by rfl) ?_
                      cases h
                      exact X.endG (by trivial) (by trivial) (by rfl) (by rfl)
                  · replace h := condF hb38 h
                    refine X.gno (by rfl) (by rfl) (by first | rfl | assumption) (by rfl) ?_
                    refine X.gno (by rfl) (by rfl) (by first | rfl | assumption) (by rfl) ?_
                    refine X.pickF (by rfl) (by first | rfl | assumption) (by rfl) (by rfl) ?_
                    refine X.move (by rfl) (by rfl) ?_
                    refine X.gno (by rfl) (by rfl) (by first | rfl | assumption) (by rfl) ?_
                    refine X.gno (by rfl) (by rfl) (by first | rfl | assumption) (by rfl) ?_
                    refine X.gno (by rfl) (by rfl) (by first | rfl | assumption) (by rfl) ?_
                    refine X.pickF (by rfl) (by first | rfl | assumption) (by rfl) (by rfl) ?_
                    refine X.assign (by rfl) (by rfl) ?_
                    cases h
                    exact X.endG (by trivial) (by trivial) (by rfl) (by rfl)
                replace h := h2; clear h2
                cases h
                refine R.fin1 Tryz.results184 (by rfl) (by rfl) ?_
                rfl
              · replace h := condF hc35 h
                refine Run.skip ?_
                refine Run.blk ?_
                refine Run.seq ?_
                refine Run.reg ?_
                refine X.assign (by rfl) (by rfl) ?_
                refine X.nil ?_
                cases h
                refine R.fin1 Tryz.results184 (by rfl) (by rfl) ?_
                rfl
theorem s_l16Jam_pc (b0 : TProject) (b1 : TDomain) (b2 : Int) (b3 : Int) (b4 : Int) (r : Bool) (h : s_l16Jam b0 b1 b2 b3 b4 = some r) : PC Tryz.prog 279 [eTProject b0, eTDomain b1, int b2, int b3, int b4] (bool r) := by
  unfold s_l16Jam at h
  refine PC.start Tryz.func279 Tryz.ntmps279 rfl ok279 rfl ?_
  refine Run.seq ?_
  refine Run.reg ?_
  refine X.box (by rfl) (by rfl) (by repeat (first | trivial | refine ⟨by first | rfl | simp [setL], ?_⟩)) (by rfl) (by rfl) (by rfl) (by rfl) ?_
  refine X.box (by rfl) (by rfl) (by repeat (first | trivial | refine ⟨by first | rfl | simp [setL], ?_⟩)) (by rfl) (by rfl) (by rfl) (by rfl) ?_
  refine X.assign (by rfl) (by rfl) ?_
  refine X.nil ?_
  refine Run.seq ?_
  obtain ⟨v1, hv1, h⟩ := bindE h
  obtain ⟨e2, he2, h2⟩ := bindE h
  refine R.regG [(2, int b2), (3, int b3), (4, int b4), (5, .lptr 320 0), (6, .lptr 384 0), (11, bool e2)] [(320, .blk true [int b0.Deadline, .slice (b0.Activities.map eTActivity), .slice (b0.Links.map eTLink), .slice (b0.Resources.map eTResource), .slice (b0.Stocks.map int)]), (384, .blk true [.slice (b1.MinStart.map int), .slice (b1.MaxStart.map int), .slice (b1.Modes.map l_int)])] ?_ ?_
  · clear h; have h := he2; clear he2 h2
    refine X.load_l shp28 (by rfl) (by rfl) (by rfl) (by rfl) (by rfl) (by rfl) ?_
    refine X.load_l shp32 (by rfl) (by rfl) (by rfl) (by rfl) (by rfl) (by rfl) ?_
    refine X.move (by rfl) (by rfl) ?_
    refine X.move (by rfl) (by rfl) ?_
    refine X.callP (s_l14Need_pc _ _ _ _ _ hv1) (by rfl) (by rfl) (by rfl) (by trivial) (by rfl) (by rfl) (by rfl) (by rfl) ?_
    refine X.bin (by rfl) (by rfl) (by rfl) (by rfl) (by intro h; cases h) (by rfl) ?_
    refine X.move (by rfl) (by rfl) ?_
    refine X.ifG (by rfl) (by rfl) (by rfl) (fun hb3 => ?_) (fun hb3 => ?_)
    · replace h := condT hb3 h
      refine X.load_l shp28 (by rfl) (by rfl) (by rfl) (by rfl) (by rfl) (by rfl) ?_
      refine X.gyes (by rfl) (by rfl) (by first | rfl | assumption) ?_
      refine X.load_l shp32 (by rfl) (by rfl) (by rfl) (by rfl) (by rfl) (by rfl) ?_
      refine X.gyes (by rfl) (by rfl) (by first | rfl | assumption) ?_
      refine X.move (by rfl) (by rfl) ?_
      refine X.gyes (by rfl) (by rfl) (by first | rfl | assumption) ?_
      refine X.move (by rfl) (by rfl) ?_
      refine X.gyes (by rfl) (by rfl) (by first | rfl | assumption) ?_
      obtain ⟨v4, hv4, h⟩ := bindE h
      refine X.callP (s_l14Need_pc _ _ _ _ _ hv4) (by rfl) (by rfl) (by rfl) (by trivial) (by rfl) (by rfl) (by rfl) (by rfl) ?_
      refine X.gyes (by rfl) (by rfl) (by first | rfl | assumption) ?_
      refine X.bin (by rfl) (by rfl) (by rfl) (by rfl) (by intro h; cases h) (by rfl) ?_
      refine X.pickT (by rfl) (by first | rfl | assumption) (by rfl) (by rfl) ?_
      refine X.assign (by rfl) (by rfl) ?_
      cases h
      exact X.endG (by trivial) (by trivial) (by rfl) (by rfl)
    · replace h := condF hb3 h
      refine X.gno (by rfl) (by rfl) (by first | rfl | assumption) (by rfl) ?_
      refine X.gno (by rfl) (by rfl) (by first | rfl | assumption) (by rfl) ?_
      refine X.gno (by rfl) (by rfl) (by first | rfl | assumption) (by rfl) ?_
      refine X.gno (by rfl) (by rfl) (by first | rfl | assumption) (by rfl) ?_
      refine X.gno (by rfl) (by rfl) (by first | rfl | assumption) (by rfl) ?_
      refine X.pickF (by rfl) (by first | rfl | assumption) (by rfl) (by rfl) ?_
      refine X.assign (by rfl) (by rfl) ?_
      cases h
      exact X.endG (by trivial) (by trivial) (by rfl) (by rfl)
  replace h := h2; clear h2
  refine Run.seq ?_
  obtain ⟨e5, he5, h2⟩ := bindE h
  refine R.drawG [(10, bool e5)] [] (footOf [(2, ([320], [])), (3, ([384], [])), (9, ([384], [])), (16, ([320], [])), (17, ([384], [])), (23, ([384], []))]) mixed (by kernel_rfl) (by kernel_rfl) ?_ ?_
  · clear h; have h := he5; clear he5 h2
    refine X.move (by rfl) (by rfl) ?_
    refine X.move (by rfl) (by rfl) ?_
    refine X.ifG (by rfl) (by rfl) (by rfl) (fun hb6 => ?_) (fun hb6 => ?_)
    · replace h := condT hb6 h
      refine X.load_l shp28 (by rfl) (by rfl) (by rfl) (by rfl) (by rfl) (by rfl) ?_
      refine X.gyes (by rfl) (by rfl) (by first | rfl | assumption) ?_
      refine X.load_l shp32 (by rfl) (by rfl) (by rfl) (by rfl) (by rfl) (by rfl) ?_
      refine X.gyes (by rfl) (by rfl) (by first | rfl | assumption) ?_
      refine X.move (by rfl) (by rfl) ?_
      refine X.gyes (by rfl) (by rfl) (by first | rfl | assumption) ?_
      refine X.move (by rfl) (by rfl) ?_
      refine X.gyes (by rfl) (by rfl) (by first | rfl | assumption) ?_
      refine X.move (by rfl) (by rfl) ?_
      refine X.gyes (by rfl) (by rfl) (by first | rfl | assumption) ?_
      obtain ⟨v7, hv7, h⟩ := bindE h
      refine X.callP (s_l16After_pc _ _ _ _ _ _ hv7) (by rfl) (by rfl) (by rfl) (by trivial) (by rfl) (by rfl) (by rfl) (by rfl) ?_
      refine X.gyes (by rfl) (by rfl) (by first | rfl | assumption) ?_
      refine X.fieldAddr_l fld32_1 (by rfl) (by rfl) ?_
      refine X.gyes (by rfl) (by rfl) (by first | rfl | assumption) ?_
      refine X.load_l shp26 (by rfl) (by rfl) (by rfl) (by rfl) (by rfl) (by rfl) ?_
      refine X.gyes (by rfl) (by rfl) (by first | rfl | assumption) ?_
      refine X.move (by rfl) (by rfl) ?_
      refine X.gyes (by rfl) (by rfl) (by first | rfl | assumption) ?_
      obtain ⟨v8, hv8, h⟩ := bindE h
      refine X.index_s elt26 (by rfl) (by rfl) (idxL_spec hv8).1 (idxL_map int hv8) (by rfl) (by rfl) (by rfl) ?_
      refine X.gyes (by rfl) (by rfl) (by first | rfl | assumption) ?_
      refine X.load_c shp3 (by rfl) (by rfl) (by rfl) (by rfl) ?_
      refine X.gyes (by rfl) (by rfl) (by first | rfl | assumption) ?_
      refine X.bin (by rfl) (by rfl) (by rfl) (by rfl) (by intro h; cases h) (by rfl) ?_
      refine X.pickT (by rfl) (by first | rfl | assumption) (by rfl) (by rfl) ?_
      refine X.move (by rfl) (by rfl) ?_
      refine X.ifG (by rfl) (by rfl) (by rfl) (fun hb9 => ?_) (fun hb9 => ?_)
      · replace h := condT hb9 h
        refine X.load_l shp28 (by rfl) (by rfl) (by rfl) (by rfl) (by rfl) (by rfl) ?_
        refine X.gyes (by rfl) (by rfl) (by first | rfl | assumption) ?_
        refine X.load_l shp32 (by rfl) (by rfl) (by rfl) (by rfl) (by rfl) (by rfl) ?_
        refine X.gyes (by rfl) (by rfl) (by first | rfl | assumption) ?_
        refine X.move (by rfl) (by rfl) ?_
        refine X.gyes (by rfl) (by rfl) (by first | rfl | assumption) ?_
        refine X.move (by rfl) (by rfl) ?_
        refine X.gyes (by rfl) (by rfl) (by first | rfl | assumption) ?_
        refine X.move (by rfl) (by rfl) ?_
        refine X.gyes (by rfl) (by rfl) (by first | rfl | assumption) ?_
        obtain ⟨v10, hv10, h⟩ := bindE h
        refine X.callP (s_l16After_pc _ _ _ _ _ _ hv10) (by rfl) (by rfl) (by rfl) (by trivial) (by rfl) (by rfl) (by rfl) (by rfl) ?_
        refine X.gyes (by rfl) (by rfl) (by first | rfl | assumption) ?_
        refine X.fieldAddr_l fld32_1 (by rfl) (by rfl) ?_
        refine X.gyes (by rfl) (by rfl) (by first | rfl | assumption) ?_
        refine X.load_l shp26 (by rfl) (by rfl) (by rfl) (by rfl) (by rfl) (by rfl) ?_
        refine X.gyes (by rfl) (by rfl) (by first | rfl | assumption) ?_
        refine X.move (by rfl) (by rfl) ?_
        refine X.gyes (by rfl) (by rfl) (by first | rfl | assumption) ?_
        obtain ⟨v11, hv11, h⟩ := bindE h
        refine X.index_s elt26 (by rfl) (by rfl) (idxL_spec hv11).1 (idxL_map int hv11) (by rfl) (by rfl) (by rfl) ?_
        refine X.gyes (by rfl) (by rfl) (by first | rfl | assumption) ?_
        refine X.load_c shp3 (by rfl) (by rfl) (by rfl) (by rfl) ?_
        refine X.gyes (by rfl) (by rfl) (by first | rfl | assumption) ?_
        refine X.bin (by rfl) (by rfl) (by rfl) (by rfl) (by intro h; cases h) (by rfl) ?_
        refine X.pickT (by rfl) (by first | rfl | assumption) (by rfl) (by rfl) ?_
        refine X.assign (by rfl) (by rfl) ?_
        cases h
        exact X.endG (by trivial) (by trivial) (by rfl) (by rfl)
      · replace h := condF hb9 h
        refine X.gno (by rfl) (by rfl) (by first | rfl | assumption) (by rfl) ?_
        refine X.gno (by rfl) (by rfl) (by first | rfl | assumption) (by rfl) ?_
        refine X.gno (by rfl) (by rfl) (by first | rfl | assumption) (by rfl) ?_
        refine X.gno (by rfl) (by rfl) (by first | rfl | assumption) (by rfl) ?_
        refine X.gno (by rfl) (by rfl) (by first | rfl | assumption) (by rfl) ?_
        refine X.gno (by rfl) (by rfl) (by first | rfl | assumption) (by rfl) ?_
        refine X.gno (by rfl) (by rfl) (by first | rfl | assumption) (by rfl) ?_
        refine X.gno (by rfl) (by rfl) (by first | rfl | assumption) (by rfl) ?_
        refine X.gno (by rfl) (by rfl) (by first | rfl | assumption) (by rfl) ?_
        refine X.gno (by rfl) (by rfl) (by first | rfl | assumption) (by rfl) ?_
        refine X.gno (by rfl) (by rfl) (by first | rfl | assumption) (by rfl) ?_
        refine X.pickF (by rfl) (by first | rfl | assumption) (by rfl) (by rfl) ?_
        refine X.assign (by rfl) (by rfl) ?_
        cases h
        exact X.endG (by trivial) (by trivial) (by rfl) (by rfl)
    · replace h := condF hb6 h
      refine X.gno (by rfl) (by rfl) (by first | rfl | assumption) (by rfl) ?_
      refine X.gno (by rfl) (by rfl) (by first | rfl | assumption) (by rfl) ?_
      refine X.gno (by rfl) (by rfl) (by first | rfl | assumption) (by rfl) ?_
      refine X.gno (by rfl) (by rfl) (by first | rfl | assumption) (by rfl) ?_
      refine X.gno (by rfl) (by rfl) (by first | rfl | assumption) (by rfl) ?_
      refine X.gno (by rfl) (by rfl) (by first | rfl | assumption) (by rfl) ?_
      refine X.gno (by rfl) (by rfl) (by first | rfl | assumption) (by rfl) ?_
      refine X.gno (by rfl) (by rfl) (by first | rfl | assumption) (by rfl) ?_
      refine X.gno (by rfl) (by rfl) (by first | rfl | assumption) (by rfl) ?_
      refine X.gno (by rfl) (by rfl) (by first | rfl | assumption) (by rfl) ?_
      refine X.gno (by rfl) (by rfl) (by first | rfl | assumption) (by rfl) ?_
      refine X.pickF (by rfl) (by first | rfl | assumption) (by rfl) (by rfl) ?_
      refine X.move (by rfl) (by rfl) ?_
      refine X.gno (by rfl) (by rfl) (by first | rfl | assumption) (by rfl) ?_
      refine X.gno (by rfl) (by rfl) (by first | rfl | assumption) (by rfl) ?_
      refine X.gno (by rfl) (by rfl) (by first | rfl | assumption) (by rfl) ?_
      refine X.gno (by rfl) (by rfl) (by first | rfl | assumption) (by rfl) ?_
      refine X.gno (by rfl) (by rfl) (by first | rfl | assumption) (by rfl) ?_
      refine X.gno (by rfl) (by rfl) (by first | rfl | assumption) (by rfl) ?_
      refine X.gno (by rfl) (by rfl) (by first | rfl | assumption) (by rfl) ?_
      refine X.gno (by rfl) (by rfl) (by first | rfl | assumption) (by rfl) ?_
      refine X.gno (by rfl) (by rfl) (by first | rfl | assumption) (by rfl) ?_
      refine X.gno (by rfl) (by rfl) (by first | rfl | assumption) (by rfl) ?_
      refine X.gno (by rfl) (by rfl) (by first | rfl | assumption) (by rfl) ?_
      refine X.gno (by rfl) (by rfl) (by first | rfl | assumption) (by rfl) ?_
      refine X.pickF (by rfl) (by first | rfl | assumption) (by rfl) (by rfl) ?_
      refine X.assign (by rfl) (by rfl) ?_
      cases h
      exact X.endG (by trivial) (by trivial) (by rfl) (by rfl)
  replace h := h2; clear h2
  cases h
  refine R.fin1 Tryz.results279 (by rfl) (by rfl) ?_
  rfl
theorem s_MinConsumption_pc (b0 : TActivity) (b1 : List Int) (b2 : Int) (r : Int) (h : s_MinConsumption b0 b1 b2 = some r) : PC Tryz.prog 321 [eTActivity b0, .slice (b1.map int), int b2] (int r) := by
  unfold s_MinConsumption at h
  refine PC.start Tryz.func321 Tryz.ntmps321 rfl ok321 rfl ?_
  refine Run.seq ?_
  refine Run.reg ?_
  refine X.box (by rfl) (by rfl) (by repeat (first | trivial | refine ⟨by first | rfl | simp [setL], ?_⟩)) (by rfl) (by rfl) (by rfl) (by rfl) ?_
  refine X.assign (by rfl) (by rfl) ?_
  refine X.nil ?_
  refine Run.seq ?_
  refine Run.reg ?_
  refine X.load_l shp50 (by rfl) (by rfl) (by rfl) (by rfl) (by rfl) (by rfl) ?_
  refine X.move (by rfl) (by rfl) ?_
  refine X.move (by rfl) (by rfl) ?_
  obtain ⟨v1, hv1, h⟩ := bindE h
  refine X.callP (s_l04Least_pc _ _ _ _ _ _ hv1) (by rfl) (by rfl) (by rfl) (by trivial) (by rfl) (by rfl) (by rfl) (by rfl) ?_
  refine X.assign (by rfl) (by rfl) ?_
  refine X.nil ?_
  cases h
  refine R.fin1 Tryz.results321 (by rfl) (by rfl) ?_
  rfl
theorem s_l17Stock_pc (b0 : TProject) (b1 : TDomain) (b2 : Int) (r : Bool) (h : s_l17Stock b0 b1 b2 = some r) : PC Tryz.prog 280 [eTProject b0, eTDomain b1, int b2] (bool r) := by
  unfold s_l17Stock at h
  refine PC.start Tryz.func280 Tryz.ntmps280 rfl ok280 rfl ?_
  refine Run.seq ?_
  refine Run.reg ?_
  refine X.box (by rfl) (by rfl) (by repeat (first | trivial | refine ⟨by first | rfl | simp [setL], ?_⟩)) (by rfl) (by rfl) (by rfl) (by rfl) ?_
  refine X.box (by rfl) (by rfl) (by repeat (first | trivial | refine ⟨by first | rfl | simp [setL], ?_⟩)) (by rfl) (by rfl) (by rfl) (by rfl) ?_
  refine X.assign (by rfl) (by rfl) ?_
  refine X.nil ?_
  refine Run.seq ?_
  refine Run.reg ?_
  refine X.assign (by rfl) (by rfl) ?_
  refine X.nil ?_
  refine Run.seq ?_
  refine Run.seq ?_
  refine Run.reg ?_
  refine X.fieldAddr_l fld28_1 (by rfl) (by rfl) ?_
  refine X.load_l shp23 (by rfl) (by rfl) (by rfl) (by rfl) (by rfl) (by rfl) ?_
  refine X.len_s elt23 (by rfl) (by exact List.length_map ..) (by rfl) ?_
  refine X.move (by rfl) (by rfl) ?_
  refine X.nil ?_
  obtain ⟨o1, ho1, h⟩ := bindE h
  refine R.join2 (β := Int) [(2, int b2), (3, .lptr 192 0)] [(192, .blk true [int b0.Deadline, .slice (b0.Activities.map eTActivity), .slice (b0.Links.map eTLink), .slice (b0.Resources.map eTResource), .slice (b0.Stocks.map int)])] (fun p15 S => (7, int p15) :: S) (fun p15 M => M) (fun p15 => p15 = o1) ?_ ?_
  · intro JJ4 hmeet3
    have hup2 := h; clear h; have h := ho1; clear ho1
    refine Run.block ?_
    refine R.bndS (t := 10) (by rfl) (fun hbd7 => ?_)
    replace hbd7 : b0.Activities.length ≤ 9223372036854775807 := by first | (rw [List.length_map] at hbd7; exact hbd7) | simp
    refine R.loop2 (β := Int × Int) [(2, int b2), (3, .lptr 192 0), (4, .lptr 256 0), (11, int (b0.Activities.length : Int))] [(192, .blk true [int b0.Deadline, .slice (b0.Activities.map eTActivity), .slice (b0.Links.map eTLink), .slice (b0.Resources.map eTResource), .slice (b0.Stocks.map int)]), (256, .blk true [.slice (b1.MinStart.map int), .slice (b1.MaxStart.map int), .slice (b1.Modes.map l_int)])] (fun bb S => (7, int bb.2) :: (12, int bb.1) :: S) (fun bb M => M) (fun n bb => 0 ≤ bb.1 ∧ bb.1 + n = (b0.Activities.length : Int) ∧ s_l17Stock_L1 b1 b2 (b0.Activities.drop bb.1.toNat) bb.1 bb.2 = some o1) b0.Activities.length (0, 0) (by repeat (first | trivial | refine ⟨by first | rfl | simp [setL], ?_⟩)) (by repeat (first | trivial | refine ⟨by first | rfl | simp [setL], ?_⟩)) (by rfl) (by rfl) ⟨Int.le_refl _, by simp, h⟩ ?_
    clear h
    rintro JJ7 n7 ⟨z8, a9⟩ hag7 ⟨hza7, hzb7, h⟩
    dsimp only at hza7 hzb7 h
    refine Run.seq ?_
    refine Run.reg ?_
    refine X.bin (by rfl) (by rfl) (by rfl) (by rfl) (by intro h; cases h) (by rfl) ?_
    refine X.nil ?_
    refine Run.seq ?_
    refine R.cond (by rfl) (fun hc12 => ?_) (fun hc12 => ?_)
    · obtain ⟨x10, xs11, hd7, hx7, hds7, hlt7⟩ := drop_atI hza7 hc12
      rw [hd7] at h
      rw [s_l17Stock_L1] at h
      refine Run.skip ?_
      refine Run.seq ?_
      refine Run.block ?_
      refine Run.seq ?_
      refine Run.reg ?_
      refine X.move (by rfl) (by rfl) ?_
      refine X.assign (by rfl) (by rfl) ?_
      refine X.nil ?_
      refine Run.draw (footOf [(2, ([192], [])), (7, ([256], []))]) mixed (by kernel_rfl) (by kernel_rfl) ?_
      refine X.move (by rfl) (by rfl) ?_
      refine X.fieldAddr_l fld28_1 (by rfl) (by rfl) ?_
      refine X.load_l shp23 (by rfl) (by rfl) (by rfl) (by rfl) (by rfl) (by rfl) ?_
      refine X.move (by rfl) (by rfl) ?_
      refine X.index_s elt23 (by rfl) (by rfl) (idxL_spec hx7).1 (idxL_map eTActivity hx7) (by rfl) (by rfl) (by rfl) ?_
      refine X.load_c shp50 (by rfl) (by rfl) (by rfl) (by rfl) ?_
      refine X.fieldAddr_l fld32_2 (by rfl) (by rfl) ?_
      refine X.load_l shp30 (by rfl) (by rfl) (by rfl) (by rfl) (by rfl) (by rfl) ?_
      refine X.move (by rfl) (by rfl) ?_
      obtain ⟨v13, hv13, h⟩ := bindE h
      refine X.index_s elt30 (by rfl) (by rfl) (idxL_spec hv13).1 (idxL_map l_int hv13) (by rfl) (by rfl) (by rfl) ?_
      refine X.load_c shp26 (by rfl) (by rfl) (by rfl) (by rfl) ?_
      refine X.move (by rfl) (by rfl) ?_
      obtain ⟨v14, hv14, h⟩ := bindE h
      refine X.callP (s_MinConsumption_pc _ _ _ _ hv14) (by rfl) (by rfl) (by rfl) (by trivial) (by rfl) (by rfl) (by rfl) (by rfl) ?_
      refine X.addW (by rfl) (by rfl) (by rfl) ?_
      refine X.assign (by rfl) (by rfl) ?_
      refine X.nil ?_
      refine Run.blk ?_
      refine Run.reg ?_
      refine X.add (by rfl) (by rfl) (by omega) (by rfl) ?_
      refine X.move (by rfl) (by rfl) ?_
      refine X.nil ?_
      exact hag7 (n7 - 1) (z8 + 1, (W (a9 + v14))) _ _ (by omega) ⟨by first | omega | (dsimp only; omega), by first | omega | (dsimp only; omega), by first | (rw [hds7]; exact h) | (dsimp only; rw [hds7]; exact h)⟩ (by trivial) (by trivial) (by rfl) (by rfl)
    · rw [drop_endI hza7 hc12] at h
      rw [s_l17Stock_L1] at h
      refine Run.exit (by rfl) ?_
      exact hmeet3 a9 _ _ (Option.some.inj h) (by trivial) (by trivial) (by rfl) (by rfl)
  rintro p15 rfl
  refine Run.seq ?_
  refine Run.reg ?_
  refine X.move (by rfl) (by rfl) ?_
  refine X.fieldAddr_l fld28_4 (by rfl) (by rfl) ?_
  refine X.load_l shp26 (by rfl) (by rfl) (by rfl) (by rfl) (by rfl) (by rfl) ?_
  refine X.move (by rfl) (by rfl) ?_
  obtain ⟨v16, hv16, h⟩ := bindE h
  refine X.index_s elt26 (by rfl) (by rfl) (idxL_spec hv16).1 (idxL_map int hv16) (by rfl) (by rfl) (by rfl) ?_
  refine X.load_c shp3 (by rfl) (by rfl) (by rfl) (by rfl) ?_
  refine X.bin (by rfl) (by rfl) (by rfl) (by rfl) (by intro h; cases h) (by rfl) ?_
  refine X.assign (by rfl) (by rfl) ?_
  refine X.nil ?_
  cases h
  refine R.fin1 Tryz.results280 (by rfl) (by rfl) ?_
  rfl
theorem s_l17Refutes_pc (b0 : TProject) (b1 : TDomain) (b2 : TRule) (r : Bool) (h : s_l17Refutes b0 b1 b2 = some r) : PC Tryz.prog 185 [eTProject b0, eTDomain b1, eTRule b2] (bool r) := by
  unfold s_l17Refutes at h
  refine PC.start Tryz.func185 Tryz.ntmps185 rfl ok185 rfl ?_
  refine Run.seq ?_
  refine Run.reg ?_
  refine X.box (by rfl) (by rfl) (by repeat (first | trivial | refine ⟨by first | rfl | simp [setL], ?_⟩)) (by rfl) (by rfl) (by rfl) (by rfl) ?_
  refine X.box (by rfl) (by rfl) (by repeat (first | trivial | refine ⟨by first | rfl | simp [setL], ?_⟩)) (by rfl) (by rfl) (by rfl) (by rfl) ?_
  refine X.box (by rfl) (by rfl) (by repeat (first | trivial | refine ⟨by first | rfl | simp [setL], ?_⟩)) (by rfl) (by rfl) (by rfl) (by rfl) ?_
  refine X.assign (by rfl) (by rfl) ?_
  refine X.nil ?_
  refine Run.seq ?_
  refine Run.seq ?_
  refine Run.reg ?_
  refine X.fieldAddr_l fld53_0 (by rfl) (by rfl) ?_
  refine X.load_l shp3 (by rfl) (by rfl) (by rfl) (by rfl) (by rfl) (by rfl) ?_
  refine X.nil ?_
  refine Run.block ?_
  refine Run.seq ?_
  refine Run.reg ?_
  refine X.bin (by rfl) (by rfl) (by rfl) (by rfl) (by intro h; cases h) (by rfl) ?_
  refine X.assign (by rfl) (by rfl) ?_
  refine X.nil ?_
  refine R.cond (by rfl) (fun hc1 => ?_) (fun hc1 => ?_)
  · replace h := condT hc1 h
    refine Run.seq ?_
    refine Run.reg ?_
    refine X.fieldAddr_l fld28_2 (by rfl) (by rfl) ?_
    refine X.load_l shp24 (by rfl) (by rfl) (by rfl) (by rfl) (by rfl) (by rfl) ?_
    refine X.fieldAddr_l fld53_1 (by rfl) (by rfl) ?_
    refine X.load_l shp3 (by rfl) (by rfl) (by rfl) (by rfl) (by rfl) (by rfl) ?_
    obtain ⟨v2, hv2, h⟩ := bindE h
    refine X.index_s elt24 (by rfl) (by rfl) (idxL_spec hv2).1 (idxL_map eTLink hv2) (by rfl) (by rfl) (by rfl) ?_
    refine X.load_c shp167 (by rfl) (by rfl) (by rfl) (by rfl) ?_
    refine X.alloc zer167 (by rfl) (by rfl) (by rfl) ?_
    refine X.store_l shp167 (by rfl) (by rfl) (by rfl) (by rfl) (by repeat (first | trivial | refine ⟨by first | rfl | simp [setL], ?_⟩)) (by rfl) (by rfl) (by rfl) ?_
    refine X.nil ?_
    refine Run.seq ?_
    refine Run.draw (footOf [(1, ([256], [])), (3, ([448], [])), (7, ([448], []))]) mixed (by kernel_rfl) (by kernel_rfl) ?_
    refine X.fieldAddr_l fld32_0 (by rfl) (by rfl) ?_
    refine X.load_l shp26 (by rfl) (by rfl) (by rfl) (by rfl) (by rfl) (by rfl) ?_
    refine X.fieldAddr_l fld167_0 (by rfl) (by rfl) ?_
    refine X.load_l shp3 (by rfl) (by rfl) (by rfl) (by rfl) (by rfl) (by rfl) ?_
    obtain ⟨v3, hv3, h⟩ := bindE h
    refine X.index_s elt26 (by rfl) (by rfl) (idxL_spec hv3).1 (idxL_map int hv3) (by rfl) (by rfl) (by rfl) ?_
    refine X.load_c shp3 (by rfl) (by rfl) (by rfl) (by rfl) ?_
    refine X.fieldAddr_l fld167_3 (by rfl) (by rfl) ?_
    refine X.load_l shp3 (by rfl) (by rfl) (by rfl) (by rfl) (by rfl) (by rfl) ?_
    refine X.addW (by rfl) (by rfl) (by rfl) ?_
    refine X.assign (by rfl) (by rfl) ?_
    refine X.nil ?_
    refine Run.seq ?_
    refine Run.seq ?_
    refine Run.reg ?_
    refine X.fieldAddr_l fld167_2 (by rfl) (by rfl) ?_
    refine X.load_l shp4 (by rfl) (by rfl) (by rfl) (by rfl) (by rfl) (by rfl) ?_
    refine X.nil ?_
    obtain ⟨o4, ho4, h⟩ := bindE h
    refine R.join2 (β := Int) [(4, .lptr 256 0), (7, .lptr 448 0)] [(256, .blk true [.slice (b1.MinStart.map int), .slice (b1.MaxStart.map int), .slice (b1.Modes.map l_int)]), (448, .blk true [int v2.From, int v2.To, bool v2.FromEnd, int v2.Lag])] (fun p10 S => (8, int p10) :: S) (fun p10 M => M) (fun p10 => p10 = o4) ?_ ?_
    · intro JJ7 hmeet6
      have hup5 := h; clear h; have h := ho4; clear ho4
      refine R.cond (by rfl) (fun hc8 => ?_) (fun hc8 => ?_)
      · replace h := condT hc8 h
        refine Run.reg ?_
        refine X.move (by rfl) (by rfl) ?_
        refine X.load_l shp28 (by rfl) (by rfl) (by rfl) (by rfl) (by rfl) (by rfl) ?_
        refine X.load_l shp32 (by rfl) (by rfl) (by rfl) (by rfl) (by rfl) (by rfl) ?_
        refine X.fieldAddr_l fld167_0 (by rfl) (by rfl) ?_
        refine X.load_l shp3 (by rfl) (by rfl) (by rfl) (by rfl) (by rfl) (by rfl) ?_
        obtain ⟨v9, hv9, h⟩ := bindE h
        refine X.callP (s_l14Short_pc _ _ _ _ hv9) (by rfl) (by rfl) (by rfl) (by trivial) (by rfl) (by rfl) (by rfl) (by rfl) ?_
        refine X.addW (by rfl) (by rfl) (by rfl) ?_
        refine X.assign (by rfl) (by rfl) ?_
        refine X.nil ?_
        exact hmeet6 (W ((W (v3 + v2.Lag)) + v9)) _ _ (Option.some.inj h) (by trivial) (by trivial) (by rfl) (by rfl)
      · replace h := condF hc8 h
        refine Run.skip ?_
        exact hmeet6 (W (v3 + v2.Lag)) _ _ (Option.some.inj h) (by trivial) (by trivial) (by rfl) (by rfl)
    rintro p10 rfl
    refine Run.seq ?_
    refine Run.reg ?_
    refine X.move (by rfl) (by rfl) ?_
    refine X.fieldAddr_l fld32_1 (by rfl) (by rfl) ?_
    refine X.load_l shp26 (by rfl) (by rfl) (by rfl) (by rfl) (by rfl) (by rfl) ?_
    refine X.fieldAddr_l fld167_1 (by rfl) (by rfl) ?_
    refine X.load_l shp3 (by rfl) (by rfl) (by rfl) (by rfl) (by rfl) (by rfl) ?_
    obtain ⟨v11, hv11, h⟩ := bindE h
    refine X.index_s elt26 (by rfl) (by rfl) (idxL_spec hv11).1 (idxL_map int hv11) (by rfl) (by rfl) (by rfl) ?_
    refine X.load_c shp3 (by rfl) (by rfl) (by rfl) (by rfl) ?_
    refine X.bin (by rfl) (by rfl) (by rfl) (by rfl) (by intro h; cases h) (by rfl) ?_
    refine X.assign (by rfl) (by rfl) ?_
    refine X.nil ?_
    cases h
    refine R.fin1 Tryz.results185 (by rfl) (by rfl) ?_
    rfl
  · replace h := condF hc1 h
    refine Run.seq ?_
    refine Run.reg ?_
    refine X.bin (by rfl) (by rfl) (by rfl) (by rfl) (by intro h; cases h) (by rfl) ?_
    refine X.assign (by rfl) (by rfl) ?_
    refine X.nil ?_
    refine R.cond (by rfl) (fun hc12 => ?_) (fun hc12 => ?_)
    · replace h := condT hc12 h
      refine Run.seq ?_
      refine Run.draw (footOf [(1, ([256], [])), (3, ([320], [])), (6, ([192], [])), (7, ([256], [])), (9, ([320], [])), (13, ([192], []))]) mixed (by kernel_rfl) (by kernel_rfl) ?_
      refine X.fieldAddr_l fld32_0 (by rfl) (by rfl) ?_
      refine X.load_l shp26 (by rfl) (by rfl) (by rfl) (by rfl) (by rfl) (by rfl) ?_
      refine X.fieldAddr_l fld53_1 (by rfl) (by rfl) ?_
      refine X.load_l shp3 (by rfl) (by rfl) (by rfl) (by rfl) (by rfl) (by rfl) ?_
      obtain ⟨v13, hv13, h⟩ := bindE h
      refine X.index_s elt26 (by rfl) (by rfl) (idxL_spec hv13).1 (idxL_map int hv13) (by rfl) (by rfl) (by rfl) ?_
      refine X.load_c shp3 (by rfl) (by rfl) (by rfl) (by rfl) ?_
      refine X.load_l shp28 (by rfl) (by rfl) (by rfl) (by rfl) (by rfl) (by rfl) ?_
      refine X.load_l shp32 (by rfl) (by rfl) (by rfl) (by rfl) (by rfl) (by rfl) ?_
      refine X.fieldAddr_l fld53_1 (by rfl) (by rfl) ?_
      refine X.load_l shp3 (by rfl) (by rfl) (by rfl) (by rfl) (by rfl) (by rfl) ?_
      obtain ⟨v14, hv14, h⟩ := bindE h
      refine X.callP (s_l14Short_pc _ _ _ _ hv14) (by rfl) (by rfl) (by rfl) (by trivial) (by rfl) (by rfl) (by rfl) (by rfl) ?_
      refine X.addW (by rfl) (by rfl) (by rfl) ?_
      refine X.fieldAddr_l fld28_0 (by rfl) (by rfl) ?_
      refine X.load_l shp3 (by rfl) (by rfl) (by rfl) (by rfl) (by rfl) (by rfl) ?_
      refine X.bin (by rfl) (by rfl) (by rfl) (by rfl) (by intro h; cases h) (by rfl) ?_
      refine X.assign (by rfl) (by rfl) ?_
      refine X.nil ?_
      cases h
      refine R.fin1 Tryz.results185 (by rfl) (by rfl) ?_
      rfl
    · replace h := condF hc12 h
      refine Run.seq ?_
      refine Run.reg ?_
      refine X.bin (by rfl) (by rfl) (by rfl) (by rfl) (by intro h; cases h) (by rfl) ?_
      refine X.assign (by rfl) (by rfl) ?_
      refine X.nil ?_
      refine R.cond (by rfl) (fun hc15 => ?_) (fun hc15 => ?_)
      · replace h := condT hc15 h
        refine Run.seq ?_
        refine Run.draw (footOf [(0, ([192], [])), (1, ([256], [])), (3, ([320], [])), (5, ([320], [])), (8, ([192], [])), (10, ([320], [])), (15, ([320], []))]) mixed (by kernel_rfl) (by kernel_rfl) ?_
        refine X.load_l shp28 (by rfl) (by rfl) (by rfl) (by rfl) (by rfl) (by rfl) ?_
        refine X.load_l shp32 (by rfl) (by rfl) (by rfl) (by rfl) (by rfl) (by rfl) ?_
        refine X.fieldAddr_l fld53_1 (by rfl) (by rfl) ?_
        refine X.load_l shp3 (by rfl) (by rfl) (by rfl) (by rfl) (by rfl) (by rfl) ?_
        refine X.fieldAddr_l fld53_2 (by rfl) (by rfl) ?_
        refine X.load_l shp3 (by rfl) (by rfl) (by rfl) (by rfl) (by rfl) (by rfl) ?_
        obtain ⟨v16, hv16, h⟩ := bindE h
        refine X.callP (s_l14Use_pc _ _ _ _ _ hv16) (by rfl) (by rfl) (by rfl) (by trivial) (by rfl) (by rfl) (by rfl) (by rfl) ?_
        refine X.fieldAddr_l fld28_3 (by rfl) (by rfl) ?_
        refine X.load_l shp25 (by rfl) (by rfl) (by rfl) (by rfl) (by rfl) (by rfl) ?_
        refine X.fieldAddr_l fld53_1 (by rfl) (by rfl) ?_
        refine X.load_l shp3 (by rfl) (by rfl) (by rfl) (by rfl) (by rfl) (by rfl) ?_
        obtain ⟨v17, hv17, h⟩ := bindE h
        refine X.index_s elt25 (by rfl) (by rfl) (idxL_spec hv17).1 (idxL_map eTResource hv17) (by rfl) (by rfl) (by rfl) ?_
        refine X.fieldAddr_c fld64_0 (by rfl) (by rfl) ?_
        refine X.load_c shp62 (by rfl) (by rfl) (by rfl) (by rfl) ?_
        refine X.fieldAddr_l fld53_2 (by rfl) (by rfl) ?_
        refine X.load_l shp3 (by rfl) (by rfl) (by rfl) (by rfl) (by rfl) (by rfl) ?_
        obtain ⟨v18, hv18, h⟩ := bindE h
        refine X.callP (s_l03At_pc _ _ _ hv18) (by rfl) (by rfl) (by rfl) (by trivial) (by rfl) (by rfl) (by rfl) (by rfl) ?_
        refine X.bin (by rfl) (by rfl) (by rfl) (by rfl) (by intro h; cases h) (by rfl) ?_
        refine X.assign (by rfl) (by rfl) ?_
        refine X.nil ?_
        cases h
        refine R.fin1 Tryz.results185 (by rfl) (by rfl) ?_
        rfl
      · replace h := condF hc15 h
        refine Run.seq ?_
        refine Run.reg ?_
        refine X.bin (by rfl) (by rfl) (by rfl) (by rfl) (by intro h; cases h) (by rfl) ?_
        refine X.assign (by rfl) (by rfl) ?_
        refine X.nil ?_
        refine R.cond (by rfl) (fun hc19 => ?_) (fun hc19 => ?_)
        · replace h := condT hc19 h
          refine Run.seq ?_
          refine Run.reg ?_
          refine X.load_l shp28 (by rfl) (by rfl) (by rfl) (by rfl) (by rfl) (by rfl) ?_
          refine X.load_l shp32 (by rfl) (by rfl) (by rfl) (by rfl) (by rfl) (by rfl) ?_
          refine X.fieldAddr_l fld53_1 (by rfl) (by rfl) ?_
          refine X.load_l shp3 (by rfl) (by rfl) (by rfl) (by rfl) (by rfl) (by rfl) ?_
          refine X.fieldAddr_l fld53_2 (by rfl) (by rfl) ?_
          refine X.load_l shp3 (by rfl) (by rfl) (by rfl) (by rfl) (by rfl) (by rfl) ?_
          refine X.fieldAddr_l fld53_3 (by rfl) (by rfl) ?_
          refine X.load_l shp3 (by rfl) (by rfl) (by rfl) (by rfl) (by rfl) (by rfl) ?_
          obtain ⟨v20, hv20, h⟩ := bindE h
          refine X.callP (s_l15Over_pc _ _ _ _ _ _ hv20) (by rfl) (by rfl) (by rfl) (by trivial) (by rfl) (by rfl) (by rfl) (by rfl) ?_
          refine X.assign (by rfl) (by rfl) ?_
          refine X.nil ?_
          cases h
          refine R.fin1 Tryz.results185 (by rfl) (by rfl) ?_
          rfl
        · replace h := condF hc19 h
          refine Run.seq ?_
          refine Run.reg ?_
          refine X.bin (by rfl) (by rfl) (by rfl) (by rfl) (by intro h; cases h) (by rfl) ?_
          refine X.assign (by rfl) (by rfl) ?_
          refine X.nil ?_
          refine R.cond (by rfl) (fun hc21 => ?_) (fun hc21 => ?_)
          · replace h := condT hc21 h
            refine Run.seq ?_
            refine Run.reg ?_
            refine X.load_l shp28 (by rfl) (by rfl) (by rfl) (by rfl) (by rfl) (by rfl) ?_
            refine X.load_l shp32 (by rfl) (by rfl) (by rfl) (by rfl) (by rfl) (by rfl) ?_
            refine X.fieldAddr_l fld53_1 (by rfl) (by rfl) ?_
            refine X.load_l shp3 (by rfl) (by rfl) (by rfl) (by rfl) (by rfl) (by rfl) ?_
            refine X.fieldAddr_l fld53_2 (by rfl) (by rfl) ?_
            refine X.load_l shp3 (by rfl) (by rfl) (by rfl) (by rfl) (by rfl) (by rfl) ?_
            refine X.fieldAddr_l fld53_3 (by rfl) (by rfl) ?_
            refine X.load_l shp3 (by rfl) (by rfl) (by rfl) (by rfl) (by rfl) (by rfl) ?_
            obtain ⟨v22, hv22, h⟩ := bindE h
            refine X.callP (s_l16Jam_pc _ _ _ _ _ _ hv22) (by rfl) (by rfl) (by rfl) (by trivial) (by rfl) (by rfl) (by rfl) (by rfl) ?_
            refine X.assign (by rfl) (by rfl) ?_
            refine X.nil ?_
            cases h
            refine R.fin1 Tryz.results185 (by rfl) (by rfl) ?_
            rfl
          · replace h := condF hc21 h
            refine Run.skip ?_
            refine Run.blk ?_
            refine Run.seq ?_
            refine Run.reg ?_
            refine X.load_l shp28 (by rfl) (by rfl) (by rfl) (by rfl) (by rfl) (by rfl) ?_
            refine X.load_l shp32 (by rfl) (by rfl) (by rfl) (by rfl) (by rfl) (by rfl) ?_
            refine X.fieldAddr_l fld53_1 (by rfl) (by rfl) ?_
            refine X.load_l shp3 (by rfl) (by rfl) (by rfl) (by rfl) (by rfl) (by rfl) ?_
            obtain ⟨v23, hv23, h⟩ := bindE h
            refine X.callP (s_l17Stock_pc _ _ _ _ hv23) (by rfl) (by rfl) (by rfl) (by trivial) (by rfl) (by rfl) (by rfl) (by rfl) ?_
            refine X.assign (by rfl) (by rfl) ?_
            refine X.nil ?_
            cases h
            refine R.fin1 Tryz.results185 (by rfl) (by rfl) ?_
            rfl
theorem s_Refutes_pc (b0 : TProject) (b1 : TDomain) (b2 : TRule) (r : Bool) (h : s_Refutes b0 b1 b2 = some r) : PC Tryz.prog 82 [eTProject b0, eTDomain b1, eTRule b2] (bool r) := by
  unfold s_Refutes at h
  refine PC.start Tryz.func82 Tryz.ntmps82 rfl ok82 rfl ?_
  refine Run.seq ?_
  refine Run.reg ?_
  refine X.box (by rfl) (by rfl) (by repeat (first | trivial | refine ⟨by first | rfl | simp [setL], ?_⟩)) (by rfl) (by rfl) (by rfl) (by rfl) ?_
  refine X.box (by rfl) (by rfl) (by repeat (first | trivial | refine ⟨by first | rfl | simp [setL], ?_⟩)) (by rfl) (by rfl) (by rfl) (by rfl) ?_
  refine X.box (by rfl) (by rfl) (by repeat (first | trivial | refine ⟨by first | rfl | simp [setL], ?_⟩)) (by rfl) (by rfl) (by rfl) (by rfl) ?_
  refine X.assign (by rfl) (by rfl) ?_
  refine X.nil ?_
  refine Run.seq ?_
  refine Run.seq ?_
  refine Run.reg ?_
  refine X.load_l shp28 (by rfl) (by rfl) (by rfl) (by rfl) (by rfl) (by rfl) ?_
  refine X.load_l shp32 (by rfl) (by rfl) (by rfl) (by rfl) (by rfl) (by rfl) ?_
  obtain ⟨v1, hv1, h⟩ := bindE h
  refine X.callP (s_DomainForm_pc _ _ _ hv1) (by rfl) (by rfl) (by rfl) (by trivial) (by rfl) (by rfl) (by rfl) (by rfl) ?_
  refine X.un (by rfl) (by rfl) (by rfl) ?_
  refine X.nil ?_
  refine R.cond (by rfl) (fun hc2 => ?_) (fun hc2 => ?_)
  · replace h := condT hc2 h
    refine Run.seq ?_
    refine Run.reg ?_
    refine X.assign (by rfl) (by rfl) ?_
    refine X.nil ?_
    cases h
    refine R.fin1 Tryz.results82 (by rfl) (by rfl) ?_
    rfl
  · replace h := condF hc2 h
    refine Run.skip ?_
    refine Run.seq ?_
    obtain ⟨v3, hv3, h⟩ := bindE h
    obtain ⟨e4, he4, h2⟩ := bindE h
    refine R.regG [(6, bool e4)] [] ?_ ?_
    · clear h; have h := he4; clear he4 h2
      refine X.load_l shp32 (by rfl) (by rfl) (by rfl) (by rfl) (by rfl) (by rfl) ?_
      refine X.callP (s_DomainEmpty_pc _ _ hv3) (by rfl) (by rfl) (by rfl) (by trivial) (by rfl) (by rfl) (by rfl) (by rfl) ?_
      refine X.move (by rfl) (by rfl) ?_
      refine X.ifG (by rfl) (by rfl) (by rfl) (fun hb5 => ?_) (fun hb5 => ?_)
      · replace h := condF hb5 h
        refine X.load_l shp28 (by rfl) (by rfl) (by rfl) (by rfl) (by rfl) (by rfl) ?_
        refine X.gyes (by rfl) (by rfl) (by first | rfl | assumption) ?_
        refine X.load_l shp53 (by rfl) (by rfl) (by rfl) (by rfl) (by rfl) (by rfl) ?_
        refine X.gyes (by rfl) (by rfl) (by first | rfl | assumption) ?_
        obtain ⟨v6, hv6, h⟩ := bindE h
        refine X.callP (s_RuleOk_pc _ _ _ hv6) (by rfl) (by rfl) (by rfl) (by trivial) (by rfl) (by rfl) (by rfl) (by rfl) ?_
        refine X.gyes (by rfl) (by rfl) (by first | rfl | assumption) ?_
        refine X.move (by rfl) (by rfl) ?_
        refine X.ifG (by rfl) (by rfl) (by rfl) (fun hb7 => ?_) (fun hb7 => ?_)
        · replace h := condT hb7 h
          refine X.load_l shp28 (by rfl) (by rfl) (by rfl) (by rfl) (by rfl) (by rfl) ?_
          refine X.gyes (by rfl) (by rfl) (by first | rfl | assumption) ?_
          refine X.load_l shp32 (by rfl) (by rfl) (by rfl) (by rfl) (by rfl) (by rfl) ?_
          refine X.gyes (by rfl) (by rfl) (by first | rfl | assumption) ?_
          refine X.load_l shp53 (by rfl) (by rfl) (by rfl) (by rfl) (by rfl) (by rfl) ?_
          refine X.gyes (by rfl) (by rfl) (by first | rfl | assumption) ?_
          obtain ⟨v8, hv8, h⟩ := bindE h
          refine X.callP (s_l17Refutes_pc _ _ _ _ hv8) (by rfl) (by rfl) (by rfl) (by trivial) (by rfl) (by rfl) (by rfl) (by rfl) ?_
          refine X.gyes (by rfl) (by rfl) (by first | rfl | assumption) ?_
          refine X.pickT (by rfl) (by first | rfl | assumption) (by rfl) (by rfl) ?_
          refine X.pickF (by rfl) (by first | rfl | assumption) (by rfl) (by rfl) ?_
          refine X.assign (by rfl) (by rfl) ?_
          cases h
          exact X.endG (by trivial) (by trivial) (by rfl) (by rfl)
        · replace h := condF hb7 h
          refine X.gno (by rfl) (by rfl) (by first | rfl | assumption) (by rfl) ?_
          refine X.gno (by rfl) (by rfl) (by first | rfl | assumption) (by rfl) ?_
          refine X.gno (by rfl) (by rfl) (by first | rfl | assumption) (by rfl) ?_
          refine X.gyes (by rfl) (by rfl) (by first | rfl | assumption) ?_
          refine X.pickF (by rfl) (by first | rfl | assumption) (by rfl) (by rfl) ?_
          refine X.pickF (by rfl) (by first | rfl | assumption) (by rfl) (by rfl) ?_
          refine X.assign (by rfl) (by rfl) ?_
          cases h
          exact X.endG (by trivial) (by trivial) (by rfl) (by rfl)
      · replace h := condT hb5 h
        refine X.gno (by rfl) (by rfl) (by first | rfl | assumption) (by rfl) ?_
        refine X.gno (by rfl) (by rfl) (by first | rfl | assumption) (by rfl) ?_
        refine X.gno (by rfl) (by rfl) (by first | rfl | assumption) (by rfl) ?_
        refine X.gU (by rfl) (by rfl) (by rfl) ?_
        refine X.gU (by rfl) (by rfl) (by rfl) ?_
        refine X.gU (by rfl) (by rfl) (by rfl) ?_
        refine X.gU (by rfl) (by rfl) (by rfl) ?_
        refine X.gno (by rfl) (by rfl) (by first | rfl | assumption) (by rfl) ?_
        refine X.pickT (by rfl) (by first | rfl | assumption) (by rfl) (by rfl) ?_
        refine X.assign (by rfl) (by rfl) ?_
        cases h
        exact X.endG (by trivial) (by trivial) (by rfl) (by rfl)
    replace h := h2; clear h2
    cases h
    refine R.fin1 Tryz.results82 (by rfl) (by rfl) ?_
    rfl
theorem i_Project_hasStock_pc (b0 : TProject) (b1 : Int) (r : Bool) (h : i_Project_hasStock b0 b1 = some r) : PC Tryz.prog 240 [eTProject b0, int b1] (bool r) := by
  unfold i_Project_hasStock at h
  refine PC.start Tryz.func240 Tryz.ntmps240 rfl ok240 rfl ?_
  refine Run.seq ?_
  refine Run.reg ?_
  refine X.box (by rfl) (by rfl) (by repeat (first | trivial | refine ⟨by first | rfl | simp [setL], ?_⟩)) (by rfl) (by rfl) (by rfl) (by rfl) ?_
  refine X.assign (by rfl) (by rfl) ?_
  refine X.nil ?_
  refine Run.seq ?_
  refine Run.reg ?_
  refine X.move (by rfl) (by rfl) ?_
  refine X.fieldAddr_l fld28_4 (by rfl) (by rfl) ?_
  refine X.load_l shp26 (by rfl) (by rfl) (by rfl) (by rfl) (by rfl) (by rfl) ?_
  refine X.len_s elt26 (by rfl) (by exact List.length_map ..) (by rfl) ?_
  refine X.subW (by rfl) (by rfl) (by rfl) ?_
  obtain ⟨v1, hv1, h⟩ := bindE h
  refine X.callP (i_within_pc _ _ _ _ hv1) (by rfl) (by rfl) (by rfl) (by trivial) (by rfl) (by rfl) (by rfl) (by rfl) ?_
  refine X.assign (by rfl) (by rfl) ?_
  refine X.nil ?_
  cases h
  refine R.fin1 Tryz.results240 (by rfl) (by rfl) ?_
  rfl
theorem i_RuleOk_pc (b0 : TProject) (b1 : TRule) (r : Bool) (h : i_RuleOk b0 b1 = some r) : PC Tryz.prog 127 [eTProject b0, eTRule b1] (bool r) := by
  unfold i_RuleOk at h
  refine PC.start Tryz.func127 Tryz.ntmps127 rfl ok127 rfl ?_
  refine Run.seq ?_
  refine Run.reg ?_
  refine X.box (by rfl) (by rfl) (by repeat (first | trivial | refine ⟨by first | rfl | simp [setL], ?_⟩)) (by rfl) (by rfl) (by rfl) (by rfl) ?_
  refine X.box (by rfl) (by rfl) (by repeat (first | trivial | refine ⟨by first | rfl | simp [setL], ?_⟩)) (by rfl) (by rfl) (by rfl) (by rfl) ?_
  refine X.assign (by rfl) (by rfl) ?_
  refine X.nil ?_
  refine Run.seq ?_
  refine Run.seq ?_
  refine Run.reg ?_
  refine X.load_l shp28 (by rfl) (by rfl) (by rfl) (by rfl) (by rfl) (by rfl) ?_
  obtain ⟨v1, hv1, h⟩ := bindE h
  refine X.callP (i_ProjectOk_pc _ _ hv1) (by rfl) (by rfl) (by rfl) (by trivial) (by rfl) (by rfl) (by rfl) (by rfl) ?_
  refine X.un (by rfl) (by rfl) (by rfl) ?_
  refine X.nil ?_
  refine R.cond (by rfl) (fun hc2 => ?_) (fun hc2 => ?_)
  · replace h := condT hc2 h
    refine Run.seq ?_
    refine Run.reg ?_
    refine X.assign (by rfl) (by rfl) ?_
    refine X.nil ?_
    cases h
    refine R.fin1 Tryz.results127 (by rfl) (by rfl) ?_
    rfl
  · replace h := condF hc2 h
    refine Run.skip ?_
    refine Run.seq ?_
    refine Run.seq ?_
    refine Run.reg ?_
    refine X.fieldAddr_l fld53_0 (by rfl) (by rfl) ?_
    refine X.load_l shp3 (by rfl) (by rfl) (by rfl) (by rfl) (by rfl) (by rfl) ?_
    refine X.nil ?_
    refine Run.block ?_
    refine Run.seq ?_
    refine Run.reg ?_
    refine X.bin (by rfl) (by rfl) (by rfl) (by rfl) (by intro h; cases h) (by rfl) ?_
    refine X.assign (by rfl) (by rfl) ?_
    refine X.nil ?_
    refine R.cond (by rfl) (fun hc3 => ?_) (fun hc3 => ?_)
    · replace h := condT hc3 h
      refine Run.seq ?_
      obtain ⟨v4, hv4, h⟩ := bindE h
      obtain ⟨e5, he5, h2⟩ := bindE h
      refine R.regG [(4, bool e5)] [] ?_ ?_
      · clear h; have h := he5; clear he5 h2
        refine X.fieldAddr_l fld53_1 (by rfl) (by rfl) ?_
        refine X.load_l shp3 (by rfl) (by rfl) (by rfl) (by rfl) (by rfl) (by rfl) ?_
        refine X.fieldAddr_l fld28_2 (by rfl) (by rfl) ?_
        refine X.load_l shp24 (by rfl) (by rfl) (by rfl) (by rfl) (by rfl) (by rfl) ?_
        refine X.len_s elt24 (by rfl) (by exact List.length_map ..) (by rfl) ?_
        refine X.subW (by rfl) (by rfl) (by rfl) ?_
        refine X.callP (i_within_pc _ _ _ _ hv4) (by rfl) (by rfl) (by rfl) (by trivial) (by rfl) (by rfl) (by rfl) (by rfl) ?_
        refine X.move (by rfl) (by rfl) ?_
        refine X.ifG (by rfl) (by rfl) (by rfl) (fun hb6 => ?_) (fun hb6 => ?_)
        · replace h := condT hb6 h
          refine X.fieldAddr_l fld53_2 (by rfl) (by rfl) ?_
          refine X.gyes (by rfl) (by rfl) (by first | rfl | assumption) ?_
          refine X.load_l shp3 (by rfl) (by rfl) (by rfl) (by rfl) (by rfl) (by rfl) ?_
          refine X.gyes (by rfl) (by rfl) (by first | rfl | assumption) ?_
          refine X.bin (by rfl) (by rfl) (by rfl) (by rfl) (by intro h; cases h) (by rfl) ?_
          refine X.pickT (by rfl) (by first | rfl | assumption) (by rfl) (by rfl) ?_
          refine X.move (by rfl) (by rfl) ?_
          refine X.ifG (by rfl) (by rfl) (by rfl) (fun hb7 => ?_) (fun hb7 => ?_)
          · replace h := condT hb7 h
            refine X.fieldAddr_l fld53_3 (by rfl) (by rfl) ?_
            refine X.gyes (by rfl) (by rfl) (by first | rfl | assumption) ?_
            refine X.load_l shp3 (by rfl) (by rfl) (by rfl) (by rfl) (by rfl) (by rfl) ?_
            refine X.gyes (by rfl) (by rfl) (by first | rfl | assumption) ?_
            refine X.bin (by rfl) (by rfl) (by rfl) (by rfl) (by intro h; cases h) (by rfl) ?_
            refine X.pickT (by rfl) (by first | rfl | assumption) (by rfl) (by rfl) ?_
            refine X.assign (by rfl) (by rfl) ?_
            cases h
            exact X.endG (by trivial) (by trivial) (by rfl) (by rfl)
          · replace h := condF hb7 h
            refine X.gno (by rfl) (by rfl) (by first | rfl | assumption) (by rfl) ?_
            refine X.gno (by rfl) (by rfl) (by first | rfl | assumption) (by rfl) ?_
            refine X.pickF (by rfl) (by first | rfl | assumption) (by rfl) (by rfl) ?_
            refine X.assign (by rfl) (by rfl) ?_
            cases h
            exact X.endG (by trivial) (by trivial) (by rfl) (by rfl)
        · replace h := condF hb6 h
          refine X.gno (by rfl) (by rfl) (by first | rfl | assumption) (by rfl) ?_
          refine X.gno (by rfl) (by rfl) (by first | rfl | assumption) (by rfl) ?_
          refine X.pickF (by rfl) (by first | rfl | assumption) (by rfl) (by rfl) ?_
          refine X.move (by rfl) (by rfl) ?_
          refine X.gno (by rfl) (by rfl) (by first | rfl | assumption) (by rfl) ?_
          refine X.gno (by rfl) (by rfl) (by first | rfl | assumption) (by rfl) ?_
          refine X.gno (by rfl) (by rfl) (by first | rfl | assumption) (by rfl) ?_
          refine X.pickF (by rfl) (by first | rfl | assumption) (by rfl) (by rfl) ?_
          refine X.assign (by rfl) (by rfl) ?_
          cases h
          exact X.endG (by trivial) (by trivial) (by rfl) (by rfl)
      replace h := h2; clear h2
      cases h
      refine R.fin1 Tryz.results127 (by rfl) (by rfl) ?_
      rfl
    · replace h := condF hc3 h
      refine Run.seq ?_
      refine Run.reg ?_
      refine X.bin (by rfl) (by rfl) (by rfl) (by rfl) (by intro h; cases h) (by rfl) ?_
      refine X.assign (by rfl) (by rfl) ?_
      refine X.nil ?_
      refine R.cond (by rfl) (fun hc8 => ?_) (fun hc8 => ?_)
      · replace h := condT hc8 h
        refine Run.seq ?_
        obtain ⟨v9, hv9, h⟩ := bindE h
        obtain ⟨e10, he10, h2⟩ := bindE h
        refine R.regG [(4, bool e10)] [] ?_ ?_
        · clear h; have h := he10; clear he10 h2
          refine X.load_l shp28 (by rfl) (by rfl) (by rfl) (by rfl) (by rfl) (by rfl) ?_
          refine X.fieldAddr_l fld53_1 (by rfl) (by rfl) ?_
          refine X.load_l shp3 (by rfl) (by rfl) (by rfl) (by rfl) (by rfl) (by rfl) ?_
          refine X.callP (i_Project_hasActivity_pc _ _ _ hv9) (by rfl) (by rfl) (by rfl) (by trivial) (by rfl) (by rfl) (by rfl) (by rfl) ?_
          refine X.move (by rfl) (by rfl) ?_
          refine X.ifG (by rfl) (by rfl) (by rfl) (fun hb11 => ?_) (fun hb11 => ?_)
          · replace h := condT hb11 h
            refine X.fieldAddr_l fld53_2 (by rfl) (by rfl) ?_
            refine X.gyes (by rfl) (by rfl) (by first | rfl | assumption) ?_
            refine X.load_l shp3 (by rfl) (by rfl) (by rfl) (by rfl) (by rfl) (by rfl) ?_
            refine X.gyes (by rfl) (by rfl) (by first | rfl | assumption) ?_
            refine X.bin (by rfl) (by rfl) (by rfl) (by rfl) (by intro h; cases h) (by rfl) ?_
            refine X.pickT (by rfl) (by first | rfl | assumption) (by rfl) (by rfl) ?_
            refine X.move (by rfl) (by rfl) ?_
            refine X.ifG (by rfl) (by rfl) (by rfl) (fun hb12 => ?_) (fun hb12 => ?_)
            · replace h := condT hb12 h
              refine X.fieldAddr_l fld53_3 (by rfl) (by rfl) ?_
              refine X.gyes (by rfl) (by rfl) (by first | rfl | assumption) ?_
              refine X.load_l shp3 (by rfl) (by rfl) (by rfl) (by rfl) (by rfl) (by rfl) ?_
              refine X.gyes (by rfl) (by rfl) (by first | rfl | assumption) ?_
              refine X.bin (by rfl) (by rfl) (by rfl) (by rfl) (by intro h; cases h) (by rfl) ?_
              refine X.pickT (by rfl) (by first | rfl | assumption) (by rfl) (by rfl) ?_
              refine X.assign (by rfl) (by rfl) ?_
              cases h
              exact X.endG (by trivial) (by trivial) (by rfl) (by rfl)
            · replace h := condF hb12 h
              refine X.gno (by rfl) (by rfl) (by first | rfl | assumption) (by rfl) ?_
              refine X.gno (by rfl) (by rfl) (by first | rfl | assumption) (by rfl) ?_
              refine X.pickF (by rfl) (by first | rfl | assumption) (by rfl) (by rfl) ?_
              refine X.assign (by rfl) (by rfl) ?_
              cases h
              exact X.endG (by trivial) (by trivial) (by rfl) (by rfl)
          · replace h := condF hb11 h
            refine X.gno (by rfl) (by rfl) (by first | rfl | assumption) (by rfl) ?_
            refine X.gno (by rfl) (by rfl) (by first | rfl | assumption) (by rfl) ?_
            refine X.pickF (by rfl) (by first | rfl | assumption) (by rfl) (by rfl) ?_
            refine X.move (by rfl) (by rfl) ?_
            refine X.gno (by rfl) (by rfl) (by first | rfl | assumption) (by rfl) ?_
            refine X.gno (by rfl) (by rfl) (by first | rfl | assumption) (by rfl) ?_
            refine X.gno (by rfl) (by rfl) (by first | rfl | assumption) (by rfl) ?_
            refine X.pickF (by rfl) (by first | rfl | assumption) (by rfl) (by rfl) ?_
            refine X.assign (by rfl) (by rfl) ?_
            cases h
            exact X.endG (by trivial) (by trivial) (by rfl) (by rfl)
        replace h := h2; clear h2
        cases h
        refine R.fin1 Tryz.results127 (by rfl) (by rfl) ?_
        rfl
      · replace h := condF hc8 h
        refine Run.seq ?_
        refine Run.reg ?_
        refine X.bin (by rfl) (by rfl) (by rfl) (by rfl) (by intro h; cases h) (by rfl) ?_
        refine X.assign (by rfl) (by rfl) ?_
        refine X.nil ?_
        refine R.cond (by rfl) (fun hc13 => ?_) (fun hc13 => ?_)
        · replace h := condT hc13 h
          refine Run.seq ?_
          obtain ⟨v14, hv14, h⟩ := bindE h
          obtain ⟨e15, he15, h2⟩ := bindE h
          refine R.regG [(4, bool e15)] [] ?_ ?_
          · clear h; have h := he15; clear he15 h2
            refine X.load_l shp28 (by rfl) (by rfl) (by rfl) (by rfl) (by rfl) (by rfl) ?_
            refine X.fieldAddr_l fld53_1 (by rfl) (by rfl) ?_
            refine X.load_l shp3 (by rfl) (by rfl) (by rfl) (by rfl) (by rfl) (by rfl) ?_
            refine X.callP (i_Project_hasResource_pc _ _ _ hv14) (by rfl) (by rfl) (by rfl) (by trivial) (by rfl) (by rfl) (by rfl) (by rfl) ?_
            refine X.move (by rfl) (by rfl) ?_
            refine X.ifG (by rfl) (by rfl) (by rfl) (fun hb16 => ?_) (fun hb16 => ?_)
            · replace h := condT hb16 h
              refine X.fieldAddr_l fld53_2 (by rfl) (by rfl) ?_
              refine X.gyes (by rfl) (by rfl) (by first | rfl | assumption) ?_
              refine X.load_l shp3 (by rfl) (by rfl) (by rfl) (by rfl) (by rfl) (by rfl) ?_
              refine X.gyes (by rfl) (by rfl) (by first | rfl | assumption) ?_
              obtain ⟨v17, hv17, h⟩ := bindE h
              refine X.callP (i_isTime_pc _ _ hv17) (by rfl) (by rfl) (by rfl) (by trivial) (by rfl) (by rfl) (by rfl) (by rfl) ?_
              refine X.pickT (by rfl) (by first | rfl | assumption) (by rfl) (by rfl) ?_
              refine X.move (by rfl) (by rfl) ?_
              refine X.ifG (by rfl) (by rfl) (by rfl) (fun hb18 => ?_) (fun hb18 => ?_)
              · replace h := condT hb18 h
                refine X.fieldAddr_l fld53_3 (by rfl) (by rfl) ?_
                refine X.gyes (by rfl) (by rfl) (by first | rfl | assumption) ?_
                refine X.load_l shp3 (by rfl) (by rfl) (by rfl) (by rfl) (by rfl) (by rfl) ?_
                refine X.gyes (by rfl) (by rfl) (by first | rfl | assumption) ?_
                refine X.bin (by rfl) (by rfl) (by rfl) (by rfl) (by intro h; cases h) (by rfl) ?_
                refine X.pickT (by rfl) (by first | rfl | assumption) (by rfl) (by rfl) ?_
                refine X.assign (by rfl) (by rfl) ?_
                cases h
                exact X.endG (by trivial) (by trivial) (by rfl) (by rfl)
              · replace h := condF hb18 h
                refine X.gno (by rfl) (by rfl) (by first | rfl | assumption) (by rfl) ?_
                refine X.gno (by rfl) (by rfl) (by first | rfl | assumption) (by rfl) ?_
                refine X.pickF (by rfl) (by first | rfl | assumption) (by rfl) (by rfl) ?_
                refine X.assign (by rfl) (by rfl) ?_
                cases h
                exact X.endG (by trivial) (by trivial) (by rfl) (by rfl)
            · replace h := condF hb16 h
              refine X.gno (by rfl) (by rfl) (by first | rfl | assumption) (by rfl) ?_
              refine X.gno (by rfl) (by rfl) (by first | rfl | assumption) (by rfl) ?_
              refine X.pickF (by rfl) (by first | rfl | assumption) (by rfl) (by rfl) ?_
              refine X.move (by rfl) (by rfl) ?_
              refine X.gno (by rfl) (by rfl) (by first | rfl | assumption) (by rfl) ?_
              refine X.gno (by rfl) (by rfl) (by first | rfl | assumption) (by rfl) ?_
              refine X.gno (by rfl) (by rfl) (by first | rfl | assumption) (by rfl) ?_
              refine X.pickF (by rfl) (by first | rfl | assumption) (by rfl) (by rfl) ?_
              refine X.assign (by rfl) (by rfl) ?_
              cases h
              exact X.endG (by trivial) (by trivial) (by rfl) (by rfl)
          replace h := h2; clear h2
          cases h
          refine R.fin1 Tryz.results127 (by rfl) (by rfl) ?_
          rfl
        · replace h := condF hc13 h
          refine Run.seq ?_
          refine Run.reg ?_
          refine X.bin (by rfl) (by rfl) (by rfl) (by rfl) (by intro h; cases h) (by rfl) ?_
          refine X.assign (by rfl) (by rfl) ?_
          refine X.nil ?_
          refine R.cond (by rfl) (fun hc19 => ?_) (fun hc19 => ?_)
          · replace h := condT hc19 h
            refine Run.seq ?_
            obtain ⟨v20, hv20, h⟩ := bindE h
            obtain ⟨e21, he21, h2⟩ := bindE h
            refine R.regG [(4, bool e21)] [] ?_ ?_
            · clear h; have h := he21; clear he21 h2
              refine X.load_l shp28 (by rfl) (by rfl) (by rfl) (by rfl) (by rfl) (by rfl) ?_
              refine X.fieldAddr_l fld53_1 (by rfl) (by rfl) ?_
              refine X.load_l shp3 (by rfl) (by rfl) (by rfl) (by rfl) (by rfl) (by rfl) ?_
              refine X.callP (i_Project_hasResource_pc _ _ _ hv20) (by rfl) (by rfl) (by rfl) (by trivial) (by rfl) (by rfl) (by rfl) (by rfl) ?_
              refine X.move (by rfl) (by rfl) ?_
              refine X.ifG (by rfl) (by rfl) (by rfl) (fun hb22 => ?_) (fun hb22 => ?_)
              · replace h := condT hb22 h
                refine X.fieldAddr_l fld53_2 (by rfl) (by rfl) ?_
                refine X.gyes (by rfl) (by rfl) (by first | rfl | assumption) ?_
                refine X.load_l shp3 (by rfl) (by rfl) (by rfl) (by rfl) (by rfl) (by rfl) ?_
                refine X.gyes (by rfl) (by rfl) (by first | rfl | assumption) ?_
                obtain ⟨v23, hv23, h⟩ := bindE h
                refine X.callP (i_isTime_pc _ _ hv23) (by rfl) (by rfl) (by rfl) (by trivial) (by rfl) (by rfl) (by rfl) (by rfl) ?_
                refine X.pickT (by rfl) (by first | rfl | assumption) (by rfl) (by rfl) ?_
                refine X.move (by rfl) (by rfl) ?_
                refine X.ifG (by rfl) (by rfl) (by rfl) (fun hb24 => ?_) (fun hb24 => ?_)
                · replace h := condT hb24 h
                  refine X.fieldAddr_l fld53_3 (by rfl) (by rfl) ?_
                  refine X.gyes (by rfl) (by rfl) (by first | rfl | assumption) ?_
                  refine X.load_l shp3 (by rfl) (by rfl) (by rfl) (by rfl) (by rfl) (by rfl) ?_
                  refine X.gyes (by rfl) (by rfl) (by first | rfl | assumption) ?_
                  obtain ⟨v25, hv25, h⟩ := bindE h
                  refine X.callP (i_isTime_pc _ _ hv25) (by rfl) (by rfl) (by rfl) (by trivial) (by rfl) (by rfl) (by rfl) (by rfl) ?_
                  refine X.pickT (by rfl) (by first | rfl | assumption) (by rfl) (by rfl) ?_
                  refine X.move (by rfl) (by rfl) ?_
                  refine X.ifG (by rfl) (by rfl) (by rfl) (fun hb26 => ?_) (fun hb26 => ?_)
                  · replace h := condT hb26 h
                    refine X.fieldAddr_l fld53_2 (by rfl) (by rfl) ?_
                    refine X.gyes (by rfl) (by rfl) (by first | rfl | assumption) ?_
                    refine X.load_l shp3 (by rfl) (by rfl) (by rfl) (by rfl) (by rfl) (by rfl) ?_
                    refine X.gyes (by rfl) (by rfl) (by first | rfl | assumption) ?_
                    refine X.fieldAddr_l fld53_3 (by rfl) (by rfl) ?_
                    refine X.gyes (by rfl) (by rfl) (by first | rfl | assumption) ?_
                    refine X.load_l shp3 (by rfl) (by rfl) (by rfl) (by rfl) (by rfl) (by rfl) ?_
                    refine X.gyes (by rfl) (by rfl) (by first | rfl | assumption) ?_
                    refine X.bin (by rfl) (by rfl) (by rfl) (by rfl) (by intro h; cases h) (by rfl) ?_
                    refine X.pickT (by rfl) (by first | rfl | assumption) (by rfl) (by rfl) ?_
                    refine X.assign (by rfl) (by rfl) ?_
                    cases h
                    exact X.endG (by trivial) (by trivial) (by rfl) (by rfl)
                  · replace h := condF hb26 h
                    refine X.gno (by rfl) (by rfl) (by first | rfl | assumption) (by rfl) ?_
                    refine X.gno (by rfl) (by rfl) (by first | rfl | assumption) (by rfl) ?_
                    refine X.gno (by rfl) (by rfl) (by first | rfl | assumption) (by rfl) ?_
                    refine X.gno (by rfl) (by rfl) (by first | rfl | assumption) (by rfl) ?_
                    refine X.pickF (by rfl) (by first | rfl | assumption) (by rfl) (by rfl) ?_
                    refine X.assign (by rfl) (by rfl) ?_
                    cases h
                    exact X.endG (by trivial) (by trivial) (by rfl) (by rfl)
                · replace h := condF hb24 h
                  refine X.gno (by rfl) (by rfl) (by first | rfl | assumption) (by rfl) ?_
                  refine X.gno (by rfl) (by rfl) (by first | rfl | assumption) (by rfl) ?_
                  refine X.pickF (by rfl) (by first | rfl | assumption) (by rfl) (by rfl) ?_
                  refine X.move (by rfl) (by rfl) ?_
                  refine X.gno (by rfl) (by rfl) (by first | rfl | assumption) (by rfl) ?_
                  refine X.gno (by rfl) (by rfl) (by first | rfl | assumption) (by rfl) ?_
                  refine X.gno (by rfl) (by rfl) (by first | rfl | assumption) (by rfl) ?_
                  refine X.gno (by rfl) (by rfl) (by first | rfl | assumption) (by rfl) ?_
                  refine X.gno (by rfl) (by rfl) (by first | rfl | assumption) (by rfl) ?_
                  refine X.pickF (by rfl) (by first | rfl | assumption) (by rfl) (by rfl) ?_
                  refine X.assign (by rfl) (by rfl) ?_
                  cases h
                  exact X.endG (by trivial) (by trivial) (by rfl) (by rfl)
              · replace h := condF hb22 h
                refine X.gno (by rfl) (by rfl) (by first | rfl | assumption) (by rfl) ?_
                refine X.gno (by rfl) (by rfl) (by first | rfl | assumption) (by rfl) ?_
                refine X.pickF (by rfl) (by first | rfl | assumption) (by rfl) (by rfl) ?_
                refine X.move (by rfl) (by rfl) ?_
                refine X.gno (by rfl) (by rfl) (by first | rfl | assumption) (by rfl) ?_
                refine X.gno (by rfl) (by rfl) (by first | rfl | assumption) (by rfl) ?_
                refine X.gno (by rfl) (by rfl) (by first | rfl | assumption) (by rfl) ?_
                refine X.pickF (by rfl) (by first | rfl | assumption) (by rfl) (by rfl) ?_
                refine X.move (by rfl) (by rfl) ?_
                refine X.gno (by rfl) (by rfl) (by first | rfl | assumption) (by rfl) ?_
                refine X.gno (by rfl) (by rfl) (by first | rfl | assumption) (by rfl) ?_
                refine X.gno (by rfl) (by rfl) (by first | rfl | assumption) (by rfl) ?_
                refine X.gno (by rfl) (by rfl) (by first | rfl | assumption) (by rfl) ?_
                refine X.gno (by rfl) (by rfl) (by first | rfl | assumption) (by rfl) ?_
                refine X.pickF (by rfl) (by first | rfl | assumption) (by rfl) (by rfl) ?_
                refine X.assign (by rfl) (by rfl) ?_
                cases h
                exact X.endG (by trivial) (by trivial) (by rfl) (by rfl)
            replace h := h2; clear h2
            cases h
            refine R.fin1 Tryz.results127 (by rfl) (by rfl) ?_
            rfl
          · replace h := condF hc19 h
            refine Run.seq ?_
            refine Run.reg ?_
            refine X.bin (by rfl) (by rfl) (by rfl) (by rfl) (by intro h; cases h) (by rfl) ?_
            refine X.assign (by rfl) (by rfl) ?_
            refine X.nil ?_
            refine R.cond (by rfl) (fun hc27 => ?_) (fun hc27 => ?_)
            · replace h := condT hc27 h
              refine Run.seq ?_
              obtain ⟨v28, hv28, h⟩ := bindE h
              obtain ⟨e29, he29, h2⟩ := bindE h
              refine R.regG [(4, bool e29)] [] ?_ ?_
              · clear h; have h := he29; clear he29 h2
                refine X.load_l shp28 (by rfl) (by rfl) (by rfl) (by rfl) (by rfl) (by rfl) ?_
                refine X.fieldAddr_l fld53_1 (by rfl) (by rfl) ?_
                refine X.load_l shp3 (by rfl) (by rfl) (by rfl) (by rfl) (by rfl) (by rfl) ?_
                refine X.callP (i_IsMachine_pc _ _ _ hv28) (by rfl) (by rfl) (by rfl) (by trivial) (by rfl) (by rfl) (by rfl) (by rfl) ?_
                refine X.move (by rfl) (by rfl) ?_
                refine X.ifG (by rfl) (by rfl) (by rfl) (fun hb30 => ?_) (fun hb30 => ?_)
                · replace h := condT hb30 h
                  refine X.load_l shp28 (by rfl) (by rfl) (by rfl) (by rfl) (by rfl) (by rfl) ?_
                  refine X.gyes (by rfl) (by rfl) (by first | rfl | assumption) ?_
                  refine X.fieldAddr_l fld53_2 (by rfl) (by rfl) ?_
                  refine X.gyes (by rfl) (by rfl) (by first | rfl | assumption) ?_
                  refine X.load_l shp3 (by rfl) (by rfl) (by rfl) (by rfl) (by rfl) (by rfl) ?_
                  refine X.gyes (by rfl) (by rfl) (by first | rfl | assumption) ?_
                  obtain ⟨v31, hv31, h⟩ := bindE h
                  refine X.callP (i_Project_hasActivity_pc _ _ _ hv31) (by rfl) (by rfl) (by rfl) (by trivial) (by rfl) (by rfl) (by rfl) (by rfl) ?_
                  refine X.pickT (by rfl) (by first | rfl | assumption) (by rfl) (by rfl) ?_
                  refine X.move (by rfl) (by rfl) ?_
                  refine X.ifG (by rfl) (by rfl) (by rfl) (fun hb32 => ?_) (fun hb32 => ?_)
                  · replace h := condT hb32 h
                    refine X.load_l shp28 (by rfl) (by rfl) (by rfl) (by rfl) (by rfl) (by rfl) ?_
                    refine X.gyes (by rfl) (by rfl) (by first | rfl | assumption) ?_
                    refine X.fieldAddr_l fld53_3 (by rfl) (by rfl) ?_
                    refine X.gyes (by rfl) (by rfl) (by first | rfl | assumption) ?_
                    refine X.load_l shp3 (by rfl) (by rfl) (by rfl) (by rfl) (by rfl) (by rfl) ?_
                    refine X.gyes (by rfl) (by rfl) (by first | rfl | assumption) ?_
                    obtain ⟨v33, hv33, h⟩ := bindE h
                    refine X.callP (i_Project_hasActivity_pc _ _ _ hv33) (by rfl) (by rfl) (by rfl) (by trivial) (by rfl) (by rfl) (by rfl) (by rfl) ?_
                    refine X.pickT (by rfl) (by first | rfl | assumption) (by rfl) (by rfl) ?_
                    refine X.move (by rfl) (by rfl) ?_
                    refine X.ifG (by rfl) (by rfl) (by rfl) (fun hb34 => ?_) (fun hb34 => ?_)
                    · replace h := condT hb34 h
                      refine X.fieldAddr_l fld53_2 (by rfl) (by rfl) ?_
                      refine X.gyes (by rfl) (by rfl) (by first | rfl | assumption) ?_
                      refine X.load_l shp3 (by rfl) (by rfl) (by rfl) (by rfl) (by rfl) (by rfl) ?_
                      refine X.gyes (by rfl) (by rfl) (by first | rfl | assumption) ?_
                      refine X.fieldAddr_l fld53_3 (by rfl) (by rfl) ?_
                      refine X.gyes (by rfl) (by rfl) (by first | rfl | assumption) ?_
                      refine X.load_l shp3 (by rfl) (by rfl) (by rfl) (by rfl) (by rfl) (by rfl) ?_
                      refine X.gyes (by rfl) (by rfl) (by first | rfl | assumption) ?_
                      refine X.bin (by rfl) (by rfl) (by rfl) (by rfl) (by intro h; cases h) (by rfl) ?_
                      refine X.pickT (by rfl) (by first | rfl | assumption) (by rfl) (by rfl) ?_
                      refine X.assign (by rfl) (by rfl) ?_
                      cases h
                      exact X.endG (by trivial) (by trivial) (by rfl) (by rfl)
                    · replace h := condF hb34 h
                      refine X.gno (by rfl) (by rfl) (by first | rfl | assumption) (by rfl) ?_
                      refine X.gno (by rfl) (by rfl) (by first | rfl | assumption) (by rfl) ?_
                      refine X.gno (by rfl) (by rfl) (by first | rfl | assumption) (by rfl) ?_
                      refine X.gno (by rfl) (by rfl) (by first | rfl | assumption) (by rfl) ?_
                      refine X.pickF (by rfl) (by first | rfl | assumption) (by rfl) (by rfl) ?_
                      refine X.assign (by rfl) (by rfl) ?_
                      cases h
                      exact X.endG (by trivial) (by trivial) (by rfl) (by rfl)
                  · replace h := condF hb32 h
                    refine X.gno (by rfl) (by rfl) (by first | rfl | assumption) (by rfl) ?_
                    refine X.gno (by rfl) (by rfl) (by first | rfl | assumption) (by rfl) ?_
                    refine X.gno (by rfl) (by rfl) (by first | rfl | assumption) (by rfl) ?_
                    refine X.pickF (by rfl) (by first | rfl | assumption) (by rfl) (by rfl) ?_
                    refine X.move (by rfl) (by rfl) ?_
                    refine X.gno (by rfl) (by rfl) (by first | rfl | assumption) (by rfl) ?_
                    refine X.gno (by rfl) (by rfl) (by first | rfl | assumption) (by rfl) ?_
                    refine X.gno (by rfl) (by rfl) (by first | rfl | assumption) (by rfl) ?_
                    refine X.gno (by rfl) (by rfl) (by first | rfl | assumption) (by rfl) ?_
                    refine X.gno (by rfl) (by rfl) (by first | rfl | assumption) (by rfl) ?_
                    refine X.pickF (by rfl) (by first | rfl | assumption) (by rfl) (by rfl) ?_
                    refine X.assign (by rfl) (by rfl) ?_
                    cases h
                    exact X.endG (by trivial) (by trivial) (by rfl) (by rfl)
                · replace h := condF hb30 h
                  refine X.gno (by rfl) (by rfl) (by first | rfl | assumption) (by rfl) ?_
                  refine X.gno (by rfl) (by rfl) (by first | rfl | assumption) (by rfl) ?_
                  refine X.gno (by rfl) (by rfl) (by first | rfl | assumption) (by rfl) ?_
                  refine X.pickF (by rfl) (by first | rfl | assumption) (by rfl) (by rfl) ?_
                  refine X.move (by rfl) (by rfl) ?_
                  refine X.gno (by rfl) (by rfl) (by first | rfl | assumption) (by rfl) ?_
                  refine X.gno (by rfl) (by rfl) (by first | rfl | assumption) (by rfl) ?_
                  refine X.gno (by rfl) (by rfl) (by first | rfl | assumption) (by rfl) ?_
                  refine X.gno (by rfl) (by rfl) (by first | rfl | assumption) (by rfl) ?_
                  refine X.pickF (by rfl) (by first | rfl | assumption) (by rfl) (by rfl) ?_
                  refine X.move (by rfl) (by rfl) ?_
                  refine X.gno (by rfl) (by rfl) (by first | rfl | assumption) (by rfl) ?_
                  refine X.gno (by rfl) (by rfl) (by first | rfl | assumption) (by rfl) ?_
                  refine X.gno (by rfl) (by rfl) (by first | rfl | assumption) (by rfl) ?_
                  refine X.gno (by rfl) (by rfl) (by first | rfl | assumption) (by rfl) ?_
                  refine X.gno (by rfl) (by rfl) (by first | rfl | assumption) (by rfl) ?_
                  refine X.pickF (by rfl) (by first | rfl | assumption) (by rfl) (by rfl) ?_
                  refine X.assign (by rfl) (by rfl) ?_
                  cases h
                  exact X.endG (by trivial) (by trivial) (by rfl) (by rfl)
              replace h := h2; clear h2
              cases h
              refine R.fin1 Tryz.results127 (by rfl) (by rfl) ?_
              rfl
            · replace h := condF hc27 h
              refine Run.seq ?_
              refine Run.reg ?_
              refine X.bin (by rfl) (by rfl) (by rfl) (by rfl) (by intro h; cases h) (by rfl) ?_
              refine X.assign (by rfl) (by rfl) ?_
              refine X.nil ?_
              refine R.cond (by rfl) (fun hc35 => ?_) (fun hc35 => ?_)
              · replace h := condT hc35 h
                refine Run.seq ?_
                obtain ⟨v36, hv36, h⟩ := bindE h
                obtain ⟨e37, he37, h2⟩ := bindE h
                refine R.regG [(4, bool e37)] [] ?_ ?_
                · clear h; have h := he37; clear he37 h2
                  refine X.load_l shp28 (by rfl) (by rfl) (by rfl) (by rfl) (by rfl) (by rfl) ?_
                  refine X.fieldAddr_l fld53_1 (by rfl) (by rfl) ?_
                  refine X.load_l shp3 (by rfl) (by rfl) (by rfl) (by rfl) (by rfl) (by rfl) ?_
                  refine X.callP (i_Project_hasStock_pc _ _ _ hv36) (by rfl) (by rfl) (by rfl) (by trivial) (by rfl) (by rfl) (by rfl) (by rfl) ?_
                  refine X.move (by rfl) (by rfl) ?_
                  refine X.ifG (by rfl) (by rfl) (by rfl) (fun hb38 => ?_) (fun hb38 => ?_)
                  · replace h := condT hb38 h
                    refine X.fieldAddr_l fld53_2 (by rfl) (by rfl) ?_
                    refine X.gyes (by rfl) (by rfl) (by first | rfl | assumption) ?_
                    refine X.load_l shp3 (by rfl) (by rfl) (by rfl) (by rfl) (by rfl) (by rfl) ?_
                    refine X.gyes (by rfl) (by rfl) (by first | rfl | assumption) ?_
                    refine X.bin (by rfl) (by rfl) (by rfl) (by rfl) (by intro h; cases h) (by rfl) ?_
                    refine X.pickT (by rfl) (by first | rfl | assumption) (by rfl) (by rfl) ?_
                    refine X.move (by rfl) (by rfl) ?_
                    refine X.ifG (by rfl) (by rfl) (by rfl) (fun hb39 => ?_) (fun hb39 => ?_)
                    · replace h := condT hb39 h
                      refine X.fieldAddr_l fld53_3 (by rfl) (by rfl) ?_
                      refine X.gyes (by rfl) (by rfl) (by first | rfl | assumption) ?_
                      refine X.load_l shp3 (by rfl) (by rfl) (by rfl) (by rfl) (by rfl) (by rfl) ?_
                      refine X.gyes (by rfl) (by rfl) (by first | rfl | assumption) ?_
                      refine X.bin (by rfl) (by rfl) (by rfl) (by rfl) (by intro h; cases h) (by rfl) ?_
                      refine X.pickT (by rfl) (by first | rfl | assumption) (by rfl) (by rfl) ?_
                      refine X.assign (by rfl) (by rfl) ?_
                      cases h
                      exact X.endG (by trivial) (by trivial) (by rfl) (by rfl)
                    · replace h := condF hb39 h
                      refine X.gno (by rfl) (by rfl) (by first | rfl | assumption) (by rfl) ?_
                      refine X.gno (by rfl) (by rfl) (by first | rfl | assumption) (by rfl) ?_
                      refine X.pickF (by rfl) (by first | rfl | assumption) (by rfl) (by rfl) ?_
                      refine X.assign (by rfl) (by rfl) ?_
                      cases h
                      exact X.endG (by trivial) (by trivial) (by rfl) (by rfl)
                  · replace h := condF hb38 h
                    refine X.gno (by rfl) (by rfl) (by first | rfl | assumption) (by rfl) ?_
                    refine X.gno (by rfl) (by rfl) (by first | rfl | assumption) (by rfl) ?_
                    refine X.pickF (by rfl) (by first | rfl | assumption) (by rfl) (by rfl) ?_
                    refine X.move (by rfl) (by rfl) ?_
                    refine X.gno (by rfl) (by rfl) (by first | rfl | assumption) (by rfl) ?_
                    refine X.gno (by rfl) (by rfl) (by first | rfl | assumption) (by rfl) ?_
                    refine X.gno (by rfl) (by rfl) (by first | rfl | assumption) (by rfl) ?_
                    refine X.pickF (by rfl) (by first | rfl | assumption) (by rfl) (by rfl) ?_
                    refine X.assign (by rfl) (by rfl) ?_
                    cases h
                    exact X.endG (by trivial) (by trivial) (by rfl) (by rfl)
                replace h := h2; clear h2
                cases h
                refine R.fin1 Tryz.results127 (by rfl) (by rfl) ?_
                rfl
              · replace h := condF hc35 h
                refine Run.skip ?_
                refine Run.blk ?_
                refine Run.seq ?_
                refine Run.reg ?_
                refine X.assign (by rfl) (by rfl) ?_
                refine X.nil ?_
                cases h
                refine R.fin1 Tryz.results127 (by rfl) (by rfl) ?_
                rfl
end Go.Px.YtjncefleglnnjaaGreat
