/-
  PROVED: contracts of functions of the program over pure values. No condition beyond those that each theorem names.
-/
import Derived.Test.YtjncefleglnnjaaGreatProg
import Derived.Test.YtjncefleglnnjaaGreatD1
import Derived.Test.YtjncefleglnnjaaGreatC2
namespace Go.Px.YtjncefleglnnjaaGreat
set_option linter.unusedSimpArgs false
set_option linter.unusedVariables false
open Go.Px Go.Proofs
theorem w_eqStepS_pc (b0 : List TStep) (b1 : List TStep) (r : Bool) (h : w_eqStepS b0 b1 = some r) : PC Tryz.prog 313 [.slice (b0.map eTStep), .slice (b1.map eTStep)] (bool r) := by
  unfold w_eqStepS at h
  refine PC.start Tryz.func313 Tryz.ntmps313 rfl ok313 rfl ?_
  refine Run.seq ?_
  refine Run.reg ?_
  refine X.assign (by rfl) (by rfl) ?_
  refine X.nil ?_
  refine Run.seq ?_
  refine Run.seq ?_
  refine Run.reg ?_
  refine X.move (by rfl) (by rfl) ?_
  refine X.len_s elt62 (by rfl) (by exact List.length_map ..) (by rfl) ?_
  refine X.move (by rfl) (by rfl) ?_
  refine X.len_s elt62 (by rfl) (by exact List.length_map ..) (by rfl) ?_
  refine X.bin (by rfl) (by rfl) (by rfl) (by rfl) (by intro h; cases h) (by rfl) ?_
  refine X.nil ?_
  refine R.cond (by rfl) (fun hc1 => ?_) (fun hc1 => ?_)
  · replace h := condT hc1 h
    refine Run.seq ?_
    refine Run.reg ?_
    refine X.assign (by rfl) (by rfl) ?_
    refine X.nil ?_
    cases h
    refine R.fin1 Tryz.results313 (by rfl) (by rfl) ?_
    rfl
  · replace h := condF hc1 h
    refine Run.skip ?_
    refine Run.seq ?_
    refine Run.seq ?_
    refine Run.reg ?_
    refine X.assign (by rfl) (by rfl) ?_
    refine X.nil ?_
    obtain ⟨o2, ho2, h⟩ := bindE h
    refine R.join2 (β := Unit) [] [] (fun p16 S => S) (fun p16 M => M) (fun p16 => (Sum.inl p16) = o2) ?_ ?_
    · intro JJ5 hmeet4
      have hup3 := h; clear h; have h := ho2; clear ho2
      refine Run.block ?_
      refine R.bndS (t := 0) (by rfl) (fun hbd8 => ?_)
      replace hbd8 : b0.length ≤ 9223372036854775807 := by first | (rw [List.length_map] at hbd8; exact hbd8) | simp
      refine R.loop2 (β := Int) [(0, .slice (b0.map eTStep)), (1, .slice (b1.map eTStep))] [] (fun bb S => (5, int bb) :: S) (fun bb M => M) (fun n bb => 0 ≤ bb ∧ bb + n = (b0.length : Int) ∧ w_eqStepS_L1 b1 (b0.drop bb.toNat) bb = some o2) b0.length (0 : Int) (by repeat (first | exact trivial | refine ⟨by rfl, ?_⟩ | refine ⟨by simp [setL], ?_⟩)) (by repeat (first | exact trivial | refine ⟨by rfl, ?_⟩ | refine ⟨by simp [setL], ?_⟩)) (by rfl) (by rfl) ⟨Int.le_refl _, by simp, h⟩ ?_
      clear h
      rintro JJ8 n8 z9 hag8 ⟨hza8, hzb8, h⟩
      refine Run.seq ?_
      refine Run.seq ?_
      refine Run.reg ?_
      refine X.move (by rfl) (by rfl) ?_
      refine X.move (by rfl) (by rfl) ?_
      refine X.len_s elt62 (by rfl) (by exact List.length_map ..) (by rfl) ?_
      refine X.bin (by rfl) (by rfl) (by rfl) (by rfl) (by intro h; cases h) (by rfl) ?_
      refine X.nil ?_
      refine R.cond (by rfl) (fun hc12 => ?_) (fun hc12 => ?_)
      · obtain ⟨x10, xs11, hd8, hx8, hds8, hlt8⟩ := drop_atI hza8 hc12
        rw [hd8] at h
        rw [w_eqStepS_L1] at h
        refine Run.skip ?_
        refine Run.seq ?_
        refine Run.block ?_
        refine Run.seq ?_
        refine Run.draw (footOf []) mixed (by kernel_rfl) (by kernel_rfl) ?_
        refine X.move (by rfl) (by rfl) ?_
        refine X.move (by rfl) (by rfl) ?_
        refine X.index_s elt62 (by rfl) (by rfl) (idxL_spec hx8).1 (idxL_map eTStep hx8) (by rfl) (by rfl) (by rfl) ?_
        refine X.load_c shp183 (by rfl) (by rfl) (by rfl) (by rfl) ?_
        refine X.move (by rfl) (by rfl) ?_
        refine X.move (by rfl) (by rfl) ?_
        obtain ⟨v13, hv13, h⟩ := bindE h
        refine X.index_s elt62 (by rfl) (by rfl) (idxL_spec hv13).1 (idxL_map eTStep hv13) (by rfl) (by rfl) (by rfl) ?_
        refine X.load_c shp183 (by rfl) (by rfl) (by rfl) (by rfl) ?_
        obtain ⟨v14, hv14, h⟩ := bindE h
        refine X.callP (w_eqStep_pc _ _ _ hv14) (by rfl) (by rfl) (by rfl) (by repeat (first | exact trivial | refine ⟨by rfl, ?_⟩ | refine ⟨by simp [setL], ?_⟩)) (by rfl) (by rfl) (by rfl) (by rfl) ?_
        refine X.un (by rfl) (by rfl) (by rfl) ?_
        refine X.nil ?_
        refine R.cond (by rfl) (fun hc15 => ?_) (fun hc15 => ?_)
        · replace h := condT hc15 h
          refine Run.seq ?_
          refine Run.reg ?_
          refine X.assign (by rfl) (by rfl) ?_
          refine X.nil ?_
          cases h
          have h := hup3
          replace h := elimR h
          cases h
          refine R.fin1 Tryz.results313 (by rfl) (by rfl) ?_
          rfl
        · replace h := condF hc15 h
          refine Run.skip ?_
          refine Run.blk ?_
          refine Run.reg ?_
          refine X.move (by rfl) (by rfl) ?_
          refine X.add (by rfl) (by rfl) (by omega) (by rfl) ?_
          refine X.assign (by rfl) (by rfl) ?_
          refine X.nil ?_
          exact hag8 (n8 - 1) (z9 + 1) _ _ (by omega) ⟨by first | omega | (dsimp only; omega), by first | omega | (dsimp only; omega), by first | (rw [hds8]; exact h) | (dsimp only; rw [hds8]; exact h)⟩ (by repeat (first | exact trivial | refine ⟨by rfl, ?_⟩ | refine ⟨by simp [setL], ?_⟩)) (by repeat (first | exact trivial | refine ⟨by rfl, ?_⟩ | refine ⟨by simp [setL], ?_⟩)) (by rfl) (by rfl)
      · rw [drop_endI hza8 hc12] at h
        rw [w_eqStepS_L1] at h
        refine Run.exit (by rfl) ?_
        exact hmeet4 () _ _ (Option.some.inj h) (by repeat (first | exact trivial | refine ⟨by rfl, ?_⟩ | refine ⟨by simp [setL], ?_⟩)) (by repeat (first | exact trivial | refine ⟨by rfl, ?_⟩ | refine ⟨by simp [setL], ?_⟩)) (by rfl) (by rfl)
    rintro p16 rfl
    replace h := elimL h
    refine Run.seq ?_
    refine Run.reg ?_
    refine X.assign (by rfl) (by rfl) ?_
    refine X.nil ?_
    cases h
    refine R.fin1 Tryz.results313 (by rfl) (by rfl) ?_
    rfl
theorem w_eqIntSS_pc (b0 : List (List Int)) (b1 : List (List Int)) (r : Bool) (h : w_eqIntSS b0 b1 = some r) : PC Tryz.prog 97 [.slice (b0.map l_int), .slice (b1.map l_int)] (bool r) := by
  unfold w_eqIntSS at h
  refine PC.start Tryz.func97 Tryz.ntmps97 rfl ok97 rfl ?_
  refine Run.seq ?_
  refine Run.reg ?_
  refine X.assign (by rfl) (by rfl) ?_
  refine X.nil ?_
  refine Run.seq ?_
  refine Run.seq ?_
  refine Run.reg ?_
  refine X.move (by rfl) (by rfl) ?_
  refine X.len_s elt30 (by rfl) (by exact List.length_map ..) (by rfl) ?_
  refine X.move (by rfl) (by rfl) ?_
  refine X.len_s elt30 (by rfl) (by exact List.length_map ..) (by rfl) ?_
  refine X.bin (by rfl) (by rfl) (by rfl) (by rfl) (by intro h; cases h) (by rfl) ?_
  refine X.nil ?_
  refine R.cond (by rfl) (fun hc1 => ?_) (fun hc1 => ?_)
  · replace h := condT hc1 h
    refine Run.seq ?_
    refine Run.reg ?_
    refine X.assign (by rfl) (by rfl) ?_
    refine X.nil ?_
    cases h
    refine R.fin1 Tryz.results97 (by rfl) (by rfl) ?_
    rfl
  · replace h := condF hc1 h
    refine Run.skip ?_
    refine Run.seq ?_
    refine Run.seq ?_
    refine Run.reg ?_
    refine X.assign (by rfl) (by rfl) ?_
    refine X.nil ?_
    obtain ⟨o2, ho2, h⟩ := bindE h
    refine R.join2 (β := Unit) [] [] (fun p16 S => S) (fun p16 M => M) (fun p16 => (Sum.inl p16) = o2) ?_ ?_
    · intro JJ5 hmeet4
      have hup3 := h; clear h; have h := ho2; clear ho2
      refine Run.block ?_
      refine R.bndS (t := 0) (by rfl) (fun hbd8 => ?_)
      replace hbd8 : b0.length ≤ 9223372036854775807 := by first | (rw [List.length_map] at hbd8; exact hbd8) | simp
      refine R.loop2 (β := Int) [(0, .slice (b0.map l_int)), (1, .slice (b1.map l_int))] [] (fun bb S => (5, int bb) :: S) (fun bb M => M) (fun n bb => 0 ≤ bb ∧ bb + n = (b0.length : Int) ∧ w_eqIntSS_L1 b1 (b0.drop bb.toNat) bb = some o2) b0.length (0 : Int) (by repeat (first | exact trivial | refine ⟨by rfl, ?_⟩ | refine ⟨by simp [setL], ?_⟩)) (by repeat (first | exact trivial | refine ⟨by rfl, ?_⟩ | refine ⟨by simp [setL], ?_⟩)) (by rfl) (by rfl) ⟨Int.le_refl _, by simp, h⟩ ?_
      clear h
      rintro JJ8 n8 z9 hag8 ⟨hza8, hzb8, h⟩
      refine Run.seq ?_
      refine Run.seq ?_
      refine Run.reg ?_
      refine X.move (by rfl) (by rfl) ?_
      refine X.move (by rfl) (by rfl) ?_
      refine X.len_s elt30 (by rfl) (by exact List.length_map ..) (by rfl) ?_
      refine X.bin (by rfl) (by rfl) (by rfl) (by rfl) (by intro h; cases h) (by rfl) ?_
      refine X.nil ?_
      refine R.cond (by rfl) (fun hc12 => ?_) (fun hc12 => ?_)
      · obtain ⟨x10, xs11, hd8, hx8, hds8, hlt8⟩ := drop_atI hza8 hc12
        rw [hd8] at h
        rw [w_eqIntSS_L1] at h
        refine Run.skip ?_
        refine Run.seq ?_
        refine Run.block ?_
        refine Run.seq ?_
        refine Run.draw (footOf []) mixed (by kernel_rfl) (by kernel_rfl) ?_
        refine X.move (by rfl) (by rfl) ?_
        refine X.move (by rfl) (by rfl) ?_
        refine X.index_s elt30 (by rfl) (by rfl) (idxL_spec hx8).1 (idxL_map l_int hx8) (by rfl) (by rfl) (by rfl) ?_
        refine X.load_c shp26 (by rfl) (by rfl) (by rfl) (by rfl) ?_
        refine X.move (by rfl) (by rfl) ?_
        refine X.move (by rfl) (by rfl) ?_
        obtain ⟨v13, hv13, h⟩ := bindE h
        refine X.index_s elt30 (by rfl) (by rfl) (idxL_spec hv13).1 (idxL_map l_int hv13) (by rfl) (by rfl) (by rfl) ?_
        refine X.load_c shp26 (by rfl) (by rfl) (by rfl) (by rfl) ?_
        obtain ⟨v14, hv14, h⟩ := bindE h
        refine X.callP (w_eqIntS_pc _ _ _ hv14) (by rfl) (by rfl) (by rfl) (by repeat (first | exact trivial | refine ⟨by rfl, ?_⟩ | refine ⟨by simp [setL], ?_⟩)) (by rfl) (by rfl) (by rfl) (by rfl) ?_
        refine X.un (by rfl) (by rfl) (by rfl) ?_
        refine X.nil ?_
        refine R.cond (by rfl) (fun hc15 => ?_) (fun hc15 => ?_)
        · replace h := condT hc15 h
          refine Run.seq ?_
          refine Run.reg ?_
          refine X.assign (by rfl) (by rfl) ?_
          refine X.nil ?_
          cases h
          have h := hup3
          replace h := elimR h
          cases h
          refine R.fin1 Tryz.results97 (by rfl) (by rfl) ?_
          rfl
        · replace h := condF hc15 h
          refine Run.skip ?_
          refine Run.blk ?_
          refine Run.reg ?_
          refine X.move (by rfl) (by rfl) ?_
          refine X.add (by rfl) (by rfl) (by omega) (by rfl) ?_
          refine X.assign (by rfl) (by rfl) ?_
          refine X.nil ?_
          exact hag8 (n8 - 1) (z9 + 1) _ _ (by omega) ⟨by first | omega | (dsimp only; omega), by first | omega | (dsimp only; omega), by first | (rw [hds8]; exact h) | (dsimp only; rw [hds8]; exact h)⟩ (by repeat (first | exact trivial | refine ⟨by rfl, ?_⟩ | refine ⟨by simp [setL], ?_⟩)) (by repeat (first | exact trivial | refine ⟨by rfl, ?_⟩ | refine ⟨by simp [setL], ?_⟩)) (by rfl) (by rfl)
      · rw [drop_endI hza8 hc12] at h
        rw [w_eqIntSS_L1] at h
        refine Run.exit (by rfl) ?_
        exact hmeet4 () _ _ (Option.some.inj h) (by repeat (first | exact trivial | refine ⟨by rfl, ?_⟩ | refine ⟨by simp [setL], ?_⟩)) (by repeat (first | exact trivial | refine ⟨by rfl, ?_⟩ | refine ⟨by simp [setL], ?_⟩)) (by rfl) (by rfl)
    rintro p16 rfl
    replace h := elimL h
    refine Run.seq ?_
    refine Run.reg ?_
    refine X.assign (by rfl) (by rfl) ?_
    refine X.nil ?_
    cases h
    refine R.fin1 Tryz.results97 (by rfl) (by rfl) ?_
    rfl
theorem w_eqResource_pc (b0 : TResource) (b1 : TResource) (r : Bool) (h : w_eqResource b0 b1 = some r) : PC Tryz.prog 259 [eTResource b0, eTResource b1] (bool r) := by
  unfold w_eqResource at h
  refine PC.start Tryz.func259 Tryz.ntmps259 rfl ok259 rfl ?_
  refine Run.seq ?_
  refine Run.reg ?_
  refine X.box (by rfl) (by rfl) (by repeat (first | exact trivial | refine ⟨by rfl, ?_⟩ | refine ⟨by simp [setL], ?_⟩)) (by rfl) (by rfl) (by rfl) (by rfl) ?_
  refine X.box (by rfl) (by rfl) (by repeat (first | exact trivial | refine ⟨by rfl, ?_⟩ | refine ⟨by simp [setL], ?_⟩)) (by rfl) (by rfl) (by rfl) (by rfl) ?_
  refine X.assign (by rfl) (by rfl) ?_
  refine X.nil ?_
  refine Run.seq ?_
  refine Run.seq ?_
  refine Run.reg ?_
  refine X.fieldAddr_l fld64_0 (by rfl) (by rfl) ?_
  refine X.load_l shp62 (by rfl) (by rfl) (by rfl) (by rfl) (by rfl) (by rfl) ?_
  refine X.fieldAddr_l fld64_0 (by rfl) (by rfl) ?_
  refine X.load_l shp62 (by rfl) (by rfl) (by rfl) (by rfl) (by rfl) (by rfl) ?_
  obtain ⟨v1, hv1, h⟩ := bindE h
  refine X.callP (w_eqStepS_pc _ _ _ hv1) (by rfl) (by rfl) (by rfl) (by repeat (first | exact trivial | refine ⟨by rfl, ?_⟩ | refine ⟨by simp [setL], ?_⟩)) (by rfl) (by rfl) (by rfl) (by rfl) ?_
  refine X.un (by rfl) (by rfl) (by rfl) ?_
  refine X.nil ?_
  refine R.cond (by rfl) (fun hc2 => ?_) (fun hc2 => ?_)
  · replace h := condT hc2 h
    refine Run.seq ?_
    refine Run.reg ?_
    refine X.assign (by rfl) (by rfl) ?_
    refine X.nil ?_
    cases h
    refine R.fin1 Tryz.results259 (by rfl) (by rfl) ?_
    rfl
  · replace h := condF hc2 h
    refine Run.skip ?_
    refine Run.seq ?_
    refine Run.seq ?_
    refine Run.reg ?_
    refine X.fieldAddr_l fld64_1 (by rfl) (by rfl) ?_
    refine X.load_l shp30 (by rfl) (by rfl) (by rfl) (by rfl) (by rfl) (by rfl) ?_
    refine X.fieldAddr_l fld64_1 (by rfl) (by rfl) ?_
    refine X.load_l shp30 (by rfl) (by rfl) (by rfl) (by rfl) (by rfl) (by rfl) ?_
    obtain ⟨v3, hv3, h⟩ := bindE h
    refine X.callP (w_eqIntSS_pc _ _ _ hv3) (by rfl) (by rfl) (by rfl) (by repeat (first | exact trivial | refine ⟨by rfl, ?_⟩ | refine ⟨by simp [setL], ?_⟩)) (by rfl) (by rfl) (by rfl) (by rfl) ?_
    refine X.un (by rfl) (by rfl) (by rfl) ?_
    refine X.nil ?_
    refine R.cond (by rfl) (fun hc4 => ?_) (fun hc4 => ?_)
    · replace h := condT hc4 h
      refine Run.seq ?_
      refine Run.reg ?_
      refine X.assign (by rfl) (by rfl) ?_
      refine X.nil ?_
      cases h
      refine R.fin1 Tryz.results259 (by rfl) (by rfl) ?_
      rfl
    · replace h := condF hc4 h
      refine Run.skip ?_
      refine Run.seq ?_
      refine Run.reg ?_
      refine X.assign (by rfl) (by rfl) ?_
      refine X.nil ?_
      cases h
      refine R.fin1 Tryz.results259 (by rfl) (by rfl) ?_
      rfl
theorem w_eqResourceS_pc (b0 : List TResource) (b1 : List TResource) (r : Bool) (h : w_eqResourceS b0 b1 = some r) : PC Tryz.prog 151 [.slice (b0.map eTResource), .slice (b1.map eTResource)] (bool r) := by
  unfold w_eqResourceS at h
  refine PC.start Tryz.func151 Tryz.ntmps151 rfl ok151 rfl ?_
  refine Run.seq ?_
  refine Run.reg ?_
  refine X.assign (by rfl) (by rfl) ?_
  refine X.nil ?_
  refine Run.seq ?_
  refine Run.seq ?_
  refine Run.reg ?_
  refine X.move (by rfl) (by rfl) ?_
  refine X.len_s elt25 (by rfl) (by exact List.length_map ..) (by rfl) ?_
  refine X.move (by rfl) (by rfl) ?_
  refine X.len_s elt25 (by rfl) (by exact List.length_map ..) (by rfl) ?_
  refine X.bin (by rfl) (by rfl) (by rfl) (by rfl) (by intro h; cases h) (by rfl) ?_
  refine X.nil ?_
  refine R.cond (by rfl) (fun hc1 => ?_) (fun hc1 => ?_)
  · replace h := condT hc1 h
    refine Run.seq ?_
    refine Run.reg ?_
    refine X.assign (by rfl) (by rfl) ?_
    refine X.nil ?_
    cases h
    refine R.fin1 Tryz.results151 (by rfl) (by rfl) ?_
    rfl
  · replace h := condF hc1 h
    refine Run.skip ?_
    refine Run.seq ?_
    refine Run.seq ?_
    refine Run.reg ?_
    refine X.assign (by rfl) (by rfl) ?_
    refine X.nil ?_
    obtain ⟨o2, ho2, h⟩ := bindE h
    refine R.join2 (β := Unit) [] [] (fun p16 S => S) (fun p16 M => M) (fun p16 => (Sum.inl p16) = o2) ?_ ?_
    · intro JJ5 hmeet4
      have hup3 := h; clear h; have h := ho2; clear ho2
      refine Run.block ?_
      refine R.bndS (t := 0) (by rfl) (fun hbd8 => ?_)
      replace hbd8 : b0.length ≤ 9223372036854775807 := by first | (rw [List.length_map] at hbd8; exact hbd8) | simp
      refine R.loop2 (β := Int) [(0, .slice (b0.map eTResource)), (1, .slice (b1.map eTResource))] [] (fun bb S => (5, int bb) :: S) (fun bb M => M) (fun n bb => 0 ≤ bb ∧ bb + n = (b0.length : Int) ∧ w_eqResourceS_L1 b1 (b0.drop bb.toNat) bb = some o2) b0.length (0 : Int) (by repeat (first | exact trivial | refine ⟨by rfl, ?_⟩ | refine ⟨by simp [setL], ?_⟩)) (by repeat (first | exact trivial | refine ⟨by rfl, ?_⟩ | refine ⟨by simp [setL], ?_⟩)) (by rfl) (by rfl) ⟨Int.le_refl _, by simp, h⟩ ?_
      clear h
      rintro JJ8 n8 z9 hag8 ⟨hza8, hzb8, h⟩
      refine Run.seq ?_
      refine Run.seq ?_
      refine Run.reg ?_
      refine X.move (by rfl) (by rfl) ?_
      refine X.move (by rfl) (by rfl) ?_
      refine X.len_s elt25 (by rfl) (by exact List.length_map ..) (by rfl) ?_
      refine X.bin (by rfl) (by rfl) (by rfl) (by rfl) (by intro h; cases h) (by rfl) ?_
      refine X.nil ?_
      refine R.cond (by rfl) (fun hc12 => ?_) (fun hc12 => ?_)
      · obtain ⟨x10, xs11, hd8, hx8, hds8, hlt8⟩ := drop_atI hza8 hc12
        rw [hd8] at h
        rw [w_eqResourceS_L1] at h
        refine Run.skip ?_
        refine Run.seq ?_
        refine Run.block ?_
        refine Run.seq ?_
        refine Run.draw (footOf []) mixed (by kernel_rfl) (by kernel_rfl) ?_
        refine X.move (by rfl) (by rfl) ?_
        refine X.move (by rfl) (by rfl) ?_
        refine X.index_s elt25 (by rfl) (by rfl) (idxL_spec hx8).1 (idxL_map eTResource hx8) (by rfl) (by rfl) (by rfl) ?_
        refine X.load_c shp64 (by rfl) (by rfl) (by rfl) (by rfl) ?_
        refine X.move (by rfl) (by rfl) ?_
        refine X.move (by rfl) (by rfl) ?_
        obtain ⟨v13, hv13, h⟩ := bindE h
        refine X.index_s elt25 (by rfl) (by rfl) (idxL_spec hv13).1 (idxL_map eTResource hv13) (by rfl) (by rfl) (by rfl) ?_
        refine X.load_c shp64 (by rfl) (by rfl) (by rfl) (by rfl) ?_
        obtain ⟨v14, hv14, h⟩ := bindE h
        refine X.callP (w_eqResource_pc _ _ _ hv14) (by rfl) (by rfl) (by rfl) (by repeat (first | exact trivial | refine ⟨by rfl, ?_⟩ | refine ⟨by simp [setL], ?_⟩)) (by rfl) (by rfl) (by rfl) (by rfl) ?_
        refine X.un (by rfl) (by rfl) (by rfl) ?_
        refine X.nil ?_
        refine R.cond (by rfl) (fun hc15 => ?_) (fun hc15 => ?_)
        · replace h := condT hc15 h
          refine Run.seq ?_
          refine Run.reg ?_
          refine X.assign (by rfl) (by rfl) ?_
          refine X.nil ?_
          cases h
          have h := hup3
          replace h := elimR h
          cases h
          refine R.fin1 Tryz.results151 (by rfl) (by rfl) ?_
          rfl
        · replace h := condF hc15 h
          refine Run.skip ?_
          refine Run.blk ?_
          refine Run.reg ?_
          refine X.move (by rfl) (by rfl) ?_
          refine X.add (by rfl) (by rfl) (by omega) (by rfl) ?_
          refine X.assign (by rfl) (by rfl) ?_
          refine X.nil ?_
          exact hag8 (n8 - 1) (z9 + 1) _ _ (by omega) ⟨by first | omega | (dsimp only; omega), by first | omega | (dsimp only; omega), by first | (rw [hds8]; exact h) | (dsimp only; rw [hds8]; exact h)⟩ (by repeat (first | exact trivial | refine ⟨by rfl, ?_⟩ | refine ⟨by simp [setL], ?_⟩)) (by repeat (first | exact trivial | refine ⟨by rfl, ?_⟩ | refine ⟨by simp [setL], ?_⟩)) (by rfl) (by rfl)
      · rw [drop_endI hza8 hc12] at h
        rw [w_eqResourceS_L1] at h
        refine Run.exit (by rfl) ?_
        exact hmeet4 () _ _ (Option.some.inj h) (by repeat (first | exact trivial | refine ⟨by rfl, ?_⟩ | refine ⟨by simp [setL], ?_⟩)) (by repeat (first | exact trivial | refine ⟨by rfl, ?_⟩ | refine ⟨by simp [setL], ?_⟩)) (by rfl) (by rfl)
    rintro p16 rfl
    replace h := elimL h
    refine Run.seq ?_
    refine Run.reg ?_
    refine X.assign (by rfl) (by rfl) ?_
    refine X.nil ?_
    cases h
    refine R.fin1 Tryz.results151 (by rfl) (by rfl) ?_
    rfl
theorem w_eqProject_pc (b0 : TProject) (b1 : TProject) (r : Bool) (h : w_eqProject b0 b1 = some r) : PC Tryz.prog 54 [eTProject b0, eTProject b1] (bool r) := by
  unfold w_eqProject at h
  refine PC.start Tryz.func54 Tryz.ntmps54 rfl ok54 rfl ?_
  refine Run.seq ?_
  refine Run.reg ?_
  refine X.box (by rfl) (by rfl) (by repeat (first | exact trivial | refine ⟨by rfl, ?_⟩ | refine ⟨by simp [setL], ?_⟩)) (by rfl) (by rfl) (by rfl) (by rfl) ?_
  refine X.box (by rfl) (by rfl) (by repeat (first | exact trivial | refine ⟨by rfl, ?_⟩ | refine ⟨by simp [setL], ?_⟩)) (by rfl) (by rfl) (by rfl) (by rfl) ?_
  refine X.assign (by rfl) (by rfl) ?_
  refine X.nil ?_
  refine Run.seq ?_
  refine Run.seq ?_
  refine Run.reg ?_
  refine X.fieldAddr_l fld28_0 (by rfl) (by rfl) ?_
  refine X.load_l shp3 (by rfl) (by rfl) (by rfl) (by rfl) (by rfl) (by rfl) ?_
  refine X.fieldAddr_l fld28_0 (by rfl) (by rfl) ?_
  refine X.load_l shp3 (by rfl) (by rfl) (by rfl) (by rfl) (by rfl) (by rfl) ?_
  refine X.bin (by rfl) (by rfl) (by rfl) (by rfl) (by intro h; cases h) (by rfl) ?_
  refine X.nil ?_
  refine R.cond (by rfl) (fun hc1 => ?_) (fun hc1 => ?_)
  · replace h := condT hc1 h
    refine Run.seq ?_
    refine Run.reg ?_
    refine X.assign (by rfl) (by rfl) ?_
    refine X.nil ?_
    cases h
    refine R.fin1 Tryz.results54 (by rfl) (by rfl) ?_
    rfl
  · replace h := condF hc1 h
    refine Run.skip ?_
    refine Run.seq ?_
    refine Run.seq ?_
    refine Run.reg ?_
    refine X.fieldAddr_l fld28_1 (by rfl) (by rfl) ?_
    refine X.load_l shp23 (by rfl) (by rfl) (by rfl) (by rfl) (by rfl) (by rfl) ?_
    refine X.fieldAddr_l fld28_1 (by rfl) (by rfl) ?_
    refine X.load_l shp23 (by rfl) (by rfl) (by rfl) (by rfl) (by rfl) (by rfl) ?_
    obtain ⟨v2, hv2, h⟩ := bindE h
    refine X.callP (w_eqActivityS_pc _ _ _ hv2) (by rfl) (by rfl) (by rfl) (by repeat (first | exact trivial | refine ⟨by rfl, ?_⟩ | refine ⟨by simp [setL], ?_⟩)) (by rfl) (by rfl) (by rfl) (by rfl) ?_
    refine X.un (by rfl) (by rfl) (by rfl) ?_
    refine X.nil ?_
    refine R.cond (by rfl) (fun hc3 => ?_) (fun hc3 => ?_)
    · replace h := condT hc3 h
      refine Run.seq ?_
      refine Run.reg ?_
      refine X.assign (by rfl) (by rfl) ?_
      refine X.nil ?_
      cases h
      refine R.fin1 Tryz.results54 (by rfl) (by rfl) ?_
      rfl
    · replace h := condF hc3 h
      refine Run.skip ?_
      refine Run.seq ?_
      refine Run.seq ?_
      refine Run.reg ?_
      refine X.fieldAddr_l fld28_2 (by rfl) (by rfl) ?_
      refine X.load_l shp24 (by rfl) (by rfl) (by rfl) (by rfl) (by rfl) (by rfl) ?_
      refine X.fieldAddr_l fld28_2 (by rfl) (by rfl) ?_
      refine X.load_l shp24 (by rfl) (by rfl) (by rfl) (by rfl) (by rfl) (by rfl) ?_
      obtain ⟨v4, hv4, h⟩ := bindE h
      refine X.callP (w_eqLinkS_pc _ _ _ hv4) (by rfl) (by rfl) (by rfl) (by repeat (first | exact trivial | refine ⟨by rfl, ?_⟩ | refine ⟨by simp [setL], ?_⟩)) (by rfl) (by rfl) (by rfl) (by rfl) ?_
      refine X.un (by rfl) (by rfl) (by rfl) ?_
      refine X.nil ?_
      refine R.cond (by rfl) (fun hc5 => ?_) (fun hc5 => ?_)
      · replace h := condT hc5 h
        refine Run.seq ?_
        refine Run.reg ?_
        refine X.assign (by rfl) (by rfl) ?_
        refine X.nil ?_
        cases h
        refine R.fin1 Tryz.results54 (by rfl) (by rfl) ?_
        rfl
      · replace h := condF hc5 h
        refine Run.skip ?_
        refine Run.seq ?_
        refine Run.seq ?_
        refine Run.reg ?_
        refine X.fieldAddr_l fld28_3 (by rfl) (by rfl) ?_
        refine X.load_l shp25 (by rfl) (by rfl) (by rfl) (by rfl) (by rfl) (by rfl) ?_
        refine X.fieldAddr_l fld28_3 (by rfl) (by rfl) ?_
        refine X.load_l shp25 (by rfl) (by rfl) (by rfl) (by rfl) (by rfl) (by rfl) ?_
        obtain ⟨v6, hv6, h⟩ := bindE h
        refine X.callP (w_eqResourceS_pc _ _ _ hv6) (by rfl) (by rfl) (by rfl) (by repeat (first | exact trivial | refine ⟨by rfl, ?_⟩ | refine ⟨by simp [setL], ?_⟩)) (by rfl) (by rfl) (by rfl) (by rfl) ?_
        refine X.un (by rfl) (by rfl) (by rfl) ?_
        refine X.nil ?_
        refine R.cond (by rfl) (fun hc7 => ?_) (fun hc7 => ?_)
        · replace h := condT hc7 h
          refine Run.seq ?_
          refine Run.reg ?_
          refine X.assign (by rfl) (by rfl) ?_
          refine X.nil ?_
          cases h
          refine R.fin1 Tryz.results54 (by rfl) (by rfl) ?_
          rfl
        · replace h := condF hc7 h
          refine Run.skip ?_
          refine Run.seq ?_
          refine Run.seq ?_
          refine Run.reg ?_
          refine X.fieldAddr_l fld28_4 (by rfl) (by rfl) ?_
          refine X.load_l shp26 (by rfl) (by rfl) (by rfl) (by rfl) (by rfl) (by rfl) ?_
          refine X.fieldAddr_l fld28_4 (by rfl) (by rfl) ?_
          refine X.load_l shp26 (by rfl) (by rfl) (by rfl) (by rfl) (by rfl) (by rfl) ?_
          obtain ⟨v8, hv8, h⟩ := bindE h
          refine X.callP (w_eqIntS_pc _ _ _ hv8) (by rfl) (by rfl) (by rfl) (by repeat (first | exact trivial | refine ⟨by rfl, ?_⟩ | refine ⟨by simp [setL], ?_⟩)) (by rfl) (by rfl) (by rfl) (by rfl) ?_
          refine X.un (by rfl) (by rfl) (by rfl) ?_
          refine X.nil ?_
          refine R.cond (by rfl) (fun hc9 => ?_) (fun hc9 => ?_)
          · replace h := condT hc9 h
            refine Run.seq ?_
            refine Run.reg ?_
            refine X.assign (by rfl) (by rfl) ?_
            refine X.nil ?_
            cases h
            refine R.fin1 Tryz.results54 (by rfl) (by rfl) ?_
            rfl
          · replace h := condF hc9 h
            refine Run.skip ?_
            refine Run.seq ?_
            refine Run.reg ?_
            refine X.assign (by rfl) (by rfl) ?_
            refine X.nil ?_
            cases h
            refine R.fin1 Tryz.results54 (by rfl) (by rfl) ?_
            rfl
theorem w_eqDomain_pc (b0 : TDomain) (b1 : TDomain) (r : Bool) (h : w_eqDomain b0 b1 = some r) : PC Tryz.prog 55 [eTDomain b0, eTDomain b1] (bool r) := by
  unfold w_eqDomain at h
  refine PC.start Tryz.func55 Tryz.ntmps55 rfl ok55 rfl ?_
  refine Run.seq ?_
  refine Run.reg ?_
  refine X.box (by rfl) (by rfl) (by repeat (first | exact trivial | refine ⟨by rfl, ?_⟩ | refine ⟨by simp [setL], ?_⟩)) (by rfl) (by rfl) (by rfl) (by rfl) ?_
  refine X.box (by rfl) (by rfl) (by repeat (first | exact trivial | refine ⟨by rfl, ?_⟩ | refine ⟨by simp [setL], ?_⟩)) (by rfl) (by rfl) (by rfl) (by rfl) ?_
  refine X.assign (by rfl) (by rfl) ?_
  refine X.nil ?_
  refine Run.seq ?_
  refine Run.seq ?_
  refine Run.reg ?_
  refine X.fieldAddr_l fld32_0 (by rfl) (by rfl) ?_
  refine X.load_l shp26 (by rfl) (by rfl) (by rfl) (by rfl) (by rfl) (by rfl) ?_
  refine X.fieldAddr_l fld32_0 (by rfl) (by rfl) ?_
  refine X.load_l shp26 (by rfl) (by rfl) (by rfl) (by rfl) (by rfl) (by rfl) ?_
  obtain ⟨v1, hv1, h⟩ := bindE h
  refine X.callP (w_eqIntS_pc _ _ _ hv1) (by rfl) (by rfl) (by rfl) (by repeat (first | exact trivial | refine ⟨by rfl, ?_⟩ | refine ⟨by simp [setL], ?_⟩)) (by rfl) (by rfl) (by rfl) (by rfl) ?_
  refine X.un (by rfl) (by rfl) (by rfl) ?_
  refine X.nil ?_
  refine R.cond (by rfl) (fun hc2 => ?_) (fun hc2 => ?_)
  · replace h := condT hc2 h
    refine Run.seq ?_
    refine Run.reg ?_
    refine X.assign (by rfl) (by rfl) ?_
    refine X.nil ?_
    cases h
    refine R.fin1 Tryz.results55 (by rfl) (by rfl) ?_
    rfl
  · replace h := condF hc2 h
    refine Run.skip ?_
    refine Run.seq ?_
    refine Run.seq ?_
    refine Run.reg ?_
    refine X.fieldAddr_l fld32_1 (by rfl) (by rfl) ?_
    refine X.load_l shp26 (by rfl) (by rfl) (by rfl) (by rfl) (by rfl) (by rfl) ?_
    refine X.fieldAddr_l fld32_1 (by rfl) (by rfl) ?_
    refine X.load_l shp26 (by rfl) (by rfl) (by rfl) (by rfl) (by rfl) (by rfl) ?_
    obtain ⟨v3, hv3, h⟩ := bindE h
    refine X.callP (w_eqIntS_pc _ _ _ hv3) (by rfl) (by rfl) (by rfl) (by repeat (first | exact trivial | refine ⟨by rfl, ?_⟩ | refine ⟨by simp [setL], ?_⟩)) (by rfl) (by rfl) (by rfl) (by rfl) ?_
    refine X.un (by rfl) (by rfl) (by rfl) ?_
    refine X.nil ?_
    refine R.cond (by rfl) (fun hc4 => ?_) (fun hc4 => ?_)
    · replace h := condT hc4 h
      refine Run.seq ?_
      refine Run.reg ?_
      refine X.assign (by rfl) (by rfl) ?_
      refine X.nil ?_
      cases h
      refine R.fin1 Tryz.results55 (by rfl) (by rfl) ?_
      rfl
    · replace h := condF hc4 h
      refine Run.skip ?_
      refine Run.seq ?_
      refine Run.seq ?_
      refine Run.reg ?_
      refine X.fieldAddr_l fld32_2 (by rfl) (by rfl) ?_
      refine X.load_l shp30 (by rfl) (by rfl) (by rfl) (by rfl) (by rfl) (by rfl) ?_
      refine X.fieldAddr_l fld32_2 (by rfl) (by rfl) ?_
      refine X.load_l shp30 (by rfl) (by rfl) (by rfl) (by rfl) (by rfl) (by rfl) ?_
      obtain ⟨v5, hv5, h⟩ := bindE h
      refine X.callP (w_eqIntSS_pc _ _ _ hv5) (by rfl) (by rfl) (by rfl) (by repeat (first | exact trivial | refine ⟨by rfl, ?_⟩ | refine ⟨by simp [setL], ?_⟩)) (by rfl) (by rfl) (by rfl) (by rfl) ?_
      refine X.un (by rfl) (by rfl) (by rfl) ?_
      refine X.nil ?_
      refine R.cond (by rfl) (fun hc6 => ?_) (fun hc6 => ?_)
      · replace h := condT hc6 h
        refine Run.seq ?_
        refine Run.reg ?_
        refine X.assign (by rfl) (by rfl) ?_
        refine X.nil ?_
        cases h
        refine R.fin1 Tryz.results55 (by rfl) (by rfl) ?_
        rfl
      · replace h := condF hc6 h
        refine Run.skip ?_
        refine Run.seq ?_
        refine Run.reg ?_
        refine X.assign (by rfl) (by rfl) ?_
        refine X.nil ?_
        cases h
        refine R.fin1 Tryz.results55 (by rfl) (by rfl) ?_
        rfl
end Go.Px.YtjncefleglnnjaaGreat
