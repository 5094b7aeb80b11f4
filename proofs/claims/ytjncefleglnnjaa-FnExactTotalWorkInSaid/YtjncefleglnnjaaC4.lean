/-
  PROVED: contracts of functions of the program over pure values. No condition beyond those that each theorem names.
-/
import Derived.Test.YtjncefleglnnjaaProg
import Derived.Test.YtjncefleglnnjaaD1
import Derived.Test.YtjncefleglnnjaaC1
import Derived.Test.YtjncefleglnnjaaC2
namespace Go.Px.Ytjncefleglnnjaa
set_option linter.unusedSimpArgs false
set_option linter.unusedVariables false
open Go.Px Go.Proofs
theorem ok92 : okFn Try.prog 92 = true := by kernel_rfl
theorem ok94 : okFn Try.prog 94 = true := by kernel_rfl
theorem ok165 : okFn Try.prog 165 = true := by kernel_rfl
theorem ok93 : okFn Try.prog 93 = true := by kernel_rfl
theorem ok97 : okFn Try.prog 97 = true := by kernel_rfl
theorem ok99 : okFn Try.prog 99 = true := by kernel_rfl
theorem ok234 : okFn Try.prog 234 = true := by kernel_rfl
theorem ok212 : okFn Try.prog 212 = true := by kernel_rfl
theorem ok166 : okFn Try.prog 166 = true := by kernel_rfl
theorem ok98 : okFn Try.prog 98 = true := by kernel_rfl
theorem s_SetOk_pc (b0 : List Int) (r : Bool) (h : s_SetOk b0 = some r) : PC Try.prog 92 [.slice (b0.map int)] (bool r) := by
  unfold s_SetOk at h
  refine PC.start Try.func92 Try.ntmps92 rfl ok92 rfl ?_
  refine Run.seq ?_
  refine Run.reg ?_
  refine X.assign (by rfl) (by rfl) ?_
  refine X.nil ?_
  refine Run.seq ?_
  refine Run.seq ?_
  refine Run.reg ?_
  refine X.move (by rfl) (by rfl) ?_
  refine X.len_s elt25 (by rfl) (by exact List.length_map ..) (by rfl) ?_
  refine X.move (by rfl) (by rfl) ?_
  refine X.nil ?_
  obtain ⟨o1, ho1, h⟩ := bindE h
  refine R.join2 (β := Unit) [] [] (fun p16 S => S) (fun p16 M => M) (fun p16 => (Sum.inl p16) = o1) ?_ ?_
  · intro JJ4 hmeet3
    have hup2 := h; clear h; have h := ho1; clear ho1
    refine Run.block ?_
    refine R.bndS (t := 0) (by rfl) (fun hbd7 => ?_)
    replace hbd7 : b0.length ≤ 9223372036854775807 := by first | (rw [List.length_map] at hbd7; exact hbd7) | simp
    refine R.loop2 (β := Int) [(0, .slice (b0.map int)), (5, int (b0.length : Int))] [] (fun bb S => (6, int bb) :: S) (fun bb M => M) (fun n bb => 0 ≤ bb ∧ bb + n = (b0.length : Int) ∧ s_SetOk_L1 b0 (b0.drop bb.toNat) bb = some o1) b0.length (0 : Int) (by repeat (first | exact trivial | refine ⟨by rfl, ?_⟩ | refine ⟨by simp [setL], ?_⟩)) (by repeat (first | exact trivial | refine ⟨by rfl, ?_⟩ | refine ⟨by simp [setL], ?_⟩)) (by rfl) (by rfl) ⟨Int.le_refl _, by simp, h⟩ ?_
    clear h
    rintro JJ7 n7 z8 hag7 ⟨hza7, hzb7, h⟩
    refine Run.seq ?_
    refine Run.reg ?_
    refine X.bin (by rfl) (by rfl) (by rfl) (by rfl) (by intro h; cases h) (by rfl) ?_
    refine X.nil ?_
    refine Run.seq ?_
    refine R.cond (by rfl) (fun hc11 => ?_) (fun hc11 => ?_)
    · obtain ⟨x9, xs10, hd7, hx7, hds7, hlt7⟩ := drop_atI hza7 hc11
      rw [hd7] at h
      rw [s_SetOk_L1] at h
      refine Run.skip ?_
      refine Run.seq ?_
      refine Run.block ?_
      refine Run.seq ?_
      refine Run.reg ?_
      refine X.move (by rfl) (by rfl) ?_
      refine X.assign (by rfl) (by rfl) ?_
      refine X.nil ?_
      refine Run.seq ?_
      obtain ⟨e12, he12, h2⟩ := bindE h
      refine R.drawG [(0, .slice (b0.map int)), (5, int (b0.length : Int)), (6, int z8), (22, bool e12)] [] (footOf []) mixed (by kernel_rfl) (by kernel_rfl) ?_ ?_
      · clear h; have h := he12; clear he12 h2
        refine X.move (by rfl) (by rfl) ?_
        refine X.bin (by rfl) (by rfl) (by rfl) (by rfl) (by intro h; cases h) (by rfl) ?_
        refine X.move (by rfl) (by rfl) ?_
        refine X.ifG (by rfl) (by rfl) (by rfl) (fun hb13 => ?_) (fun hb13 => ?_)
        · replace h := condT hb13 h
          refine X.move (by rfl) (by rfl) ?_
          refine X.gyes (by rfl) (by rfl) (by first | rfl | assumption | simp_all) ?_
          refine X.move (by rfl) (by rfl) ?_
          refine X.gyes (by rfl) (by rfl) (by first | rfl | assumption | simp_all) ?_
          refine X.sub (by rfl) (by rfl) (by omega) (by rfl) ?_
          refine X.gyes (by rfl) (by rfl) (by first | rfl | assumption | simp_all) ?_
          obtain ⟨v14, hv14, h⟩ := bindE h
          refine X.index_s elt25 (by rfl) (by rfl) (idxL_spec hv14).1 (idxL_map int hv14) (by rfl) (by rfl) (by rfl) ?_
          refine X.gyes (by rfl) (by rfl) (by first | rfl | assumption | simp_all) ?_
          refine X.load_c shp3 (by rfl) (by rfl) (by rfl) (by rfl) ?_
          refine X.gyes (by rfl) (by rfl) (by first | rfl | assumption | simp_all) ?_
          refine X.move (by rfl) (by rfl) ?_
          refine X.gyes (by rfl) (by rfl) (by first | rfl | assumption | simp_all) ?_
          refine X.move (by rfl) (by rfl) ?_
          refine X.gyes (by rfl) (by rfl) (by first | rfl | assumption | simp_all) ?_
          refine X.index_s elt25 (by rfl) (by rfl) (idxL_spec hx7).1 (idxL_map int hx7) (by rfl) (by rfl) (by rfl) ?_
          refine X.gyes (by rfl) (by rfl) (by first | rfl | assumption | simp_all) ?_
          refine X.load_c shp3 (by rfl) (by rfl) (by rfl) (by rfl) ?_
          refine X.gyes (by rfl) (by rfl) (by first | rfl | assumption | simp_all) ?_
          refine X.bin (by rfl) (by rfl) (by rfl) (by rfl) (by intro h; cases h) (by rfl) ?_
          refine X.pickT (by rfl) (by first | rfl | assumption | simp_all) (by rfl) (by rfl) ?_
          cases h
          exact X.endG (by repeat (first | exact trivial | refine ⟨by rfl, ?_⟩ | refine ⟨by simp [setL], ?_⟩)) (by repeat (first | exact trivial | refine ⟨by rfl, ?_⟩ | refine ⟨by simp [setL], ?_⟩)) (by rfl) (by rfl)
        · replace h := condF hb13 h
          refine X.gno (by rfl) (by rfl) (by first | rfl | assumption | simp_all) (by rfl) ?_
          refine X.gno (by rfl) (by rfl) (by first | rfl | assumption | simp_all) (by rfl) ?_
          refine X.gno (by rfl) (by rfl) (by first | rfl | assumption | simp_all) (by rfl) ?_
          refine X.gno (by rfl) (by rfl) (by first | rfl | assumption | simp_all) (by rfl) ?_
          refine X.gno (by rfl) (by rfl) (by first | rfl | assumption | simp_all) (by rfl) ?_
          refine X.gno (by rfl) (by rfl) (by first | rfl | assumption | simp_all) (by rfl) ?_
          refine X.gno (by rfl) (by rfl) (by first | rfl | assumption | simp_all) (by rfl) ?_
          refine X.gno (by rfl) (by rfl) (by first | rfl | assumption | simp_all) (by rfl) ?_
          refine X.gno (by rfl) (by rfl) (by first | rfl | assumption | simp_all) (by rfl) ?_
          refine X.pickF (by rfl) (by first | rfl | assumption | simp_all) (by rfl) (by rfl) ?_
          cases h
          exact X.endG (by repeat (first | exact trivial | refine ⟨by rfl, ?_⟩ | refine ⟨by simp [setL], ?_⟩)) (by repeat (first | exact trivial | refine ⟨by rfl, ?_⟩ | refine ⟨by simp [setL], ?_⟩)) (by rfl) (by rfl)
      replace h := h2; clear h2
      refine R.cond (by rfl) (fun hc15 => ?_) (fun hc15 => ?_)
      · replace h := condT hc15 h
        refine Run.seq ?_
        refine Run.reg ?_
        refine X.assign (by rfl) (by rfl) ?_
        refine X.nil ?_
        cases h
        have h := hup2
        replace h := elimR h
        cases h
        refine R.fin1 Try.results92 (by rfl) (by rfl) ?_
        rfl
      · replace h := condF hc15 h
        refine Run.skip ?_
        refine Run.blk ?_
        refine Run.reg ?_
        refine X.add (by rfl) (by rfl) (by omega) (by rfl) ?_
        refine X.move (by rfl) (by rfl) ?_
        refine X.nil ?_
        exact hag7 (n7 - 1) (z8 + 1) _ _ (by omega) ⟨by first | omega | (dsimp only; omega), by first | omega | (dsimp only; omega), by first | (rw [hds7]; exact h) | (dsimp only; rw [hds7]; exact h)⟩ (by repeat (first | exact trivial | refine ⟨by rfl, ?_⟩ | refine ⟨by simp [setL], ?_⟩)) (by repeat (first | exact trivial | refine ⟨by rfl, ?_⟩ | refine ⟨by simp [setL], ?_⟩)) (by rfl) (by rfl)
    · rw [drop_endI hza7 hc11] at h
      rw [s_SetOk_L1] at h
      refine Run.exit (by rfl) ?_
      exact hmeet3 () _ _ (Option.some.inj h) (by repeat (first | exact trivial | refine ⟨by rfl, ?_⟩ | refine ⟨by simp [setL], ?_⟩)) (by repeat (first | exact trivial | refine ⟨by rfl, ?_⟩ | refine ⟨by simp [setL], ?_⟩)) (by rfl) (by rfl)
  rintro p16 rfl
  replace h := elimL h
  refine Run.seq ?_
  refine Run.reg ?_
  refine X.assign (by rfl) (by rfl) ?_
  refine X.nil ?_
  cases h
  refine R.fin1 Try.results92 (by rfl) (by rfl) ?_
  rfl
theorem s_IntRange_pc (b0 : Int) (r : List Int) (h : s_IntRange b0 = some r) : PC Try.prog 94 [int b0] (.fresh false 3 1 (r.map int)) := by
  unfold s_IntRange at h
  refine PC.start Try.func94 Try.ntmps94 rfl ok94 rfl ?_
  refine Run.seq ?_
  refine Run.reg ?_
  refine X.assign (by rfl) (by rfl) ?_
  refine X.nil ?_
  refine Run.seq ?_
  refine Run.reg ?_
  refine X.buildSlice false elt25 zer3 (by rfl) (by rfl) (by rfl) (by rfl) (by rfl) (by rfl) (by repeat (first | exact trivial | refine ⟨by rfl, ?_⟩ | refine ⟨by simp [setL], ?_⟩)) (allSz_spec (by rfl)) (by rfl) (by rfl) (by rfl) ?_
  refine X.assign (by rfl) (by rfl) ?_
  refine X.nil ?_
  refine Run.seq ?_
  refine Run.seq ?_
  refine Run.reg ?_
  refine X.move (by rfl) (by rfl) ?_
  obtain ⟨v1, hv1, h⟩ := bindE h
  refine X.callP (s_l01In_pc _ _ _ _ hv1) (by rfl) (by rfl) (by rfl) (by repeat (first | exact trivial | refine ⟨by rfl, ?_⟩ | refine ⟨by simp [setL], ?_⟩)) (by rfl) (by rfl) (by rfl) (by rfl) ?_
  refine X.un (by rfl) (by rfl) (by rfl) ?_
  refine X.nil ?_
  refine R.cond (by rfl) (fun hc2 => ?_) (fun hc2 => ?_)
  · replace h := condT hc2 h
    refine Run.seq ?_
    refine Run.reg ?_
    refine X.assign (by rfl) (by rfl) ?_
    refine X.nil ?_
    cases h
    refine R.fin1n (x := false) (e := 3) (sz := 1) Try.results94 (by rfl) (by decide) ?_
    rfl
  · replace h := condF hc2 h
    refine Run.skip ?_
    refine Run.seq ?_
    refine Run.seq ?_
    refine Run.reg ?_
    refine X.assign (by rfl) (by rfl) ?_
    refine X.nil ?_
    obtain ⟨o3, ho3, h⟩ := bindE h
    refine R.join2 (β := (List Int)) [] [] (fun p15 S => (3, .own 320 (p15.map int).length) :: S) (fun p15 M => (320, .obj false 3 1 (p15.map int)) :: M) (fun p15 => p15 = o3) ?_ ?_
    · intro JJ6 hmeet5
      have hup4 := h; clear h; have h := ho3; clear ho3
      refine Run.block ?_
      refine R.loop2 (β := Int × (List Int)) [(0, int b0)] [] (fun bb S => (3, .own 320 (bb.2.map int).length) :: (4, int bb.1) :: S) (fun bb M => (320, .obj false 3 1 (bb.2.map int)) :: M) (fun n bb => s_IntRange_L1 b0 n bb.1 bb.2 = some o3) F0 (0, ([] : List Int)) (by repeat (first | exact trivial | refine ⟨by rfl, ?_⟩ | refine ⟨by simp [setL], ?_⟩)) (by repeat (first | exact trivial | refine ⟨by rfl, ?_⟩ | refine ⟨by simp [setL], ?_⟩)) (by rfl) (by rfl) h ?_
      clear h
      rintro JJ7 n7 ⟨a9, a10⟩ hag7 h
      dsimp only at h
      obtain _ | n7 := n7
      · exact absurd h (by simp [s_IntRange_L1])
      rw [s_IntRange_L1] at h
      refine Run.seq ?_
      refine Run.seq ?_
      refine Run.reg ?_
      refine X.move (by rfl) (by rfl) ?_
      refine X.move (by rfl) (by rfl) ?_
      refine X.bin (by rfl) (by rfl) (by rfl) (by rfl) (by intro h; cases h) (by rfl) ?_
      refine X.nil ?_
      refine R.cond (by rfl) (fun hc13 => ?_) (fun hc13 => ?_)
      · replace h := condT hc13 h
        refine Run.skip ?_
        refine Run.seq ?_
        refine Run.block ?_
        refine Run.reg ?_
        refine X.move (by rfl) (by rfl) ?_
        refine X.move (by rfl) (by rfl) ?_
        refine X.buildSlice false elt25 zer3 (by rfl) (by rfl) (by rfl) (by rfl) (by rfl) (by rfl) (by repeat (first | exact trivial | refine ⟨by rfl, ?_⟩ | refine ⟨by simp [setL], ?_⟩)) (allSz_spec (by rfl)) (by rfl) (by rfl) (by rfl) ?_
        obtain ⟨v14, hv14, h⟩ := bindE h
        refine X.append elt25 zer3 (by rfl) (by rfl) (by first | rfl | simp [setL] | omega) (by rfl) (.own _ _ _ _ _ _ (look_mem (by rfl)) (by first | rfl | simp [setL] | omega)) (allSz_spec (by rfl)) (appL_len int hv14) (appL_map int hv14) (by rfl) (by rfl) (by rfl) (by rfl) ?_
        refine X.assign (by rfl) (by rfl) ?_
        refine X.nil ?_
        refine Run.blk ?_
        refine Run.reg ?_
        refine X.move (by rfl) (by rfl) ?_
        refine X.addW (by rfl) (by rfl) (by rfl) ?_
        refine X.assign (by rfl) (by rfl) ?_
        refine X.nil ?_
        exact hag7 n7 ((W (a9 + 1)), v14) _ _ (by omega) h (by repeat (first | exact trivial | refine ⟨by rfl, ?_⟩ | refine ⟨by simp [setL], ?_⟩)) (by repeat (first | exact trivial | refine ⟨by rfl, ?_⟩ | refine ⟨by simp [setL], ?_⟩)) (by rfl) (by rfl)
      · replace h := condF hc13 h
        refine Run.exit (by rfl) ?_
        exact hmeet5 a10 _ _ (Option.some.inj h) (by repeat (first | exact trivial | refine ⟨by rfl, ?_⟩ | refine ⟨by simp [setL], ?_⟩)) (by repeat (first | exact trivial | refine ⟨by rfl, ?_⟩ | refine ⟨by simp [setL], ?_⟩)) (by rfl) (by rfl)
    rintro p15 rfl
    refine Run.seq ?_
    refine Run.reg ?_
    refine X.move (by rfl) (by rfl) ?_
    refine X.assign (by rfl) (by rfl) ?_
    refine X.nil ?_
    cases h
    refine R.fin1o Try.results94 (by rfl) (by rfl) (by first | rfl | simp [setL] | omega) ?_
    rfl
theorem s_SetHas_pc (b0 : List Int) (b1 : Int) (r : Bool) (h : s_SetHas b0 b1 = some r) : PC Try.prog 165 [.slice (b0.map int), int b1] (bool r) := by
  unfold s_SetHas at h
  refine PC.start Try.func165 Try.ntmps165 rfl ok165 rfl ?_
  refine Run.seq ?_
  refine Run.reg ?_
  refine X.assign (by rfl) (by rfl) ?_
  refine X.nil ?_
  refine Run.seq ?_
  refine Run.seq ?_
  refine Run.reg ?_
  refine X.move (by rfl) (by rfl) ?_
  refine X.len_s elt25 (by rfl) (by exact List.length_map ..) (by rfl) ?_
  refine X.move (by rfl) (by rfl) ?_
  refine X.nil ?_
  obtain ⟨o1, ho1, h⟩ := bindE h
  refine R.join2 (β := Unit) [] [] (fun p13 S => S) (fun p13 M => M) (fun p13 => (Sum.inl p13) = o1) ?_ ?_
  · intro JJ4 hmeet3
    have hup2 := h; clear h; have h := ho1; clear ho1
    refine Run.block ?_
    refine R.bndS (t := 0) (by rfl) (fun hbd7 => ?_)
    replace hbd7 : b0.length ≤ 9223372036854775807 := by first | (rw [List.length_map] at hbd7; exact hbd7) | simp
    refine R.loop2 (β := Int) [(1, int b1), (7, .slice (b0.map int)), (8, int (b0.length : Int))] [] (fun bb S => (9, int bb) :: S) (fun bb M => M) (fun n bb => 0 ≤ bb ∧ bb + n = (b0.length : Int) ∧ s_SetHas_L1 b1 (b0.drop bb.toNat) bb = some o1) b0.length (0 : Int) (by repeat (first | exact trivial | refine ⟨by rfl, ?_⟩ | refine ⟨by simp [setL], ?_⟩)) (by repeat (first | exact trivial | refine ⟨by rfl, ?_⟩ | refine ⟨by simp [setL], ?_⟩)) (by rfl) (by rfl) ⟨Int.le_refl _, by simp, h⟩ ?_
    clear h
    rintro JJ7 n7 z8 hag7 ⟨hza7, hzb7, h⟩
    refine Run.seq ?_
    refine Run.reg ?_
    refine X.bin (by rfl) (by rfl) (by rfl) (by rfl) (by intro h; cases h) (by rfl) ?_
    refine X.nil ?_
    refine Run.seq ?_
    refine R.cond (by rfl) (fun hc11 => ?_) (fun hc11 => ?_)
    · obtain ⟨x9, xs10, hd7, hx7, hds7, hlt7⟩ := drop_atI hza7 hc11
      rw [hd7] at h
      rw [s_SetHas_L1] at h
      refine Run.skip ?_
      refine Run.seq ?_
      refine Run.block ?_
      refine Run.seq ?_
      refine Run.reg ?_
      refine X.index_s elt25 (by rfl) (by rfl) (idxL_spec hx7).1 (idxL_map int hx7) (by rfl) (by rfl) (by rfl) ?_
      refine X.load_c shp3 (by rfl) (by rfl) (by rfl) (by rfl) ?_
      refine X.assign (by rfl) (by rfl) ?_
      refine X.nil ?_
      refine Run.seq ?_
      refine Run.reg ?_
      refine X.move (by rfl) (by rfl) ?_
      refine X.move (by rfl) (by rfl) ?_
      refine X.bin (by rfl) (by rfl) (by rfl) (by rfl) (by intro h; cases h) (by rfl) ?_
      refine X.nil ?_
      refine R.cond (by rfl) (fun hc12 => ?_) (fun hc12 => ?_)
      · replace h := condT hc12 h
        refine Run.seq ?_
        refine Run.reg ?_
        refine X.assign (by rfl) (by rfl) ?_
        refine X.nil ?_
        cases h
        have h := hup2
        replace h := elimR h
        cases h
        refine R.fin1 Try.results165 (by rfl) (by rfl) ?_
        rfl
      · replace h := condF hc12 h
        refine Run.skip ?_
        refine Run.blk ?_
        refine Run.reg ?_
        refine X.add (by rfl) (by rfl) (by omega) (by rfl) ?_
        refine X.move (by rfl) (by rfl) ?_
        refine X.nil ?_
        exact hag7 (n7 - 1) (z8 + 1) _ _ (by omega) ⟨by first | omega | (dsimp only; omega), by first | omega | (dsimp only; omega), by first | (rw [hds7]; exact h) | (dsimp only; rw [hds7]; exact h)⟩ (by repeat (first | exact trivial | refine ⟨by rfl, ?_⟩ | refine ⟨by simp [setL], ?_⟩)) (by repeat (first | exact trivial | refine ⟨by rfl, ?_⟩ | refine ⟨by simp [setL], ?_⟩)) (by rfl) (by rfl)
    · rw [drop_endI hza7 hc11] at h
      rw [s_SetHas_L1] at h
      refine Run.exit (by rfl) ?_
      exact hmeet3 () _ _ (Option.some.inj h) (by repeat (first | exact trivial | refine ⟨by rfl, ?_⟩ | refine ⟨by simp [setL], ?_⟩)) (by repeat (first | exact trivial | refine ⟨by rfl, ?_⟩ | refine ⟨by simp [setL], ?_⟩)) (by rfl) (by rfl)
  rintro p13 rfl
  replace h := elimL h
  refine Run.seq ?_
  refine Run.reg ?_
  refine X.assign (by rfl) (by rfl) ?_
  refine X.nil ?_
  cases h
  refine R.fin1 Try.results165 (by rfl) (by rfl) ?_
  rfl
theorem s_SetSubset_pc (b0 : List Int) (b1 : List Int) (r : Bool) (h : s_SetSubset b0 b1 = some r) : PC Try.prog 93 [.slice (b0.map int), .slice (b1.map int)] (bool r) := by
  unfold s_SetSubset at h
  refine PC.start Try.func93 Try.ntmps93 rfl ok93 rfl ?_
  refine Run.seq ?_
  refine Run.reg ?_
  refine X.assign (by rfl) (by rfl) ?_
  refine X.nil ?_
  refine Run.seq ?_
  refine Run.seq ?_
  refine Run.reg ?_
  refine X.move (by rfl) (by rfl) ?_
  refine X.len_s elt25 (by rfl) (by exact List.length_map ..) (by rfl) ?_
  refine X.move (by rfl) (by rfl) ?_
  refine X.nil ?_
  obtain ⟨o1, ho1, h⟩ := bindE h
  refine R.join2 (β := Unit) [] [] (fun p14 S => S) (fun p14 M => M) (fun p14 => (Sum.inl p14) = o1) ?_ ?_
  · intro JJ4 hmeet3
    have hup2 := h; clear h; have h := ho1; clear ho1
    refine Run.block ?_
    refine R.bndS (t := 0) (by rfl) (fun hbd7 => ?_)
    replace hbd7 : b0.length ≤ 9223372036854775807 := by first | (rw [List.length_map] at hbd7; exact hbd7) | simp
    refine R.loop2 (β := Int) [(1, .slice (b1.map int)), (7, .slice (b0.map int)), (8, int (b0.length : Int))] [] (fun bb S => (9, int bb) :: S) (fun bb M => M) (fun n bb => 0 ≤ bb ∧ bb + n = (b0.length : Int) ∧ s_SetSubset_L1 b1 (b0.drop bb.toNat) bb = some o1) b0.length (0 : Int) (by repeat (first | exact trivial | refine ⟨by rfl, ?_⟩ | refine ⟨by simp [setL], ?_⟩)) (by repeat (first | exact trivial | refine ⟨by rfl, ?_⟩ | refine ⟨by simp [setL], ?_⟩)) (by rfl) (by rfl) ⟨Int.le_refl _, by simp, h⟩ ?_
    clear h
    rintro JJ7 n7 z8 hag7 ⟨hza7, hzb7, h⟩
    refine Run.seq ?_
    refine Run.reg ?_
    refine X.bin (by rfl) (by rfl) (by rfl) (by rfl) (by intro h; cases h) (by rfl) ?_
    refine X.nil ?_
    refine Run.seq ?_
    refine R.cond (by rfl) (fun hc11 => ?_) (fun hc11 => ?_)
    · obtain ⟨x9, xs10, hd7, hx7, hds7, hlt7⟩ := drop_atI hza7 hc11
      rw [hd7] at h
      rw [s_SetSubset_L1] at h
      refine Run.skip ?_
      refine Run.seq ?_
      refine Run.block ?_
      refine Run.seq ?_
      refine Run.reg ?_
      refine X.index_s elt25 (by rfl) (by rfl) (idxL_spec hx7).1 (idxL_map int hx7) (by rfl) (by rfl) (by rfl) ?_
      refine X.load_c shp3 (by rfl) (by rfl) (by rfl) (by rfl) ?_
      refine X.assign (by rfl) (by rfl) ?_
      refine X.nil ?_
      refine Run.seq ?_
      refine Run.reg ?_
      refine X.move (by rfl) (by rfl) ?_
      refine X.move (by rfl) (by rfl) ?_
      obtain ⟨v12, hv12, h⟩ := bindE h
      refine X.callP (s_SetHas_pc _ _ _ hv12) (by rfl) (by rfl) (by rfl) (by repeat (first | exact trivial | refine ⟨by rfl, ?_⟩ | refine ⟨by simp [setL], ?_⟩)) (by rfl) (by rfl) (by rfl) (by rfl) ?_
      refine X.un (by rfl) (by rfl) (by rfl) ?_
      refine X.nil ?_
      refine R.cond (by rfl) (fun hc13 => ?_) (fun hc13 => ?_)
      · replace h := condT hc13 h
        refine Run.seq ?_
        refine Run.reg ?_
        refine X.assign (by rfl) (by rfl) ?_
        refine X.nil ?_
        cases h
        have h := hup2
        replace h := elimR h
        cases h
        refine R.fin1 Try.results93 (by rfl) (by rfl) ?_
        rfl
      · replace h := condF hc13 h
        refine Run.skip ?_
        refine Run.blk ?_
        refine Run.reg ?_
        refine X.add (by rfl) (by rfl) (by omega) (by rfl) ?_
        refine X.move (by rfl) (by rfl) ?_
        refine X.nil ?_
        exact hag7 (n7 - 1) (z8 + 1) _ _ (by omega) ⟨by first | omega | (dsimp only; omega), by first | omega | (dsimp only; omega), by first | (rw [hds7]; exact h) | (dsimp only; rw [hds7]; exact h)⟩ (by repeat (first | exact trivial | refine ⟨by rfl, ?_⟩ | refine ⟨by simp [setL], ?_⟩)) (by repeat (first | exact trivial | refine ⟨by rfl, ?_⟩ | refine ⟨by simp [setL], ?_⟩)) (by rfl) (by rfl)
    · rw [drop_endI hza7 hc11] at h
      rw [s_SetSubset_L1] at h
      refine Run.exit (by rfl) ?_
      exact hmeet3 () _ _ (Option.some.inj h) (by repeat (first | exact trivial | refine ⟨by rfl, ?_⟩ | refine ⟨by simp [setL], ?_⟩)) (by repeat (first | exact trivial | refine ⟨by rfl, ?_⟩ | refine ⟨by simp [setL], ?_⟩)) (by rfl) (by rfl)
  rintro p14 rfl
  replace h := elimL h
  refine Run.seq ?_
  refine Run.reg ?_
  refine X.assign (by rfl) (by rfl) ?_
  refine X.nil ?_
  cases h
  refine R.fin1 Try.results93 (by rfl) (by rfl) ?_
  rfl
theorem i_SetOk_pc (b0 : List Int) (r : Bool) (h : i_SetOk b0 = some r) : PC Try.prog 97 [.slice (b0.map int)] (bool r) := by
  unfold i_SetOk at h
  refine PC.start Try.func97 Try.ntmps97 rfl ok97 rfl ?_
  refine Run.seq ?_
  refine Run.reg ?_
  refine X.assign (by rfl) (by rfl) ?_
  refine X.nil ?_
  refine Run.seq ?_
  refine Run.seq ?_
  refine Run.reg ?_
  refine X.assign (by rfl) (by rfl) ?_
  refine X.nil ?_
  obtain ⟨o1, ho1, h⟩ := bindE h
  refine R.join2 (β := Unit) [] [] (fun p13 S => S) (fun p13 M => M) (fun p13 => (Sum.inl p13) = o1) ?_ ?_
  · intro JJ4 hmeet3
    have hup2 := h; clear h; have h := ho1; clear ho1
    refine Run.block ?_
    refine R.loop2 (β := Int) [(0, .slice (b0.map int))] [] (fun bb S => (3, int bb) :: S) (fun bb M => M) (fun n bb => i_SetOk_L1 b0 n bb = some o1) F0 1 (by repeat (first | exact trivial | refine ⟨by rfl, ?_⟩ | refine ⟨by simp [setL], ?_⟩)) (by repeat (first | exact trivial | refine ⟨by rfl, ?_⟩ | refine ⟨by simp [setL], ?_⟩)) (by rfl) (by rfl) h ?_
    clear h
    rintro JJ4 n4 a6 hag4 h
    obtain _ | n4 := n4
    · exact absurd h (by simp [i_SetOk_L1])
    rw [i_SetOk_L1] at h
    refine Run.seq ?_
    refine Run.seq ?_
    refine Run.reg ?_
    refine X.move (by rfl) (by rfl) ?_
    refine X.move (by rfl) (by rfl) ?_
    refine X.len_s elt25 (by rfl) (by exact List.length_map ..) (by rfl) ?_
    refine X.bin (by rfl) (by rfl) (by rfl) (by rfl) (by intro h; cases h) (by rfl) ?_
    refine X.nil ?_
    refine R.cond (by rfl) (fun hc9 => ?_) (fun hc9 => ?_)
    · replace h := condT hc9 h
      refine Run.skip ?_
      refine Run.seq ?_
      refine Run.block ?_
      refine Run.seq ?_
      refine Run.draw (footOf []) mixed (by kernel_rfl) (by kernel_rfl) ?_
      refine X.move (by rfl) (by rfl) ?_
      refine X.move (by rfl) (by rfl) ?_
      obtain ⟨v10, hv10, h⟩ := bindE h
      refine X.index_s elt25 (by rfl) (by rfl) (idxL_spec hv10).1 (idxL_map int hv10) (by rfl) (by rfl) (by rfl) ?_
      refine X.load_c shp3 (by rfl) (by rfl) (by rfl) (by rfl) ?_
      refine X.move (by rfl) (by rfl) ?_
      refine X.move (by rfl) (by rfl) ?_
      refine X.subW (by rfl) (by rfl) (by rfl) ?_
      obtain ⟨v11, hv11, h⟩ := bindE h
      refine X.index_s elt25 (by rfl) (by rfl) (idxL_spec hv11).1 (idxL_map int hv11) (by rfl) (by rfl) (by rfl) ?_
      refine X.load_c shp3 (by rfl) (by rfl) (by rfl) (by rfl) ?_
      refine X.bin (by rfl) (by rfl) (by rfl) (by rfl) (by intro h; cases h) (by rfl) ?_
      refine X.nil ?_
      refine R.cond (by rfl) (fun hc12 => ?_) (fun hc12 => ?_)
      · replace h := condT hc12 h
        refine Run.seq ?_
        refine Run.reg ?_
        refine X.assign (by rfl) (by rfl) ?_
        refine X.nil ?_
        cases h
        have h := hup2
        replace h := elimR h
        cases h
        refine R.fin1 Try.results97 (by rfl) (by rfl) ?_
        rfl
      · replace h := condF hc12 h
        refine Run.skip ?_
        refine Run.blk ?_
        refine Run.reg ?_
        refine X.move (by rfl) (by rfl) ?_
        refine X.addW (by rfl) (by rfl) (by rfl) ?_
        refine X.assign (by rfl) (by rfl) ?_
        refine X.nil ?_
        exact hag4 n4 (W (a6 + 1)) _ _ (by omega) h (by repeat (first | exact trivial | refine ⟨by rfl, ?_⟩ | refine ⟨by simp [setL], ?_⟩)) (by repeat (first | exact trivial | refine ⟨by rfl, ?_⟩ | refine ⟨by simp [setL], ?_⟩)) (by rfl) (by rfl)
    · replace h := condF hc9 h
      refine Run.exit (by rfl) ?_
      exact hmeet3 () _ _ (Option.some.inj h) (by repeat (first | exact trivial | refine ⟨by rfl, ?_⟩ | refine ⟨by simp [setL], ?_⟩)) (by repeat (first | exact trivial | refine ⟨by rfl, ?_⟩ | refine ⟨by simp [setL], ?_⟩)) (by rfl) (by rfl)
  rintro p13 rfl
  replace h := elimL h
  refine Run.seq ?_
  refine Run.reg ?_
  refine X.assign (by rfl) (by rfl) ?_
  refine X.nil ?_
  cases h
  refine R.fin1 Try.results97 (by rfl) (by rfl) ?_
  rfl
theorem i_IntRange_pc (b0 : Int) (r : List Int) (h : i_IntRange b0 = some r) : PC Try.prog 99 [int b0] (.fresh false 3 1 (r.map int)) := by
  unfold i_IntRange at h
  refine PC.start Try.func99 Try.ntmps99 rfl ok99 rfl ?_
  refine Run.seq ?_
  refine Run.reg ?_
  refine X.assign (by rfl) (by rfl) ?_
  refine X.nil ?_
  refine Run.seq ?_
  refine Run.seq ?_
  refine Run.reg ?_
  refine X.move (by rfl) (by rfl) ?_
  obtain ⟨v1, hv1, h⟩ := bindE h
  refine X.callP (i_within_pc _ _ _ _ hv1) (by rfl) (by rfl) (by rfl) (by repeat (first | exact trivial | refine ⟨by rfl, ?_⟩ | refine ⟨by simp [setL], ?_⟩)) (by rfl) (by rfl) (by rfl) (by rfl) ?_
  refine X.un (by rfl) (by rfl) (by rfl) ?_
  refine X.nil ?_
  refine R.cond (by rfl) (fun hc2 => ?_) (fun hc2 => ?_)
  · replace h := condT hc2 h
    refine Run.seq ?_
    refine Run.reg ?_
    refine X.assign (by rfl) (by rfl) ?_
    refine X.nil ?_
    cases h
    refine R.fin1n (x := false) (e := 3) (sz := 1) Try.results99 (by rfl) (by decide) ?_
    rfl
  · replace h := condF hc2 h
    refine Run.skip ?_
    refine Run.seq ?_
    refine Run.reg ?_
    refine X.buildSlice false elt25 zer3 (by rfl) (by rfl) (by rfl) (by rfl) (by rfl) (by rfl) (by repeat (first | exact trivial | refine ⟨by rfl, ?_⟩ | refine ⟨by simp [setL], ?_⟩)) (allSz_spec (by rfl)) (by rfl) (by rfl) (by rfl) ?_
    refine X.assign (by rfl) (by rfl) ?_
    refine X.nil ?_
    refine Run.seq ?_
    refine Run.seq ?_
    refine Run.reg ?_
    refine X.move (by rfl) (by rfl) ?_
    refine X.move (by rfl) (by rfl) ?_
    refine X.nil ?_
    obtain ⟨o3, ho3, h⟩ := bindE h
    refine R.join2 (β := (List Int)) [] [] (fun p15 S => (3, .own 512 (p15.map int).length) :: S) (fun p15 M => (512, .obj false 3 1 (p15.map int)) :: M) (fun p15 => p15 = o3) ?_ ?_
    · intro JJ6 hmeet5
      have hup4 := h; clear h; have h := ho3; clear ho3
      refine Run.block ?_
      refine R.loop2 (β := Int × (List Int)) [(9, int b0)] [] (fun bb S => (3, .own 512 (bb.2.map int).length) :: (10, int bb.1) :: S) (fun bb M => (512, .obj false 3 1 (bb.2.map int)) :: M) (fun n bb => i_IntRange_L1 b0 n bb.1 bb.2 = some o3) F0 (0, ([] : List Int)) (by repeat (first | exact trivial | refine ⟨by rfl, ?_⟩ | refine ⟨by simp [setL], ?_⟩)) (by repeat (first | exact trivial | refine ⟨by rfl, ?_⟩ | refine ⟨by simp [setL], ?_⟩)) (by rfl) (by rfl) h ?_
      clear h
      rintro JJ7 n7 ⟨a9, a10⟩ hag7 h
      dsimp only at h
      obtain _ | n7 := n7
      · exact absurd h (by simp [i_IntRange_L1])
      rw [i_IntRange_L1] at h
      refine Run.seq ?_
      refine Run.reg ?_
      refine X.bin (by rfl) (by rfl) (by rfl) (by rfl) (by intro h; cases h) (by rfl) ?_
      refine X.nil ?_
      refine Run.seq ?_
      refine R.cond (by rfl) (fun hc13 => ?_) (fun hc13 => ?_)
      · replace h := condT hc13 h
        refine Run.skip ?_
        refine Run.seq ?_
        refine Run.block ?_
        refine Run.seq ?_
        refine Run.reg ?_
        refine X.move (by rfl) (by rfl) ?_
        refine X.assign (by rfl) (by rfl) ?_
        refine X.nil ?_
        refine Run.reg ?_
        refine X.move (by rfl) (by rfl) ?_
        refine X.move (by rfl) (by rfl) ?_
        refine X.buildSlice false elt25 zer3 (by rfl) (by rfl) (by rfl) (by rfl) (by rfl) (by rfl) (by repeat (first | exact trivial | refine ⟨by rfl, ?_⟩ | refine ⟨by simp [setL], ?_⟩)) (allSz_spec (by rfl)) (by rfl) (by rfl) (by rfl) ?_
        obtain ⟨v14, hv14, h⟩ := bindE h
        refine X.append elt25 zer3 (by rfl) (by rfl) (by first | rfl | simp [setL] | omega) (by rfl) (.own _ _ _ _ _ _ (look_mem (by rfl)) (by first | rfl | simp [setL] | omega)) (allSz_spec (by rfl)) (appL_len int hv14) (appL_map int hv14) (by rfl) (by rfl) (by rfl) (by rfl) ?_
        refine X.assign (by rfl) (by rfl) ?_
        refine X.nil ?_
        refine Run.blk ?_
        refine Run.reg ?_
        refine X.addW (by rfl) (by rfl) (by rfl) ?_
        refine X.move (by rfl) (by rfl) ?_
        refine X.nil ?_
        exact hag7 n7 ((W (a9 + 1)), v14) _ _ (by omega) h (by repeat (first | exact trivial | refine ⟨by rfl, ?_⟩ | refine ⟨by simp [setL], ?_⟩)) (by repeat (first | exact trivial | refine ⟨by rfl, ?_⟩ | refine ⟨by simp [setL], ?_⟩)) (by rfl) (by rfl)
      · replace h := condF hc13 h
        refine Run.exit (by rfl) ?_
        exact hmeet5 a10 _ _ (Option.some.inj h) (by repeat (first | exact trivial | refine ⟨by rfl, ?_⟩ | refine ⟨by simp [setL], ?_⟩)) (by repeat (first | exact trivial | refine ⟨by rfl, ?_⟩ | refine ⟨by simp [setL], ?_⟩)) (by rfl) (by rfl)
    rintro p15 rfl
    refine Run.seq ?_
    refine Run.reg ?_
    refine X.move (by rfl) (by rfl) ?_
    refine X.assign (by rfl) (by rfl) ?_
    refine X.nil ?_
    cases h
    refine R.fin1o Try.results99 (by rfl) (by rfl) (by first | rfl | simp [setL] | omega) ?_
    rfl
theorem slices_Index_int_pc (b0 : List Int) (b1 : Int) (r : Int) (h : slices_Index_int b0 b1 = some r) : PC Try.prog 234 [.slice (b0.map int), int b1] (int r) := by
  unfold slices_Index_int at h
  refine PC.start Try.func234 Try.ntmps234 rfl ok234 rfl ?_
  refine Run.seq ?_
  refine Run.reg ?_
  refine X.assign (by rfl) (by rfl) ?_
  refine X.nil ?_
  refine Run.seq ?_
  refine Run.seq ?_
  refine Run.reg ?_
  refine X.move (by rfl) (by rfl) ?_
  refine X.len_s elt25 (by rfl) (by exact List.length_map ..) (by rfl) ?_
  refine X.move (by rfl) (by rfl) ?_
  refine X.nil ?_
  obtain ⟨o1, ho1, h⟩ := bindE h
  refine R.join2 (β := Unit) [] [] (fun p13 S => S) (fun p13 M => M) (fun p13 => (Sum.inl p13) = o1) ?_ ?_
  · intro JJ4 hmeet3
    have hup2 := h; clear h; have h := ho1; clear ho1
    refine Run.block ?_
    refine R.bndS (t := 0) (by rfl) (fun hbd7 => ?_)
    replace hbd7 : b0.length ≤ 9223372036854775807 := by first | (rw [List.length_map] at hbd7; exact hbd7) | simp
    refine R.loop2 (β := Int) [(0, .slice (b0.map int)), (1, int b1), (7, int (b0.length : Int))] [] (fun bb S => (8, int bb) :: S) (fun bb M => M) (fun n bb => 0 ≤ bb ∧ bb + n = (b0.length : Int) ∧ slices_Index_int_L1 b1 (b0.drop bb.toNat) bb = some o1) b0.length (0 : Int) (by repeat (first | exact trivial | refine ⟨by rfl, ?_⟩ | refine ⟨by simp [setL], ?_⟩)) (by repeat (first | exact trivial | refine ⟨by rfl, ?_⟩ | refine ⟨by simp [setL], ?_⟩)) (by rfl) (by rfl) ⟨Int.le_refl _, by simp, h⟩ ?_
    clear h
    rintro JJ7 n7 z8 hag7 ⟨hza7, hzb7, h⟩
    refine Run.seq ?_
    refine Run.reg ?_
    refine X.bin (by rfl) (by rfl) (by rfl) (by rfl) (by intro h; cases h) (by rfl) ?_
    refine X.nil ?_
    refine Run.seq ?_
    refine R.cond (by rfl) (fun hc11 => ?_) (fun hc11 => ?_)
    · obtain ⟨x9, xs10, hd7, hx7, hds7, hlt7⟩ := drop_atI hza7 hc11
      rw [hd7] at h
      rw [slices_Index_int_L1] at h
      refine Run.skip ?_
      refine Run.seq ?_
      refine Run.block ?_
      refine Run.seq ?_
      refine Run.reg ?_
      refine X.move (by rfl) (by rfl) ?_
      refine X.assign (by rfl) (by rfl) ?_
      refine X.nil ?_
      refine Run.seq ?_
      refine Run.reg ?_
      refine X.move (by rfl) (by rfl) ?_
      refine X.move (by rfl) (by rfl) ?_
      refine X.move (by rfl) (by rfl) ?_
      refine X.index_s elt25 (by rfl) (by rfl) (idxL_spec hx7).1 (idxL_map int hx7) (by rfl) (by rfl) (by rfl) ?_
      refine X.load_c shp3 (by rfl) (by rfl) (by rfl) (by rfl) ?_
      refine X.bin (by rfl) (by rfl) (by rfl) (by rfl) (by intro h; cases h) (by rfl) ?_
      refine X.nil ?_
      refine R.cond (by rfl) (fun hc12 => ?_) (fun hc12 => ?_)
      · replace h := condT hc12 h
        refine Run.seq ?_
        refine Run.reg ?_
        refine X.move (by rfl) (by rfl) ?_
        refine X.assign (by rfl) (by rfl) ?_
        refine X.nil ?_
        cases h
        have h := hup2
        replace h := elimR h
        cases h
        refine R.fin1 Try.results234 (by rfl) (by rfl) ?_
        rfl
      · replace h := condF hc12 h
        refine Run.skip ?_
        refine Run.blk ?_
        refine Run.reg ?_
        refine X.add (by rfl) (by rfl) (by omega) (by rfl) ?_
        refine X.move (by rfl) (by rfl) ?_
        refine X.nil ?_
        exact hag7 (n7 - 1) (z8 + 1) _ _ (by omega) ⟨by first | omega | (dsimp only; omega), by first | omega | (dsimp only; omega), by first | (rw [hds7]; exact h) | (dsimp only; rw [hds7]; exact h)⟩ (by repeat (first | exact trivial | refine ⟨by rfl, ?_⟩ | refine ⟨by simp [setL], ?_⟩)) (by repeat (first | exact trivial | refine ⟨by rfl, ?_⟩ | refine ⟨by simp [setL], ?_⟩)) (by rfl) (by rfl)
    · rw [drop_endI hza7 hc11] at h
      rw [slices_Index_int_L1] at h
      refine Run.exit (by rfl) ?_
      exact hmeet3 () _ _ (Option.some.inj h) (by repeat (first | exact trivial | refine ⟨by rfl, ?_⟩ | refine ⟨by simp [setL], ?_⟩)) (by repeat (first | exact trivial | refine ⟨by rfl, ?_⟩ | refine ⟨by simp [setL], ?_⟩)) (by rfl) (by rfl)
  rintro p13 rfl
  replace h := elimL h
  refine Run.seq ?_
  refine Run.reg ?_
  refine X.assign (by rfl) (by rfl) ?_
  refine X.nil ?_
  cases h
  refine R.fin1 Try.results234 (by rfl) (by rfl) ?_
  rfl
theorem slices_Contains_int_pc (b0 : List Int) (b1 : Int) (r : Bool) (h : slices_Contains_int b0 b1 = some r) : PC Try.prog 212 [.slice (b0.map int), int b1] (bool r) := by
  unfold slices_Contains_int at h
  refine PC.start Try.func212 Try.ntmps212 rfl ok212 rfl ?_
  refine Run.seq ?_
  refine Run.reg ?_
  refine X.assign (by rfl) (by rfl) ?_
  refine X.nil ?_
  refine Run.seq ?_
  refine Run.reg ?_
  refine X.move (by rfl) (by rfl) ?_
  refine X.move (by rfl) (by rfl) ?_
  obtain ⟨v1, hv1, h⟩ := bindE h
  refine X.callP (slices_Index_int_pc _ _ _ hv1) (by rfl) (by rfl) (by rfl) (by repeat (first | exact trivial | refine ⟨by rfl, ?_⟩ | refine ⟨by simp [setL], ?_⟩)) (by rfl) (by rfl) (by rfl) (by rfl) ?_
  refine X.bin (by rfl) (by rfl) (by rfl) (by rfl) (by intro h; cases h) (by rfl) ?_
  refine X.assign (by rfl) (by rfl) ?_
  refine X.nil ?_
  cases h
  refine R.fin1 Try.results212 (by rfl) (by rfl) ?_
  rfl
theorem i_SetHas_pc (b0 : List Int) (b1 : Int) (r : Bool) (h : i_SetHas b0 b1 = some r) : PC Try.prog 166 [.slice (b0.map int), int b1] (bool r) := by
  unfold i_SetHas at h
  refine PC.start Try.func166 Try.ntmps166 rfl ok166 rfl ?_
  refine Run.seq ?_
  refine Run.reg ?_
  refine X.assign (by rfl) (by rfl) ?_
  refine X.nil ?_
  refine Run.seq ?_
  refine Run.reg ?_
  refine X.move (by rfl) (by rfl) ?_
  refine X.move (by rfl) (by rfl) ?_
  obtain ⟨v1, hv1, h⟩ := bindE h
  refine X.callP (slices_Contains_int_pc _ _ _ hv1) (by rfl) (by rfl) (by rfl) (by repeat (first | exact trivial | refine ⟨by rfl, ?_⟩ | refine ⟨by simp [setL], ?_⟩)) (by rfl) (by rfl) (by rfl) (by rfl) ?_
  refine X.assign (by rfl) (by rfl) ?_
  refine X.nil ?_
  cases h
  refine R.fin1 Try.results166 (by rfl) (by rfl) ?_
  rfl
theorem i_SetSubset_pc (b0 : List Int) (b1 : List Int) (r : Bool) (h : i_SetSubset b0 b1 = some r) : PC Try.prog 98 [.slice (b0.map int), .slice (b1.map int)] (bool r) := by
  unfold i_SetSubset at h
  refine PC.start Try.func98 Try.ntmps98 rfl ok98 rfl ?_
  refine Run.seq ?_
  refine Run.reg ?_
  refine X.assign (by rfl) (by rfl) ?_
  refine X.nil ?_
  refine Run.seq ?_
  refine Run.seq ?_
  refine Run.reg ?_
  refine X.move (by rfl) (by rfl) ?_
  refine X.len_s elt25 (by rfl) (by exact List.length_map ..) (by rfl) ?_
  refine X.move (by rfl) (by rfl) ?_
  refine X.nil ?_
  obtain ⟨o1, ho1, h⟩ := bindE h
  refine R.join2 (β := Unit) [] [] (fun p14 S => S) (fun p14 M => M) (fun p14 => (Sum.inl p14) = o1) ?_ ?_
  · intro JJ4 hmeet3
    have hup2 := h; clear h; have h := ho1; clear ho1
    refine Run.block ?_
    refine R.bndS (t := 0) (by rfl) (fun hbd7 => ?_)
    replace hbd7 : b0.length ≤ 9223372036854775807 := by first | (rw [List.length_map] at hbd7; exact hbd7) | simp
    refine R.loop2 (β := Int) [(1, .slice (b1.map int)), (7, .slice (b0.map int)), (8, int (b0.length : Int))] [] (fun bb S => (9, int bb) :: S) (fun bb M => M) (fun n bb => 0 ≤ bb ∧ bb + n = (b0.length : Int) ∧ i_SetSubset_L1 b1 (b0.drop bb.toNat) bb = some o1) b0.length (0 : Int) (by repeat (first | exact trivial | refine ⟨by rfl, ?_⟩ | refine ⟨by simp [setL], ?_⟩)) (by repeat (first | exact trivial | refine ⟨by rfl, ?_⟩ | refine ⟨by simp [setL], ?_⟩)) (by rfl) (by rfl) ⟨Int.le_refl _, by simp, h⟩ ?_
    clear h
    rintro JJ7 n7 z8 hag7 ⟨hza7, hzb7, h⟩
    refine Run.seq ?_
    refine Run.reg ?_
    refine X.bin (by rfl) (by rfl) (by rfl) (by rfl) (by intro h; cases h) (by rfl) ?_
    refine X.nil ?_
    refine Run.seq ?_
    refine R.cond (by rfl) (fun hc11 => ?_) (fun hc11 => ?_)
    · obtain ⟨x9, xs10, hd7, hx7, hds7, hlt7⟩ := drop_atI hza7 hc11
      rw [hd7] at h
      rw [i_SetSubset_L1] at h
      refine Run.skip ?_
      refine Run.seq ?_
      refine Run.block ?_
      refine Run.seq ?_
      refine Run.reg ?_
      refine X.index_s elt25 (by rfl) (by rfl) (idxL_spec hx7).1 (idxL_map int hx7) (by rfl) (by rfl) (by rfl) ?_
      refine X.load_c shp3 (by rfl) (by rfl) (by rfl) (by rfl) ?_
      refine X.assign (by rfl) (by rfl) ?_
      refine X.nil ?_
      refine Run.seq ?_
      refine Run.reg ?_
      refine X.move (by rfl) (by rfl) ?_
      refine X.move (by rfl) (by rfl) ?_
      obtain ⟨v12, hv12, h⟩ := bindE h
      refine X.callP (i_SetHas_pc _ _ _ hv12) (by rfl) (by rfl) (by rfl) (by repeat (first | exact trivial | refine ⟨by rfl, ?_⟩ | refine ⟨by simp [setL], ?_⟩)) (by rfl) (by rfl) (by rfl) (by rfl) ?_
      refine X.un (by rfl) (by rfl) (by rfl) ?_
      refine X.nil ?_
      refine R.cond (by rfl) (fun hc13 => ?_) (fun hc13 => ?_)
      · replace h := condT hc13 h
        refine Run.seq ?_
        refine Run.reg ?_
        refine X.assign (by rfl) (by rfl) ?_
        refine X.nil ?_
        cases h
        have h := hup2
        replace h := elimR h
        cases h
        refine R.fin1 Try.results98 (by rfl) (by rfl) ?_
        rfl
      · replace h := condF hc13 h
        refine Run.skip ?_
        refine Run.blk ?_
        refine Run.reg ?_
        refine X.add (by rfl) (by rfl) (by omega) (by rfl) ?_
        refine X.move (by rfl) (by rfl) ?_
        refine X.nil ?_
        exact hag7 (n7 - 1) (z8 + 1) _ _ (by omega) ⟨by first | omega | (dsimp only; omega), by first | omega | (dsimp only; omega), by first | (rw [hds7]; exact h) | (dsimp only; rw [hds7]; exact h)⟩ (by repeat (first | exact trivial | refine ⟨by rfl, ?_⟩ | refine ⟨by simp [setL], ?_⟩)) (by repeat (first | exact trivial | refine ⟨by rfl, ?_⟩ | refine ⟨by simp [setL], ?_⟩)) (by rfl) (by rfl)
    · rw [drop_endI hza7 hc11] at h
      rw [i_SetSubset_L1] at h
      refine Run.exit (by rfl) ?_
      exact hmeet3 () _ _ (Option.some.inj h) (by repeat (first | exact trivial | refine ⟨by rfl, ?_⟩ | refine ⟨by simp [setL], ?_⟩)) (by repeat (first | exact trivial | refine ⟨by rfl, ?_⟩ | refine ⟨by simp [setL], ?_⟩)) (by rfl) (by rfl)
  rintro p14 rfl
  replace h := elimL h
  refine Run.seq ?_
  refine Run.reg ?_
  refine X.assign (by rfl) (by rfl) ?_
  refine X.nil ?_
  cases h
  refine R.fin1 Try.results98 (by rfl) (by rfl) ?_
  rfl
end Go.Px.Ytjncefleglnnjaa
