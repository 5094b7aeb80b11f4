/-
  PROVED: contracts of functions of the program over pure values. No condition beyond those that each theorem names.
-/
import Derived.Test.YtjncefleglnnjaaProg
import Derived.Test.YtjncefleglnnjaaD1
import Derived.Test.YtjncefleglnnjaaC1
import Derived.Test.YtjncefleglnnjaaC2
import Derived.Test.YtjncefleglnnjaaC6
namespace Go.Px.Ytjncefleglnnjaa
set_option linter.unusedSimpArgs false
set_option linter.unusedVariables false
open Go.Px Go.Proofs
theorem ok142 : okFn Try.prog 142 = true := by kernel_rfl
theorem ok143 : okFn Try.prog 143 = true := by kernel_rfl
theorem ok70 : okFn Try.prog 70 = true := by kernel_rfl
theorem ok17 : okFn Try.prog 17 = true := by kernel_rfl
theorem ok156 : okFn Try.prog 156 = true := by kernel_rfl
theorem ok77 : okFn Try.prog 77 = true := by kernel_rfl
theorem ok19 : okFn Try.prog 19 = true := by kernel_rfl
theorem ok3 : okFn Try.prog 3 = true := by kernel_rfl
theorem s_l03Span_pc (b0 : List TStep) (b1 : Int) (b2 : Int) (r : Bool) (h : s_l03Span b0 b1 b2 = some r) : PC Try.prog 142 [.slice (b0.map eTStep), int b1, int b2] (bool r) := by
  unfold s_l03Span at h
  refine PC.start Try.func142 Try.ntmps142 rfl ok142 rfl ?_
  refine Run.seq ?_
  refine Run.reg ?_
  refine X.assign (by rfl) (by rfl) ?_
  refine X.nil ?_
  refine Run.seq ?_
  obtain ⟨v1, hv1, h⟩ := bindE h
  obtain ⟨e2, he2, h2⟩ := bindE h
  refine R.regG [(6, bool e2)] [] ?_ ?_
  · clear h; have h := he2; clear he2 h2
    refine X.move (by rfl) (by rfl) ?_
    refine X.callP (s_StepsOk_pc _ _ hv1) (by rfl) (by rfl) (by rfl) (by repeat (first | exact trivial | refine ⟨by rfl, ?_⟩ | refine ⟨by simp [setL], ?_⟩)) (by rfl) (by rfl) (by rfl) (by rfl) ?_
    refine X.move (by rfl) (by rfl) ?_
    refine X.ifG (by rfl) (by rfl) (by rfl) (fun hb3 => ?_) (fun hb3 => ?_)
    · replace h := condT hb3 h
      refine X.move (by rfl) (by rfl) ?_
      refine X.gyes (by rfl) (by rfl) (by first | rfl | assumption | simp_all) ?_
      obtain ⟨v4, hv4, h⟩ := bindE h
      refine X.callP (s_l01In_pc _ _ _ _ hv4) (by rfl) (by rfl) (by rfl) (by repeat (first | exact trivial | refine ⟨by rfl, ?_⟩ | refine ⟨by simp [setL], ?_⟩)) (by rfl) (by rfl) (by rfl) (by rfl) ?_
      refine X.pickT (by rfl) (by first | rfl | assumption | simp_all) (by rfl) (by rfl) ?_
      refine X.move (by rfl) (by rfl) ?_
      refine X.ifG (by rfl) (by rfl) (by rfl) (fun hb5 => ?_) (fun hb5 => ?_)
      · replace h := condT hb5 h
        refine X.move (by rfl) (by rfl) ?_
        refine X.gyes (by rfl) (by rfl) (by first | rfl | assumption | simp_all) ?_
        obtain ⟨v6, hv6, h⟩ := bindE h
        refine X.callP (s_l01In_pc _ _ _ _ hv6) (by rfl) (by rfl) (by rfl) (by repeat (first | exact trivial | refine ⟨by rfl, ?_⟩ | refine ⟨by simp [setL], ?_⟩)) (by rfl) (by rfl) (by rfl) (by rfl) ?_
        refine X.pickT (by rfl) (by first | rfl | assumption | simp_all) (by rfl) (by rfl) ?_
        refine X.assign (by rfl) (by rfl) ?_
        cases h
        exact X.endG (by repeat (first | exact trivial | refine ⟨by rfl, ?_⟩ | refine ⟨by simp [setL], ?_⟩)) (by repeat (first | exact trivial | refine ⟨by rfl, ?_⟩ | refine ⟨by simp [setL], ?_⟩)) (by rfl) (by rfl)
      · replace h := condF hb5 h
        refine X.gno (by rfl) (by rfl) (by first | rfl | assumption | simp_all) (by rfl) ?_
        refine X.pickF (by rfl) (by first | rfl | assumption | simp_all) (by rfl) (by rfl) ?_
        refine X.assign (by rfl) (by rfl) ?_
        cases h
        exact X.endG (by repeat (first | exact trivial | refine ⟨by rfl, ?_⟩ | refine ⟨by simp [setL], ?_⟩)) (by repeat (first | exact trivial | refine ⟨by rfl, ?_⟩ | refine ⟨by simp [setL], ?_⟩)) (by rfl) (by rfl)
    · replace h := condF hb3 h
      refine X.gno (by rfl) (by rfl) (by first | rfl | assumption | simp_all) (by rfl) ?_
      refine X.pickF (by rfl) (by first | rfl | assumption | simp_all) (by rfl) (by rfl) ?_
      refine X.move (by rfl) (by rfl) ?_
      refine X.gno (by rfl) (by rfl) (by first | rfl | assumption | simp_all) (by rfl) ?_
      refine X.gno (by rfl) (by rfl) (by first | rfl | assumption | simp_all) (by rfl) ?_
      refine X.pickF (by rfl) (by first | rfl | assumption | simp_all) (by rfl) (by rfl) ?_
      refine X.assign (by rfl) (by rfl) ?_
      cases h
      exact X.endG (by repeat (first | exact trivial | refine ⟨by rfl, ?_⟩ | refine ⟨by simp [setL], ?_⟩)) (by repeat (first | exact trivial | refine ⟨by rfl, ?_⟩ | refine ⟨by simp [setL], ?_⟩)) (by rfl) (by rfl)
  replace h := h2; clear h2
  cases h
  refine R.fin1 Try.results142 (by rfl) (by rfl) ?_
  rfl
theorem s_l03At_pc (b0 : List TStep) (b1 : Int) (r : Int) (h : s_l03At b0 b1 = some r) : PC Try.prog 143 [.slice (b0.map eTStep), int b1] (int r) := by
  unfold s_l03At at h
  refine PC.start Try.func143 Try.ntmps143 rfl ok143 rfl ?_
  refine Run.seq ?_
  refine Run.reg ?_
  refine X.assign (by rfl) (by rfl) ?_
  refine X.nil ?_
  refine Run.seq ?_
  refine Run.reg ?_
  refine X.assign (by rfl) (by rfl) ?_
  refine X.nil ?_
  refine Run.seq ?_
  refine Run.seq ?_
  refine Run.reg ?_
  refine X.move (by rfl) (by rfl) ?_
  refine X.len_s elt113 (by rfl) (by exact List.length_map ..) (by rfl) ?_
  refine X.move (by rfl) (by rfl) ?_
  refine X.nil ?_
  obtain ⟨o1, ho1, h⟩ := bindE h
  refine R.join2 (β := Int) [] [] (fun p14 S => (5, int p14) :: S) (fun p14 M => M) (fun p14 => p14 = o1) ?_ ?_
  · intro JJ4 hmeet3
    have hup2 := h; clear h; have h := ho1; clear ho1
    refine Run.block ?_
    refine R.bndS (t := 0) (by rfl) (fun hbd7 => ?_)
    replace hbd7 : b0.length ≤ 9223372036854775807 := by first | (rw [List.length_map] at hbd7; exact hbd7) | simp
    refine R.loop2 (β := Int × Int) [(1, int b1), (8, .slice (b0.map eTStep)), (9, int (b0.length : Int))] [] (fun bb S => (5, int bb.2) :: (10, int bb.1) :: S) (fun bb M => M) (fun n bb => 0 ≤ bb.1 ∧ bb.1 + n = (b0.length : Int) ∧ s_l03At_L1 b1 (b0.drop bb.1.toNat) bb.1 bb.2 = some o1) b0.length (0, 0) (by repeat (first | exact trivial | refine ⟨by rfl, ?_⟩ | refine ⟨by simp [setL], ?_⟩)) (by repeat (first | exact trivial | refine ⟨by rfl, ?_⟩ | refine ⟨by simp [setL], ?_⟩)) (by rfl) (by rfl) ⟨Int.le_refl _, by simp, h⟩ ?_
    clear h
    rintro JJ7 n7 ⟨z8, a9⟩ hag7 ⟨hza7, hzb7, h⟩
    dsimp only at hza7 hzb7 h
    refine Run.seq ?_
    refine Run.reg ?_
    refine X.bin (by rfl) (by rfl) (by rfl) (by rfl) (by intro h; cases h) (by rfl) ?_
    refine X.nil ?_
    refine Run.seq ?_
    refine R.cond (by rfl) (fun hc12 => ?_) (fun hc12 => ?_)
    · obtain ⟨x10, xs11, hd7, hx7, hds7, hlt7⟩ := drop_atI hza7 hc12
      rw [hd7] at h
      rw [s_l03At_L1] at h
      refine Run.skip ?_
      refine Run.seq ?_
      refine Run.block ?_
      refine Run.seq ?_
      refine Run.reg ?_
      refine X.index_s elt113 (by rfl) (by rfl) (idxL_spec hx7).1 (idxL_map eTStep hx7) (by rfl) (by rfl) (by rfl) ?_
      refine X.load_c shp208 (by rfl) (by rfl) (by rfl) (by rfl) ?_
      refine X.alloc zer208 (by rfl) (by rfl) (by rfl) ?_
      refine X.store_l shp208 (by rfl) (by rfl) (by rfl) (by rfl) (by repeat (first | exact trivial | refine ⟨by rfl, ?_⟩ | refine ⟨by simp [setL], ?_⟩)) (by rfl) (by rfl) (by rfl) ?_
      refine X.nil ?_
      refine Run.seq ?_
      refine Run.reg ?_
      refine X.fieldAddr_l fld208_0 (by rfl) (by rfl) ?_
      refine X.load_l shp3 (by rfl) (by rfl) (by rfl) (by rfl) (by rfl) (by rfl) ?_
      refine X.move (by rfl) (by rfl) ?_
      refine X.bin (by rfl) (by rfl) (by rfl) (by rfl) (by intro h; cases h) (by rfl) ?_
      refine X.nil ?_
      refine R.cond (by rfl) (fun hc13 => ?_) (fun hc13 => ?_)
      · replace h := condT hc13 h
        refine Run.reg ?_
        refine X.fieldAddr_l fld208_1 (by rfl) (by rfl) ?_
        refine X.load_l shp3 (by rfl) (by rfl) (by rfl) (by rfl) (by rfl) (by rfl) ?_
        refine X.assign (by rfl) (by rfl) ?_
        refine X.nil ?_
        refine Run.blk ?_
        refine Run.reg ?_
        refine X.add (by rfl) (by rfl) (by omega) (by rfl) ?_
        refine X.move (by rfl) (by rfl) ?_
        refine X.nil ?_
        exact hag7 (n7 - 1) (z8 + 1, x10.Capacity) _ _ (by omega) ⟨by first | omega | (dsimp only; omega), by first | omega | (dsimp only; omega), by first | (rw [hds7]; exact h) | (dsimp only; rw [hds7]; exact h)⟩ (by repeat (first | exact trivial | refine ⟨by rfl, ?_⟩ | refine ⟨by simp [setL], ?_⟩)) (by repeat (first | exact trivial | refine ⟨by rfl, ?_⟩ | refine ⟨by simp [setL], ?_⟩)) (by rfl) (by rfl)
      · replace h := condF hc13 h
        refine Run.skip ?_
        refine Run.blk ?_
        refine Run.reg ?_
        refine X.add (by rfl) (by rfl) (by omega) (by rfl) ?_
        refine X.move (by rfl) (by rfl) ?_
        refine X.nil ?_
        exact hag7 (n7 - 1) (z8 + 1, a9) _ _ (by omega) ⟨by first | omega | (dsimp only; omega), by first | omega | (dsimp only; omega), by first | (rw [hds7]; exact h) | (dsimp only; rw [hds7]; exact h)⟩ (by repeat (first | exact trivial | refine ⟨by rfl, ?_⟩ | refine ⟨by simp [setL], ?_⟩)) (by repeat (first | exact trivial | refine ⟨by rfl, ?_⟩ | refine ⟨by simp [setL], ?_⟩)) (by rfl) (by rfl)
    · rw [drop_endI hza7 hc12] at h
      rw [s_l03At_L1] at h
      refine Run.exit (by rfl) ?_
      exact hmeet3 a9 _ _ (Option.some.inj h) (by repeat (first | exact trivial | refine ⟨by rfl, ?_⟩ | refine ⟨by simp [setL], ?_⟩)) (by repeat (first | exact trivial | refine ⟨by rfl, ?_⟩ | refine ⟨by simp [setL], ?_⟩)) (by rfl) (by rfl)
  rintro p14 rfl
  refine Run.seq ?_
  refine Run.reg ?_
  refine X.move (by rfl) (by rfl) ?_
  refine X.assign (by rfl) (by rfl) ?_
  refine X.nil ?_
  cases h
  refine R.fin1 Try.results143 (by rfl) (by rfl) ?_
  rfl
theorem s_TotalCapacity_pc (b0 : List TStep) (b1 : Int) (b2 : Int) (r : Int) (h : s_TotalCapacity b0 b1 b2 = some r) : PC Try.prog 70 [.slice (b0.map eTStep), int b1, int b2] (int r) := by
  unfold s_TotalCapacity at h
  refine PC.start Try.func70 Try.ntmps70 rfl ok70 rfl ?_
  refine Run.seq ?_
  refine Run.reg ?_
  refine X.assign (by rfl) (by rfl) ?_
  refine X.nil ?_
  refine Run.seq ?_
  refine Run.seq ?_
  refine Run.reg ?_
  refine X.move (by rfl) (by rfl) ?_
  refine X.move (by rfl) (by rfl) ?_
  refine X.move (by rfl) (by rfl) ?_
  obtain ⟨v1, hv1, h⟩ := bindE h
  refine X.callP (s_l03Span_pc _ _ _ _ hv1) (by rfl) (by rfl) (by rfl) (by repeat (first | exact trivial | refine ⟨by rfl, ?_⟩ | refine ⟨by simp [setL], ?_⟩)) (by rfl) (by rfl) (by rfl) (by rfl) ?_
  refine X.un (by rfl) (by rfl) (by rfl) ?_
  refine X.nil ?_
  refine R.cond (by rfl) (fun hc2 => ?_) (fun hc2 => ?_)
  · replace h := condT hc2 h
    refine Run.seq ?_
    refine Run.reg ?_
    refine X.assign (by rfl) (by rfl) ?_
    refine X.nil ?_
    cases h
    refine R.fin1 Try.results70 (by rfl) (by rfl) ?_
    rfl
  · replace h := condF hc2 h
    refine Run.skip ?_
    refine Run.seq ?_
    refine Run.reg ?_
    refine X.assign (by rfl) (by rfl) ?_
    refine X.nil ?_
    refine Run.seq ?_
    refine Run.seq ?_
    refine Run.reg ?_
    refine X.move (by rfl) (by rfl) ?_
    refine X.assign (by rfl) (by rfl) ?_
    refine X.nil ?_
    obtain ⟨o3, ho3, h⟩ := bindE h
    refine R.join2 (β := Int) [] [] (fun p14 S => (7, int p14) :: S) (fun p14 M => M) (fun p14 => p14 = o3) ?_ ?_
    · intro JJ6 hmeet5
      have hup4 := h; clear h; have h := ho3; clear ho3
      refine Run.block ?_
      refine R.loop2 (β := Int × Int) [(0, .slice (b0.map eTStep)), (2, int b2)] [] (fun bb S => (7, int bb.1) :: (8, int bb.2) :: S) (fun bb M => M) (fun n bb => s_TotalCapacity_L1 b0 b2 n bb.1 bb.2 = some o3) F0 (0, b1) (by repeat (first | exact trivial | refine ⟨by rfl, ?_⟩ | refine ⟨by simp [setL], ?_⟩)) (by repeat (first | exact trivial | refine ⟨by rfl, ?_⟩ | refine ⟨by simp [setL], ?_⟩)) (by rfl) (by rfl) h ?_
      clear h
      rintro JJ6 n6 ⟨a8, a9⟩ hag6 h
      dsimp only at h
      obtain _ | n6 := n6
      · exact absurd h (by simp [s_TotalCapacity_L1])
      rw [s_TotalCapacity_L1] at h
      refine Run.seq ?_
      refine Run.seq ?_
      refine Run.reg ?_
      refine X.move (by rfl) (by rfl) ?_
      refine X.move (by rfl) (by rfl) ?_
      refine X.bin (by rfl) (by rfl) (by rfl) (by rfl) (by intro h; cases h) (by rfl) ?_
      refine X.nil ?_
      refine R.cond (by rfl) (fun hc12 => ?_) (fun hc12 => ?_)
      · replace h := condT hc12 h
        refine Run.skip ?_
        refine Run.seq ?_
        refine Run.block ?_
        refine Run.reg ?_
        refine X.move (by rfl) (by rfl) ?_
        refine X.move (by rfl) (by rfl) ?_
        refine X.move (by rfl) (by rfl) ?_
        obtain ⟨v13, hv13, h⟩ := bindE h
        refine X.callP (s_l03At_pc _ _ _ hv13) (by rfl) (by rfl) (by rfl) (by repeat (first | exact trivial | refine ⟨by rfl, ?_⟩ | refine ⟨by simp [setL], ?_⟩)) (by rfl) (by rfl) (by rfl) (by rfl) ?_
        refine X.addW (by rfl) (by rfl) (by rfl) ?_
        refine X.assign (by rfl) (by rfl) ?_
        refine X.nil ?_
        refine Run.blk ?_
        refine Run.reg ?_
        refine X.move (by rfl) (by rfl) ?_
        refine X.addW (by rfl) (by rfl) (by rfl) ?_
        refine X.assign (by rfl) (by rfl) ?_
        refine X.nil ?_
        exact hag6 n6 ((W (a8 + v13)), (W (a9 + 1))) _ _ (by omega) h (by repeat (first | exact trivial | refine ⟨by rfl, ?_⟩ | refine ⟨by simp [setL], ?_⟩)) (by repeat (first | exact trivial | refine ⟨by rfl, ?_⟩ | refine ⟨by simp [setL], ?_⟩)) (by rfl) (by rfl)
      · replace h := condF hc12 h
        refine Run.exit (by rfl) ?_
        exact hmeet5 a8 _ _ (Option.some.inj h) (by repeat (first | exact trivial | refine ⟨by rfl, ?_⟩ | refine ⟨by simp [setL], ?_⟩)) (by repeat (first | exact trivial | refine ⟨by rfl, ?_⟩ | refine ⟨by simp [setL], ?_⟩)) (by rfl) (by rfl)
    rintro p14 rfl
    refine Run.seq ?_
    refine Run.reg ?_
    refine X.move (by rfl) (by rfl) ?_
    refine X.assign (by rfl) (by rfl) ?_
    refine X.nil ?_
    cases h
    refine R.fin1 Try.results70 (by rfl) (by rfl) ?_
    rfl
theorem s_CapacityIn_pc (b0 : TProject) (b1 : Int) (b2 : Int) (b3 : Int) (r : Int) (h : s_CapacityIn b0 b1 b2 b3 = some r) : PC Try.prog 17 [eTProject b0, int b1, int b2, int b3] (int r) := by
  unfold s_CapacityIn at h
  refine PC.start Try.func17 Try.ntmps17 rfl ok17 rfl ?_
  refine Run.seq ?_
  refine Run.reg ?_
  refine X.box (by rfl) (by rfl) (by repeat (first | exact trivial | refine ⟨by rfl, ?_⟩ | refine ⟨by simp [setL], ?_⟩)) (by rfl) (by rfl) (by rfl) (by rfl) ?_
  refine X.assign (by rfl) (by rfl) ?_
  refine X.nil ?_
  refine Run.seq ?_
  refine Run.seq ?_
  obtain ⟨v1, hv1, h⟩ := bindE h
  obtain ⟨e2, he2, h2⟩ := bindE h
  refine R.regG [(1, int b1), (2, int b2), (3, int b3), (4, .lptr 256 0), (20, bool e2)] [(256, .blk true [int b0.Deadline, .slice (b0.Activities.map eTActivity), .slice (b0.Links.map eTLink), .slice (b0.Resources.map eTResource), .slice (b0.Stocks.map int)])] ?_ ?_
  · clear h; have h := he2; clear he2 h2
    refine X.load_l shp34 (by rfl) (by rfl) (by rfl) (by rfl) (by rfl) (by rfl) ?_
    refine X.callP (s_ProjectOk_pc _ _ hv1) (by rfl) (by rfl) (by rfl) (by repeat (first | exact trivial | refine ⟨by rfl, ?_⟩ | refine ⟨by simp [setL], ?_⟩)) (by rfl) (by rfl) (by rfl) (by rfl) ?_
    refine X.un (by rfl) (by rfl) (by rfl) ?_
    refine X.move (by rfl) (by rfl) ?_
    refine X.ifG (by rfl) (by rfl) (by rfl) (fun hb3 => ?_) (fun hb3 => ?_)
    · replace h := condF hb3 h
      refine X.move (by rfl) (by rfl) ?_
      refine X.gyes (by rfl) (by rfl) (by first | rfl | assumption | simp_all) ?_
      refine X.fieldAddr_l fld34_3 (by rfl) (by rfl) ?_
      refine X.gyes (by rfl) (by rfl) (by first | rfl | assumption | simp_all) ?_
      refine X.load_l shp32 (by rfl) (by rfl) (by rfl) (by rfl) (by rfl) (by rfl) ?_
      refine X.gyes (by rfl) (by rfl) (by first | rfl | assumption | simp_all) ?_
      refine X.len_s elt32 (by rfl) (by exact List.length_map ..) (by rfl) ?_
      refine X.gyes (by rfl) (by rfl) (by first | rfl | assumption | simp_all) ?_
      refine X.subW (by rfl) (by rfl) (by rfl) ?_
      refine X.gyes (by rfl) (by rfl) (by first | rfl | assumption | simp_all) ?_
      obtain ⟨v4, hv4, h⟩ := bindE h
      refine X.callP (s_l01In_pc _ _ _ _ hv4) (by rfl) (by rfl) (by rfl) (by repeat (first | exact trivial | refine ⟨by rfl, ?_⟩ | refine ⟨by simp [setL], ?_⟩)) (by rfl) (by rfl) (by rfl) (by rfl) ?_
      refine X.gyes (by rfl) (by rfl) (by first | rfl | assumption | simp_all) ?_
      refine X.un (by rfl) (by rfl) (by rfl) ?_
      refine X.pickF (by rfl) (by first | rfl | assumption | simp_all) (by rfl) (by rfl) ?_
      cases h
      exact X.endG (by repeat (first | exact trivial | refine ⟨by rfl, ?_⟩ | refine ⟨by simp [setL], ?_⟩)) (by repeat (first | exact trivial | refine ⟨by rfl, ?_⟩ | refine ⟨by simp [setL], ?_⟩)) (by rfl) (by rfl)
    · replace h := condT hb3 h
      refine X.gno (by rfl) (by rfl) (by first | rfl | assumption | simp_all) (by rfl) ?_
      refine X.gno (by rfl) (by rfl) (by first | rfl | assumption | simp_all) (by rfl) ?_
      refine X.gno (by rfl) (by rfl) (by first | rfl | assumption | simp_all) (by rfl) ?_
      refine X.gno (by rfl) (by rfl) (by first | rfl | assumption | simp_all) (by rfl) ?_
      refine X.gno (by rfl) (by rfl) (by first | rfl | assumption | simp_all) (by rfl) ?_
      refine X.gno (by rfl) (by rfl) (by first | rfl | assumption | simp_all) (by rfl) ?_
      refine X.pickT (by rfl) (by first | rfl | assumption | simp_all) (by rfl) (by rfl) ?_
      cases h
      exact X.endG (by repeat (first | exact trivial | refine ⟨by rfl, ?_⟩ | refine ⟨by simp [setL], ?_⟩)) (by repeat (first | exact trivial | refine ⟨by rfl, ?_⟩ | refine ⟨by simp [setL], ?_⟩)) (by rfl) (by rfl)
  replace h := h2; clear h2
  refine R.cond (by rfl) (fun hc5 => ?_) (fun hc5 => ?_)
  · replace h := condT hc5 h
    refine Run.seq ?_
    refine Run.reg ?_
    refine X.assign (by rfl) (by rfl) ?_
    refine X.nil ?_
    cases h
    refine R.fin1 Try.results17 (by rfl) (by rfl) ?_
    rfl
  · replace h := condF hc5 h
    refine Run.skip ?_
    refine Run.seq ?_
    refine Run.reg ?_
    refine X.fieldAddr_l fld34_3 (by rfl) (by rfl) ?_
    refine X.load_l shp32 (by rfl) (by rfl) (by rfl) (by rfl) (by rfl) (by rfl) ?_
    refine X.move (by rfl) (by rfl) ?_
    obtain ⟨v6, hv6, h⟩ := bindE h
    refine X.index_s elt32 (by rfl) (by rfl) (idxL_spec hv6).1 (idxL_map eTResource hv6) (by rfl) (by rfl) (by rfl) ?_
    refine X.fieldAddr_c fld115_0 (by rfl) (by rfl) ?_
    refine X.load_c shp113 (by rfl) (by rfl) (by rfl) (by rfl) ?_
    refine X.move (by rfl) (by rfl) ?_
    refine X.move (by rfl) (by rfl) ?_
    obtain ⟨v7, hv7, h⟩ := bindE h
    refine X.callP (s_TotalCapacity_pc _ _ _ _ hv7) (by rfl) (by rfl) (by rfl) (by repeat (first | exact trivial | refine ⟨by rfl, ?_⟩ | refine ⟨by simp [setL], ?_⟩)) (by rfl) (by rfl) (by rfl) (by rfl) ?_
    refine X.assign (by rfl) (by rfl) ?_
    refine X.nil ?_
    cases h
    refine R.fin1 Try.results17 (by rfl) (by rfl) ?_
    rfl
theorem i_capacityAt_pc (b0 : List TStep) (b1 : Int) (r : Int) (h : i_capacityAt b0 b1 = some r) : PC Try.prog 156 [.slice (b0.map eTStep), int b1] (int r) := by
  unfold i_capacityAt at h
  refine PC.start Try.func156 Try.ntmps156 rfl ok156 rfl ?_
  refine Run.seq ?_
  refine Run.reg ?_
  refine X.assign (by rfl) (by rfl) ?_
  refine X.nil ?_
  refine Run.seq ?_
  refine Run.reg ?_
  refine X.assign (by rfl) (by rfl) ?_
  refine X.nil ?_
  refine Run.seq ?_
  refine Run.seq ?_
  refine Run.reg ?_
  refine X.move (by rfl) (by rfl) ?_
  refine X.len_s elt113 (by rfl) (by exact List.length_map ..) (by rfl) ?_
  refine X.move (by rfl) (by rfl) ?_
  refine X.nil ?_
  obtain ⟨o1, ho1, h⟩ := bindE h
  refine R.join2 (β := Int) [] [] (fun p14 S => (5, int p14) :: S) (fun p14 M => M) (fun p14 => p14 = o1) ?_ ?_
  · intro JJ4 hmeet3
    have hup2 := h; clear h; have h := ho1; clear ho1
    refine Run.block ?_
    refine R.bndS (t := 0) (by rfl) (fun hbd7 => ?_)
    replace hbd7 : b0.length ≤ 9223372036854775807 := by first | (rw [List.length_map] at hbd7; exact hbd7) | simp
    refine R.loop2 (β := Int × Int) [(1, int b1), (8, .slice (b0.map eTStep)), (9, int (b0.length : Int))] [] (fun bb S => (5, int bb.2) :: (10, int bb.1) :: S) (fun bb M => M) (fun n bb => 0 ≤ bb.1 ∧ bb.1 + n = (b0.length : Int) ∧ i_capacityAt_L1 b1 (b0.drop bb.1.toNat) bb.1 bb.2 = some o1) b0.length (0, 0) (by repeat (first | exact trivial | refine ⟨by rfl, ?_⟩ | refine ⟨by simp [setL], ?_⟩)) (by repeat (first | exact trivial | refine ⟨by rfl, ?_⟩ | refine ⟨by simp [setL], ?_⟩)) (by rfl) (by rfl) ⟨Int.le_refl _, by simp, h⟩ ?_
    clear h
    rintro JJ7 n7 ⟨z8, a9⟩ hag7 ⟨hza7, hzb7, h⟩
    dsimp only at hza7 hzb7 h
    refine Run.seq ?_
    refine Run.reg ?_
    refine X.bin (by rfl) (by rfl) (by rfl) (by rfl) (by intro h; cases h) (by rfl) ?_
    refine X.nil ?_
    refine Run.seq ?_
    refine R.cond (by rfl) (fun hc12 => ?_) (fun hc12 => ?_)
    · obtain ⟨x10, xs11, hd7, hx7, hds7, hlt7⟩ := drop_atI hza7 hc12
      rw [hd7] at h
      rw [i_capacityAt_L1] at h
      refine Run.skip ?_
      refine Run.seq ?_
      refine Run.block ?_
      refine Run.seq ?_
      refine Run.reg ?_
      refine X.index_s elt113 (by rfl) (by rfl) (idxL_spec hx7).1 (idxL_map eTStep hx7) (by rfl) (by rfl) (by rfl) ?_
      refine X.load_c shp208 (by rfl) (by rfl) (by rfl) (by rfl) ?_
      refine X.alloc zer208 (by rfl) (by rfl) (by rfl) ?_
      refine X.store_l shp208 (by rfl) (by rfl) (by rfl) (by rfl) (by repeat (first | exact trivial | refine ⟨by rfl, ?_⟩ | refine ⟨by simp [setL], ?_⟩)) (by rfl) (by rfl) (by rfl) ?_
      refine X.nil ?_
      refine Run.seq ?_
      refine Run.reg ?_
      refine X.fieldAddr_l fld208_0 (by rfl) (by rfl) ?_
      refine X.load_l shp3 (by rfl) (by rfl) (by rfl) (by rfl) (by rfl) (by rfl) ?_
      refine X.move (by rfl) (by rfl) ?_
      refine X.bin (by rfl) (by rfl) (by rfl) (by rfl) (by intro h; cases h) (by rfl) ?_
      refine X.nil ?_
      refine R.cond (by rfl) (fun hc13 => ?_) (fun hc13 => ?_)
      · replace h := condT hc13 h
        refine Run.reg ?_
        refine X.fieldAddr_l fld208_1 (by rfl) (by rfl) ?_
        refine X.load_l shp3 (by rfl) (by rfl) (by rfl) (by rfl) (by rfl) (by rfl) ?_
        refine X.assign (by rfl) (by rfl) ?_
        refine X.nil ?_
        refine Run.blk ?_
        refine Run.reg ?_
        refine X.add (by rfl) (by rfl) (by omega) (by rfl) ?_
        refine X.move (by rfl) (by rfl) ?_
        refine X.nil ?_
        exact hag7 (n7 - 1) (z8 + 1, x10.Capacity) _ _ (by omega) ⟨by first | omega | (dsimp only; omega), by first | omega | (dsimp only; omega), by first | (rw [hds7]; exact h) | (dsimp only; rw [hds7]; exact h)⟩ (by repeat (first | exact trivial | refine ⟨by rfl, ?_⟩ | refine ⟨by simp [setL], ?_⟩)) (by repeat (first | exact trivial | refine ⟨by rfl, ?_⟩ | refine ⟨by simp [setL], ?_⟩)) (by rfl) (by rfl)
      · replace h := condF hc13 h
        refine Run.skip ?_
        refine Run.blk ?_
        refine Run.reg ?_
        refine X.add (by rfl) (by rfl) (by omega) (by rfl) ?_
        refine X.move (by rfl) (by rfl) ?_
        refine X.nil ?_
        exact hag7 (n7 - 1) (z8 + 1, a9) _ _ (by omega) ⟨by first | omega | (dsimp only; omega), by first | omega | (dsimp only; omega), by first | (rw [hds7]; exact h) | (dsimp only; rw [hds7]; exact h)⟩ (by repeat (first | exact trivial | refine ⟨by rfl, ?_⟩ | refine ⟨by simp [setL], ?_⟩)) (by repeat (first | exact trivial | refine ⟨by rfl, ?_⟩ | refine ⟨by simp [setL], ?_⟩)) (by rfl) (by rfl)
    · rw [drop_endI hza7 hc12] at h
      rw [i_capacityAt_L1] at h
      refine Run.exit (by rfl) ?_
      exact hmeet3 a9 _ _ (Option.some.inj h) (by repeat (first | exact trivial | refine ⟨by rfl, ?_⟩ | refine ⟨by simp [setL], ?_⟩)) (by repeat (first | exact trivial | refine ⟨by rfl, ?_⟩ | refine ⟨by simp [setL], ?_⟩)) (by rfl) (by rfl)
  rintro p14 rfl
  refine Run.seq ?_
  refine Run.reg ?_
  refine X.move (by rfl) (by rfl) ?_
  refine X.assign (by rfl) (by rfl) ?_
  refine X.nil ?_
  cases h
  refine R.fin1 Try.results156 (by rfl) (by rfl) ?_
  rfl
theorem i_TotalCapacity_pc (b0 : List TStep) (b1 : Int) (b2 : Int) (r : Int) (h : i_TotalCapacity b0 b1 b2 = some r) : PC Try.prog 77 [.slice (b0.map eTStep), int b1, int b2] (int r) := by
  unfold i_TotalCapacity at h
  refine PC.start Try.func77 Try.ntmps77 rfl ok77 rfl ?_
  refine Run.seq ?_
  refine Run.reg ?_
  refine X.assign (by rfl) (by rfl) ?_
  refine X.nil ?_
  refine Run.seq ?_
  refine Run.seq ?_
  obtain ⟨v1, hv1, h⟩ := bindE h
  obtain ⟨e2, he2, h2⟩ := bindE h
  refine R.regG [(0, .slice (b0.map eTStep)), (1, int b1), (2, int b2), (21, bool e2)] [] ?_ ?_
  · clear h; have h := he2; clear he2 h2
    refine X.move (by rfl) (by rfl) ?_
    refine X.callP (i_StepsOk_pc _ _ hv1) (by rfl) (by rfl) (by rfl) (by repeat (first | exact trivial | refine ⟨by rfl, ?_⟩ | refine ⟨by simp [setL], ?_⟩)) (by rfl) (by rfl) (by rfl) (by rfl) ?_
    refine X.un (by rfl) (by rfl) (by rfl) ?_
    refine X.move (by rfl) (by rfl) ?_
    refine X.ifG (by rfl) (by rfl) (by rfl) (fun hb3 => ?_) (fun hb3 => ?_)
    · replace h := condF hb3 h
      refine X.move (by rfl) (by rfl) ?_
      refine X.gyes (by rfl) (by rfl) (by first | rfl | assumption | simp_all) ?_
      obtain ⟨v4, hv4, h⟩ := bindE h
      refine X.callP (i_isTime_pc _ _ hv4) (by rfl) (by rfl) (by rfl) (by repeat (first | exact trivial | refine ⟨by rfl, ?_⟩ | refine ⟨by simp [setL], ?_⟩)) (by rfl) (by rfl) (by rfl) (by rfl) ?_
      refine X.gyes (by rfl) (by rfl) (by first | rfl | assumption | simp_all) ?_
      refine X.un (by rfl) (by rfl) (by rfl) ?_
      refine X.pickF (by rfl) (by first | rfl | assumption | simp_all) (by rfl) (by rfl) ?_
      refine X.move (by rfl) (by rfl) ?_
      refine X.ifG (by rfl) (by rfl) (by rfl) (fun hb5 => ?_) (fun hb5 => ?_)
      · replace h := condF hb5 h
        refine X.move (by rfl) (by rfl) ?_
        refine X.gyes (by rfl) (by rfl) (by first | rfl | assumption | simp_all) ?_
        obtain ⟨v6, hv6, h⟩ := bindE h
        refine X.callP (i_isTime_pc _ _ hv6) (by rfl) (by rfl) (by rfl) (by repeat (first | exact trivial | refine ⟨by rfl, ?_⟩ | refine ⟨by simp [setL], ?_⟩)) (by rfl) (by rfl) (by rfl) (by rfl) ?_
        refine X.gyes (by rfl) (by rfl) (by first | rfl | assumption | simp_all) ?_
        refine X.un (by rfl) (by rfl) (by rfl) ?_
        refine X.pickF (by rfl) (by first | rfl | assumption | simp_all) (by rfl) (by rfl) ?_
        cases h
        exact X.endG (by repeat (first | exact trivial | refine ⟨by rfl, ?_⟩ | refine ⟨by simp [setL], ?_⟩)) (by repeat (first | exact trivial | refine ⟨by rfl, ?_⟩ | refine ⟨by simp [setL], ?_⟩)) (by rfl) (by rfl)
      · replace h := condT hb5 h
        refine X.gno (by rfl) (by rfl) (by first | rfl | assumption | simp_all) (by rfl) ?_
        refine X.gno (by rfl) (by rfl) (by first | rfl | assumption | simp_all) (by rfl) ?_
        refine X.pickT (by rfl) (by first | rfl | assumption | simp_all) (by rfl) (by rfl) ?_
        cases h
        exact X.endG (by repeat (first | exact trivial | refine ⟨by rfl, ?_⟩ | refine ⟨by simp [setL], ?_⟩)) (by repeat (first | exact trivial | refine ⟨by rfl, ?_⟩ | refine ⟨by simp [setL], ?_⟩)) (by rfl) (by rfl)
    · replace h := condT hb3 h
      refine X.gno (by rfl) (by rfl) (by first | rfl | assumption | simp_all) (by rfl) ?_
      refine X.gno (by rfl) (by rfl) (by first | rfl | assumption | simp_all) (by rfl) ?_
      refine X.pickT (by rfl) (by first | rfl | assumption | simp_all) (by rfl) (by rfl) ?_
      refine X.move (by rfl) (by rfl) ?_
      refine X.gno (by rfl) (by rfl) (by first | rfl | assumption | simp_all) (by rfl) ?_
      refine X.gno (by rfl) (by rfl) (by first | rfl | assumption | simp_all) (by rfl) ?_
      refine X.gno (by rfl) (by rfl) (by first | rfl | assumption | simp_all) (by rfl) ?_
      refine X.pickT (by rfl) (by first | rfl | assumption | simp_all) (by rfl) (by rfl) ?_
      cases h
      exact X.endG (by repeat (first | exact trivial | refine ⟨by rfl, ?_⟩ | refine ⟨by simp [setL], ?_⟩)) (by repeat (first | exact trivial | refine ⟨by rfl, ?_⟩ | refine ⟨by simp [setL], ?_⟩)) (by rfl) (by rfl)
  replace h := h2; clear h2
  refine R.cond (by rfl) (fun hc7 => ?_) (fun hc7 => ?_)
  · replace h := condT hc7 h
    refine Run.seq ?_
    refine Run.reg ?_
    refine X.assign (by rfl) (by rfl) ?_
    refine X.nil ?_
    cases h
    refine R.fin1 Try.results77 (by rfl) (by rfl) ?_
    rfl
  · replace h := condF hc7 h
    refine Run.skip ?_
    refine Run.seq ?_
    refine Run.reg ?_
    refine X.assign (by rfl) (by rfl) ?_
    refine X.nil ?_
    refine Run.seq ?_
    refine Run.seq ?_
    refine Run.reg ?_
    refine X.move (by rfl) (by rfl) ?_
    refine X.assign (by rfl) (by rfl) ?_
    refine X.nil ?_
    obtain ⟨o8, ho8, h⟩ := bindE h
    refine R.join2 (β := Int) [] [] (fun p19 S => (7, int p19) :: S) (fun p19 M => M) (fun p19 => p19 = o8) ?_ ?_
    · intro JJ11 hmeet10
      have hup9 := h; clear h; have h := ho8; clear ho8
      refine Run.block ?_
      refine R.loop2 (β := Int × Int) [(0, .slice (b0.map eTStep)), (2, int b2)] [] (fun bb S => (7, int bb.1) :: (8, int bb.2) :: S) (fun bb M => M) (fun n bb => i_TotalCapacity_L1 b0 b2 n bb.1 bb.2 = some o8) F0 (0, b1) (by repeat (first | exact trivial | refine ⟨by rfl, ?_⟩ | refine ⟨by simp [setL], ?_⟩)) (by repeat (first | exact trivial | refine ⟨by rfl, ?_⟩ | refine ⟨by simp [setL], ?_⟩)) (by rfl) (by rfl) h ?_
      clear h
      rintro JJ11 n11 ⟨a13, a14⟩ hag11 h
      dsimp only at h
      obtain _ | n11 := n11
      · exact absurd h (by simp [i_TotalCapacity_L1])
      rw [i_TotalCapacity_L1] at h
      refine Run.seq ?_
      refine Run.seq ?_
      refine Run.reg ?_
      refine X.move (by rfl) (by rfl) ?_
      refine X.move (by rfl) (by rfl) ?_
      refine X.bin (by rfl) (by rfl) (by rfl) (by rfl) (by intro h; cases h) (by rfl) ?_
      refine X.nil ?_
      refine R.cond (by rfl) (fun hc17 => ?_) (fun hc17 => ?_)
      · replace h := condT hc17 h
        refine Run.skip ?_
        refine Run.seq ?_
        refine Run.block ?_
        refine Run.reg ?_
        refine X.move (by rfl) (by rfl) ?_
        refine X.move (by rfl) (by rfl) ?_
        refine X.move (by rfl) (by rfl) ?_
        obtain ⟨v18, hv18, h⟩ := bindE h
        refine X.callP (i_capacityAt_pc _ _ _ hv18) (by rfl) (by rfl) (by rfl) (by repeat (first | exact trivial | refine ⟨by rfl, ?_⟩ | refine ⟨by simp [setL], ?_⟩)) (by rfl) (by rfl) (by rfl) (by rfl) ?_
        refine X.addW (by rfl) (by rfl) (by rfl) ?_
        refine X.assign (by rfl) (by rfl) ?_
        refine X.nil ?_
        refine Run.blk ?_
        refine Run.reg ?_
        refine X.move (by rfl) (by rfl) ?_
        refine X.addW (by rfl) (by rfl) (by rfl) ?_
        refine X.assign (by rfl) (by rfl) ?_
        refine X.nil ?_
        exact hag11 n11 ((W (a13 + v18)), (W (a14 + 1))) _ _ (by omega) h (by repeat (first | exact trivial | refine ⟨by rfl, ?_⟩ | refine ⟨by simp [setL], ?_⟩)) (by repeat (first | exact trivial | refine ⟨by rfl, ?_⟩ | refine ⟨by simp [setL], ?_⟩)) (by rfl) (by rfl)
      · replace h := condF hc17 h
        refine Run.exit (by rfl) ?_
        exact hmeet10 a13 _ _ (Option.some.inj h) (by repeat (first | exact trivial | refine ⟨by rfl, ?_⟩ | refine ⟨by simp [setL], ?_⟩)) (by repeat (first | exact trivial | refine ⟨by rfl, ?_⟩ | refine ⟨by simp [setL], ?_⟩)) (by rfl) (by rfl)
    rintro p19 rfl
    refine Run.seq ?_
    refine Run.reg ?_
    refine X.move (by rfl) (by rfl) ?_
    refine X.assign (by rfl) (by rfl) ?_
    refine X.nil ?_
    cases h
    refine R.fin1 Try.results77 (by rfl) (by rfl) ?_
    rfl
theorem i_CapacityIn_pc (b0 : TProject) (b1 : Int) (b2 : Int) (b3 : Int) (r : Int) (h : i_CapacityIn b0 b1 b2 b3 = some r) : PC Try.prog 19 [eTProject b0, int b1, int b2, int b3] (int r) := by
  unfold i_CapacityIn at h
  refine PC.start Try.func19 Try.ntmps19 rfl ok19 rfl ?_
  refine Run.seq ?_
  refine Run.reg ?_
  refine X.box (by rfl) (by rfl) (by repeat (first | exact trivial | refine ⟨by rfl, ?_⟩ | refine ⟨by simp [setL], ?_⟩)) (by rfl) (by rfl) (by rfl) (by rfl) ?_
  refine X.assign (by rfl) (by rfl) ?_
  refine X.nil ?_
  refine Run.seq ?_
  refine Run.seq ?_
  obtain ⟨v1, hv1, h⟩ := bindE h
  obtain ⟨e2, he2, h2⟩ := bindE h
  refine R.regG [(1, int b1), (2, int b2), (3, int b3), (4, .lptr 256 0), (17, bool e2)] [(256, .blk true [int b0.Deadline, .slice (b0.Activities.map eTActivity), .slice (b0.Links.map eTLink), .slice (b0.Resources.map eTResource), .slice (b0.Stocks.map int)])] ?_ ?_
  · clear h; have h := he2; clear he2 h2
    refine X.load_l shp34 (by rfl) (by rfl) (by rfl) (by rfl) (by rfl) (by rfl) ?_
    refine X.callP (i_ProjectOk_pc _ _ hv1) (by rfl) (by rfl) (by rfl) (by repeat (first | exact trivial | refine ⟨by rfl, ?_⟩ | refine ⟨by simp [setL], ?_⟩)) (by rfl) (by rfl) (by rfl) (by rfl) ?_
    refine X.un (by rfl) (by rfl) (by rfl) ?_
    refine X.move (by rfl) (by rfl) ?_
    refine X.ifG (by rfl) (by rfl) (by rfl) (fun hb3 => ?_) (fun hb3 => ?_)
    · replace h := condF hb3 h
      refine X.load_l shp34 (by rfl) (by rfl) (by rfl) (by rfl) (by rfl) (by rfl) ?_
      refine X.gyes (by rfl) (by rfl) (by first | rfl | assumption | simp_all) ?_
      refine X.move (by rfl) (by rfl) ?_
      refine X.gyes (by rfl) (by rfl) (by first | rfl | assumption | simp_all) ?_
      obtain ⟨v4, hv4, h⟩ := bindE h
      refine X.callP (i_Project_hasResource_pc _ _ _ hv4) (by rfl) (by rfl) (by rfl) (by repeat (first | exact trivial | refine ⟨by rfl, ?_⟩ | refine ⟨by simp [setL], ?_⟩)) (by rfl) (by rfl) (by rfl) (by rfl) ?_
      refine X.gyes (by rfl) (by rfl) (by first | rfl | assumption | simp_all) ?_
      refine X.un (by rfl) (by rfl) (by rfl) ?_
      refine X.pickF (by rfl) (by first | rfl | assumption | simp_all) (by rfl) (by rfl) ?_
      cases h
      exact X.endG (by repeat (first | exact trivial | refine ⟨by rfl, ?_⟩ | refine ⟨by simp [setL], ?_⟩)) (by repeat (first | exact trivial | refine ⟨by rfl, ?_⟩ | refine ⟨by simp [setL], ?_⟩)) (by rfl) (by rfl)
    · replace h := condT hb3 h
      refine X.gno (by rfl) (by rfl) (by first | rfl | assumption | simp_all) (by rfl) ?_
      refine X.gno (by rfl) (by rfl) (by first | rfl | assumption | simp_all) (by rfl) ?_
      refine X.gno (by rfl) (by rfl) (by first | rfl | assumption | simp_all) (by rfl) ?_
      refine X.pickT (by rfl) (by first | rfl | assumption | simp_all) (by rfl) (by rfl) ?_
      cases h
      exact X.endG (by repeat (first | exact trivial | refine ⟨by rfl, ?_⟩ | refine ⟨by simp [setL], ?_⟩)) (by repeat (first | exact trivial | refine ⟨by rfl, ?_⟩ | refine ⟨by simp [setL], ?_⟩)) (by rfl) (by rfl)
  replace h := h2; clear h2
  refine R.cond (by rfl) (fun hc5 => ?_) (fun hc5 => ?_)
  · replace h := condT hc5 h
    refine Run.seq ?_
    refine Run.reg ?_
    refine X.assign (by rfl) (by rfl) ?_
    refine X.nil ?_
    cases h
    refine R.fin1 Try.results19 (by rfl) (by rfl) ?_
    rfl
  · replace h := condF hc5 h
    refine Run.skip ?_
    refine Run.seq ?_
    refine Run.reg ?_
    refine X.fieldAddr_l fld34_3 (by rfl) (by rfl) ?_
    refine X.load_l shp32 (by rfl) (by rfl) (by rfl) (by rfl) (by rfl) (by rfl) ?_
    refine X.move (by rfl) (by rfl) ?_
    obtain ⟨v6, hv6, h⟩ := bindE h
    refine X.index_s elt32 (by rfl) (by rfl) (idxL_spec hv6).1 (idxL_map eTResource hv6) (by rfl) (by rfl) (by rfl) ?_
    refine X.fieldAddr_c fld115_0 (by rfl) (by rfl) ?_
    refine X.load_c shp113 (by rfl) (by rfl) (by rfl) (by rfl) ?_
    refine X.move (by rfl) (by rfl) ?_
    refine X.move (by rfl) (by rfl) ?_
    obtain ⟨v7, hv7, h⟩ := bindE h
    refine X.callP (i_TotalCapacity_pc _ _ _ _ hv7) (by rfl) (by rfl) (by rfl) (by repeat (first | exact trivial | refine ⟨by rfl, ?_⟩ | refine ⟨by simp [setL], ?_⟩)) (by rfl) (by rfl) (by rfl) (by rfl) ?_
    refine X.assign (by rfl) (by rfl) ?_
    refine X.nil ?_
    cases h
    refine R.fin1 Try.results19 (by rfl) (by rfl) ?_
    rfl
theorem w_FnExactCapacityIn_pc (b0 : TProject) (b1 : Int) (b2 : Int) (b3 : Int) (r : Bool) (h : w_FnExactCapacityIn b0 b1 b2 b3 = some r) : PC Try.prog 3 [eTProject b0, int b1, int b2, int b3] (bool r) := by
  unfold w_FnExactCapacityIn at h
  refine PC.start Try.func3 Try.ntmps3 rfl ok3 rfl ?_
  refine Run.seq ?_
  refine Run.reg ?_
  refine X.box (by rfl) (by rfl) (by repeat (first | exact trivial | refine ⟨by rfl, ?_⟩ | refine ⟨by simp [setL], ?_⟩)) (by rfl) (by rfl) (by rfl) (by rfl) ?_
  refine X.assign (by rfl) (by rfl) ?_
  refine X.nil ?_
  refine Run.seq ?_
  refine Run.reg ?_
  refine X.assign (by rfl) (by rfl) ?_
  refine X.nil ?_
  refine Run.seq ?_
  refine Run.reg ?_
  refine X.load_l shp27 (by rfl) (by rfl) (by rfl) (by rfl) (by rfl) (by rfl) ?_
  refine X.move (by rfl) (by rfl) ?_
  obtain ⟨v1, hv1, h⟩ := bindE h
  refine X.callP (w_szProject_pc _ _ _ hv1) (by rfl) (by rfl) (by rfl) (by repeat (first | exact trivial | refine ⟨by rfl, ?_⟩ | refine ⟨by simp [setL], ?_⟩)) (by rfl) (by rfl) (by rfl) (by rfl) ?_
  refine X.assign (by rfl) (by rfl) ?_
  refine X.nil ?_
  refine Run.seq ?_
  refine Run.seq ?_
  refine Run.reg ?_
  refine X.move (by rfl) (by rfl) ?_
  refine X.bin (by rfl) (by rfl) (by rfl) (by rfl) (by intro h; cases h) (by rfl) ?_
  refine X.nil ?_
  refine R.cond (by rfl) (fun hc2 => ?_) (fun hc2 => ?_)
  · replace h := condT hc2 h
    refine Run.seq ?_
    refine Run.reg ?_
    refine X.assign (by rfl) (by rfl) ?_
    refine X.nil ?_
    cases h
    refine R.fin1 Try.results3 (by rfl) (by rfl) ?_
    rfl
  · replace h := condF hc2 h
    refine Run.skip ?_
    refine Run.seq ?_
    refine Run.reg ?_
    refine X.load_l shp27 (by rfl) (by rfl) (by rfl) (by rfl) (by rfl) (by rfl) ?_
    obtain ⟨v3, hv3, h⟩ := bindE h
    refine X.callA (w_toProject_pc _ _ hv3) (by rfl) (by rfl) (by rfl) (by repeat (first | exact trivial | refine ⟨by rfl, ?_⟩ | refine ⟨by simp [setL], ?_⟩)) (by rfl) (by rfl) (by rfl) (by rfl) (by rfl) (by rfl) ?_
    refine X.move (by rfl) (by rfl) ?_
    refine X.move (by rfl) (by rfl) ?_
    refine X.move (by rfl) (by rfl) ?_
    obtain ⟨v4, hv4, h⟩ := bindE h
    refine X.callP (s_CapacityIn_pc _ _ _ _ _ hv4) (by rfl) (by rfl) (by rfl) (by repeat (first | exact trivial | refine ⟨by rfl, ?_⟩ | refine ⟨by simp [setL], ?_⟩)) (by rfl) (by rfl) (by rfl) (by rfl) ?_
    refine X.assign (by rfl) (by rfl) ?_
    refine X.nil ?_
    refine Run.seq ?_
    refine Run.reg ?_
    refine X.load_l shp27 (by rfl) (by rfl) (by rfl) (by rfl) (by rfl) (by rfl) ?_
    obtain ⟨v5, hv5, h⟩ := bindE h
    refine X.callA (w_toProject_pc _ _ hv5) (by rfl) (by rfl) (by rfl) (by repeat (first | exact trivial | refine ⟨by rfl, ?_⟩ | refine ⟨by simp [setL], ?_⟩)) (by rfl) (by rfl) (by rfl) (by rfl) (by rfl) (by rfl) ?_
    refine X.alloc zer34 (by rfl) (by rfl) (by rfl) ?_
    refine X.store_l shp34 (by rfl) (by rfl) (by rfl) (by rfl) (by repeat (first | exact trivial | refine ⟨by rfl, ?_⟩ | refine ⟨by simp [setL], ?_⟩)) (by rfl) (by rfl) (by rfl) ?_
    refine X.nil ?_
    refine Run.seq ?_
    refine Run.reg ?_
    refine X.load_l shp34 (by rfl) (by rfl) (by rfl) (by rfl) (by rfl) (by rfl) ?_
    refine X.move (by rfl) (by rfl) ?_
    refine X.move (by rfl) (by rfl) ?_
    refine X.move (by rfl) (by rfl) ?_
    obtain ⟨v6, hv6, h⟩ := bindE h
    refine X.callP (i_CapacityIn_pc _ _ _ _ _ hv6) (by rfl) (by rfl) (by rfl) (by repeat (first | exact trivial | refine ⟨by rfl, ?_⟩ | refine ⟨by simp [setL], ?_⟩)) (by rfl) (by rfl) (by rfl) (by rfl) ?_
    refine X.assign (by rfl) (by rfl) ?_
    refine X.nil ?_
    refine Run.seq ?_
    refine Run.seq ?_
    refine Run.reg ?_
    refine X.move (by rfl) (by rfl) ?_
    refine X.move (by rfl) (by rfl) ?_
    refine X.bin (by rfl) (by rfl) (by rfl) (by rfl) (by intro h; cases h) (by rfl) ?_
    refine X.nil ?_
    refine R.cond (by rfl) (fun hc7 => ?_) (fun hc7 => ?_)
    · replace h := condT hc7 h
      refine Run.seq ?_
      refine Run.reg ?_
      refine X.assign (by rfl) (by rfl) ?_
      refine X.nil ?_
      cases h
      refine R.fin1 Try.results3 (by rfl) (by rfl) ?_
      rfl
    · replace h := condF hc7 h
      refine Run.skip ?_
      refine Run.seq ?_
      refine Run.seq ?_
      refine Run.draw (footOf [(0, ([704], [])), (1, ([256], [])), (2, ([], [2304, 2305, 2306, 2307])), (3, ([1600, 1601, 1602, 1603, 2304, 2305, 2306, 2307], []))]) mixed (by kernel_rfl) (by kernel_rfl) ?_
      refine X.load_l shp34 (by rfl) (by rfl) (by rfl) (by rfl) (by rfl) (by rfl) ?_
      refine X.load_l shp27 (by rfl) (by rfl) (by rfl) (by rfl) (by rfl) (by rfl) ?_
      obtain ⟨v8, hv8, h⟩ := bindE h
      refine X.callA (w_toProject_pc _ _ hv8) (by rfl) (by rfl) (by rfl) (by repeat (first | exact trivial | refine ⟨by rfl, ?_⟩ | refine ⟨by simp [setL], ?_⟩)) (by rfl) (by rfl) (by rfl) (by rfl) (by rfl) (by rfl) ?_
      obtain ⟨v9, hv9, h⟩ := bindE h
      refine X.callP (w_eqProject_pc _ _ _ hv9) (by rfl) (by rfl) (by rfl) (by repeat (first | exact trivial | refine ⟨by rfl, ?_⟩ | refine ⟨by simp [setL], ?_⟩)) (by rfl) (by rfl) (by rfl) (by rfl) ?_
      refine X.un (by rfl) (by rfl) (by rfl) ?_
      refine X.nil ?_
      refine R.cond (by rfl) (fun hc10 => ?_) (fun hc10 => ?_)
      · replace h := condT hc10 h
        refine Run.seq ?_
        refine Run.reg ?_
        refine X.assign (by rfl) (by rfl) ?_
        refine X.nil ?_
        cases h
        refine R.fin1 Try.results3 (by rfl) (by rfl) ?_
        rfl
      · replace h := condF hc10 h
        refine Run.skip ?_
        refine Run.seq ?_
        refine Run.reg ?_
        refine X.assign (by rfl) (by rfl) ?_
        refine X.nil ?_
        cases h
        refine R.fin1 Try.results3 (by rfl) (by rfl) ?_
        rfl
end Go.Px.Ytjncefleglnnjaa
