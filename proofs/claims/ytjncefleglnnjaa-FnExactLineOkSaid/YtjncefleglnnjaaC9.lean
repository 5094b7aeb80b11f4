/-
  PROVED: contracts of functions of the program over pure values. No condition beyond those that each theorem names.
-/
import Derived.Test.YtjncefleglnnjaaProg
import Derived.Test.YtjncefleglnnjaaD1
import Derived.Test.YtjncefleglnnjaaC1
import Derived.Test.YtjncefleglnnjaaC2
import Derived.Test.YtjncefleglnnjaaC8
namespace Go.Px.Ytjncefleglnnjaa
set_option linter.unusedSimpArgs false
set_option linter.unusedVariables false
open Go.Px Go.Proofs
theorem ok85 : okFn Try.prog 85 = true := by kernel_rfl
theorem ok162 : okFn Try.prog 162 = true := by kernel_rfl
theorem ok86 : okFn Try.prog 86 = true := by kernel_rfl
theorem ok24 : okFn Try.prog 24 = true := by kernel_rfl
theorem ok88 : okFn Try.prog 88 = true := by kernel_rfl
theorem ok211 : okFn Try.prog 211 = true := by kernel_rfl
theorem ok164 : okFn Try.prog 164 = true := by kernel_rfl
theorem ok163 : okFn Try.prog 163 = true := by kernel_rfl
theorem ok89 : okFn Try.prog 89 = true := by kernel_rfl
theorem ok26 : okFn Try.prog 26 = true := by kernel_rfl
theorem s_LiteralOk_pc (b0 : TProject) (b1 : TLiteral) (r : Bool) (h : s_LiteralOk b0 b1 = some r) : PC Try.prog 85 [eTProject b0, eTLiteral b1] (bool r) := by
  unfold s_LiteralOk at h
  refine PC.start Try.func85 Try.ntmps85 rfl ok85 rfl ?_
  refine Run.seq ?_
  refine Run.reg ?_
  refine X.box (by rfl) (by rfl) (by repeat (first | exact trivial | refine ⟨by rfl, ?_⟩ | refine ⟨by simp [setL], ?_⟩)) (by rfl) (by rfl) (by rfl) (by rfl) ?_
  refine X.box (by rfl) (by rfl) (by repeat (first | exact trivial | refine ⟨by rfl, ?_⟩ | refine ⟨by simp [setL], ?_⟩)) (by rfl) (by rfl) (by rfl) (by rfl) ?_
  refine X.assign (by rfl) (by rfl) ?_
  refine X.nil ?_
  refine Run.seq ?_
  refine Run.seq ?_
  obtain ⟨v1, hv1, h⟩ := bindE h
  obtain ⟨e2, he2, h2⟩ := bindE h
  refine R.regG [(2, .lptr 128 0), (3, .lptr 192 0), (17, bool e2)] [(128, .blk true [int b0.Deadline, .slice (b0.Activities.map eTActivity), .slice (b0.Links.map eTLink), .slice (b0.Resources.map eTResource), .slice (b0.Stocks.map int)]), (192, .blk true [int b1.Kind, int b1.Activity, int b1.Value])] ?_ ?_
  · clear h; have h := he2; clear he2 h2
    refine X.load_l shp34 (by rfl) (by rfl) (by rfl) (by rfl) (by rfl) (by rfl) ?_
    refine X.callP (s_ProjectOk_pc _ _ hv1) (by rfl) (by rfl) (by rfl) (by repeat (first | exact trivial | refine ⟨by rfl, ?_⟩ | refine ⟨by simp [setL], ?_⟩)) (by rfl) (by rfl) (by rfl) (by rfl) ?_
    refine X.un (by rfl) (by rfl) (by rfl) ?_
    refine X.move (by rfl) (by rfl) ?_
    refine X.ifG (by rfl) (by rfl) (by rfl) (fun hb3 => ?_) (fun hb3 => ?_)
    · replace h := condF hb3 h
      refine X.fieldAddr_l fld97_1 (by rfl) (by rfl) ?_
      refine X.gyes (by rfl) (by rfl) (by first | rfl | assumption | simp_all) ?_
      refine X.load_l shp3 (by rfl) (by rfl) (by rfl) (by rfl) (by rfl) (by rfl) ?_
      refine X.gyes (by rfl) (by rfl) (by first | rfl | assumption | simp_all) ?_
      refine X.fieldAddr_l fld34_1 (by rfl) (by rfl) ?_
      refine X.gyes (by rfl) (by rfl) (by first | rfl | assumption | simp_all) ?_
      refine X.load_l shp30 (by rfl) (by rfl) (by rfl) (by rfl) (by rfl) (by rfl) ?_
      refine X.gyes (by rfl) (by rfl) (by first | rfl | assumption | simp_all) ?_
      refine X.len_s elt30 (by rfl) (by exact List.length_map ..) (by rfl) ?_
      refine X.gyes (by rfl) (by rfl) (by first | rfl | assumption | simp_all) ?_
      refine X.subW (by rfl) (by rfl) (by rfl) ?_
      refine X.gyes (by rfl) (by rfl) (by first | rfl | assumption | simp_all) ?_
      obtain ⟨v4, hv4, h⟩ := bindE h
      refine X.callP (s_l01In_pc _ _ _ _ hv4) (by rfl) (by rfl) (by rfl) (by repeat (first | exact trivial | refine ⟨by rfl, ?_⟩ | refine ⟨by simp [setL], ?_⟩)) (by rfl) (by rfl) (by rfl) (by rfl) ?_
      refine X.gyes (by rfl) (by rfl) (by first | rfl | assumption | simp_all) ?_
      refine X.un (by rfl) (by rfl) (by rfl) ?_
      refine X.pickF (by rfl) (by first | rfl | assumption | simp_all) (by rfl) (by rfl) ?_
      cases h
      exact X.endG (by repeat (first | exact trivial | refine ⟨by rfl, ?_⟩ | refine ⟨by simp [setL], ?_⟩)) (by repeat (first | exact trivial | refine ⟨by rfl, ?_⟩ | refine ⟨by simp [setL], ?_⟩)) (by rfl) (by rfl)
    · replace h := condT hb3 h
      refine X.gno (by rfl) (by rfl) (by first | rfl | assumption | simp_all) (by rfl) ?_
      refine X.gno (by rfl) (by rfl) (by first | rfl | assumption | simp_all) (by rfl) ?_
      refine X.gno (by rfl) (by rfl) (by first | rfl | assumption | simp_all) (by rfl) ?_
      refine X.gno (by rfl) (by rfl) (by first | rfl | assumption | simp_all) (by rfl) ?_
      refine X.gno (by rfl) (by rfl) (by first | rfl | assumption | simp_all) (by rfl) ?_
      refine X.gno (by rfl) (by rfl) (by first | rfl | assumption | simp_all) (by rfl) ?_
      refine X.gno (by rfl) (by rfl) (by first | rfl | assumption | simp_all) (by rfl) ?_
      refine X.pickT (by rfl) (by first | rfl | assumption | simp_all) (by rfl) (by rfl) ?_
      cases h
      exact X.endG (by repeat (first | exact trivial | refine ⟨by rfl, ?_⟩ | refine ⟨by simp [setL], ?_⟩)) (by repeat (first | exact trivial | refine ⟨by rfl, ?_⟩ | refine ⟨by simp [setL], ?_⟩)) (by rfl) (by rfl)
  replace h := h2; clear h2
  refine R.cond (by rfl) (fun hc5 => ?_) (fun hc5 => ?_)
  · replace h := condT hc5 h
    refine Run.seq ?_
    refine Run.reg ?_
    refine X.assign (by rfl) (by rfl) ?_
    refine X.nil ?_
    cases h
    refine R.fin1 Try.results85 (by rfl) (by rfl) ?_
    rfl
  · replace h := condF hc5 h
    refine Run.skip ?_
    refine Run.seq ?_
    refine Run.seq ?_
    refine Run.reg ?_
    refine X.fieldAddr_l fld97_0 (by rfl) (by rfl) ?_
    refine X.load_l shp3 (by rfl) (by rfl) (by rfl) (by rfl) (by rfl) (by rfl) ?_
    refine X.nil ?_
    refine Run.block ?_
    refine Run.seq ?_
    refine Run.seq ?_
    refine Run.reg ?_
    refine X.bin (by rfl) (by rfl) (by rfl) (by rfl) (by intro h; cases h) (by rfl) ?_
    refine X.assign (by rfl) (by rfl) ?_
    refine X.nil ?_
    obtain ⟨o6, ho6, h⟩ := bindE h
    refine R.join2 (β := Bool) [(2, .lptr 128 0), (3, .lptr 192 0), (19, int b1.Kind)] [(128, .blk true [int b0.Deadline, .slice (b0.Activities.map eTActivity), .slice (b0.Links.map eTLink), .slice (b0.Resources.map eTResource), .slice (b0.Stocks.map int)]), (192, .blk true [int b1.Kind, int b1.Activity, int b1.Value])] (fun p11 S => (20, bool p11) :: S) (fun p11 M => M) (fun p11 => p11 = o6) ?_ ?_
    · intro JJ9 hmeet8
      have hup7 := h; clear h; have h := ho6; clear ho6
      refine R.cond (by rfl) (fun hc10 => ?_) (fun hc10 => ?_)
      · replace h := condT hc10 h
        refine Run.skip ?_
        exact hmeet8 (b1.Kind == 1) _ _ (Option.some.inj h) (by repeat (first | exact trivial | refine ⟨by rfl, ?_⟩ | refine ⟨by simp [setL], ?_⟩)) (by repeat (first | exact trivial | refine ⟨by rfl, ?_⟩ | refine ⟨by simp [setL], ?_⟩)) (by rfl) (by rfl)
      · replace h := condF hc10 h
        refine Run.reg ?_
        refine X.bin (by rfl) (by rfl) (by rfl) (by rfl) (by intro h; cases h) (by rfl) ?_
        refine X.assign (by rfl) (by rfl) ?_
        refine X.nil ?_
        exact hmeet8 (b1.Kind == 2) _ _ (Option.some.inj h) (by repeat (first | exact trivial | refine ⟨by rfl, ?_⟩ | refine ⟨by simp [setL], ?_⟩)) (by repeat (first | exact trivial | refine ⟨by rfl, ?_⟩ | refine ⟨by simp [setL], ?_⟩)) (by rfl) (by rfl)
    rintro p11 rfl
    refine R.cond (by rfl) (fun hc12 => ?_) (fun hc12 => ?_)
    · replace h := condT hc12 h
      refine Run.seq ?_
      refine Run.reg ?_
      refine X.fieldAddr_l fld97_2 (by rfl) (by rfl) ?_
      refine X.load_l shp3 (by rfl) (by rfl) (by rfl) (by rfl) (by rfl) (by rfl) ?_
      obtain ⟨v13, hv13, h⟩ := bindE h
      refine X.callP (s_l01In_pc _ _ _ _ hv13) (by rfl) (by rfl) (by rfl) (by repeat (first | exact trivial | refine ⟨by rfl, ?_⟩ | refine ⟨by simp [setL], ?_⟩)) (by rfl) (by rfl) (by rfl) (by rfl) ?_
      refine X.assign (by rfl) (by rfl) ?_
      refine X.nil ?_
      cases h
      refine R.fin1 Try.results85 (by rfl) (by rfl) ?_
      rfl
    · replace h := condF hc12 h
      refine Run.seq ?_
      refine Run.seq ?_
      refine Run.reg ?_
      refine X.bin (by rfl) (by rfl) (by rfl) (by rfl) (by intro h; cases h) (by rfl) ?_
      refine X.assign (by rfl) (by rfl) ?_
      refine X.nil ?_
      obtain ⟨o14, ho14, h⟩ := bindE h
      refine R.join2 (β := Bool) [(2, .lptr 128 0), (3, .lptr 192 0)] [(128, .blk true [int b0.Deadline, .slice (b0.Activities.map eTActivity), .slice (b0.Links.map eTLink), .slice (b0.Resources.map eTResource), .slice (b0.Stocks.map int)]), (192, .blk true [int b1.Kind, int b1.Activity, int b1.Value])] (fun p19 S => (26, bool p19) :: S) (fun p19 M => M) (fun p19 => p19 = o14) ?_ ?_
      · intro JJ17 hmeet16
        have hup15 := h; clear h; have h := ho14; clear ho14
        refine R.cond (by rfl) (fun hc18 => ?_) (fun hc18 => ?_)
        · replace h := condT hc18 h
          refine Run.skip ?_
          exact hmeet16 (b1.Kind == 3) _ _ (Option.some.inj h) (by repeat (first | exact trivial | refine ⟨by rfl, ?_⟩ | refine ⟨by simp [setL], ?_⟩)) (by repeat (first | exact trivial | refine ⟨by rfl, ?_⟩ | refine ⟨by simp [setL], ?_⟩)) (by rfl) (by rfl)
        · replace h := condF hc18 h
          refine Run.reg ?_
          refine X.bin (by rfl) (by rfl) (by rfl) (by rfl) (by intro h; cases h) (by rfl) ?_
          refine X.assign (by rfl) (by rfl) ?_
          refine X.nil ?_
          exact hmeet16 (b1.Kind == 4) _ _ (Option.some.inj h) (by repeat (first | exact trivial | refine ⟨by rfl, ?_⟩ | refine ⟨by simp [setL], ?_⟩)) (by repeat (first | exact trivial | refine ⟨by rfl, ?_⟩ | refine ⟨by simp [setL], ?_⟩)) (by rfl) (by rfl)
      rintro p19 rfl
      refine R.cond (by rfl) (fun hc20 => ?_) (fun hc20 => ?_)
      · replace h := condT hc20 h
        refine Run.seq ?_
        refine Run.draw (footOf [(1, ([192], [])), (3, ([128], [])), (5, ([192], []))]) mixed (by kernel_rfl) (by kernel_rfl) ?_
        refine X.fieldAddr_l fld97_2 (by rfl) (by rfl) ?_
        refine X.load_l shp3 (by rfl) (by rfl) (by rfl) (by rfl) (by rfl) (by rfl) ?_
        refine X.fieldAddr_l fld34_1 (by rfl) (by rfl) ?_
        refine X.load_l shp30 (by rfl) (by rfl) (by rfl) (by rfl) (by rfl) (by rfl) ?_
        refine X.fieldAddr_l fld97_1 (by rfl) (by rfl) ?_
        refine X.load_l shp3 (by rfl) (by rfl) (by rfl) (by rfl) (by rfl) (by rfl) ?_
        obtain ⟨v21, hv21, h⟩ := bindE h
        refine X.index_s elt30 (by rfl) (by rfl) (idxL_spec hv21).1 (idxL_map eTActivity hv21) (by rfl) (by rfl) (by rfl) ?_
        refine X.fieldAddr_c fld127_2 (by rfl) (by rfl) ?_
        refine X.load_c shp125 (by rfl) (by rfl) (by rfl) (by rfl) ?_
        refine X.len_s elt125 (by rfl) (by exact List.length_map ..) (by rfl) ?_
        refine X.subW (by rfl) (by rfl) (by rfl) ?_
        obtain ⟨v22, hv22, h⟩ := bindE h
        refine X.callP (s_l01In_pc _ _ _ _ hv22) (by rfl) (by rfl) (by rfl) (by repeat (first | exact trivial | refine ⟨by rfl, ?_⟩ | refine ⟨by simp [setL], ?_⟩)) (by rfl) (by rfl) (by rfl) (by rfl) ?_
        refine X.assign (by rfl) (by rfl) ?_
        refine X.nil ?_
        cases h
        refine R.fin1 Try.results85 (by rfl) (by rfl) ?_
        rfl
      · replace h := condF hc20 h
        refine Run.skip ?_
        refine Run.blk ?_
        refine Run.seq ?_
        refine Run.reg ?_
        refine X.assign (by rfl) (by rfl) ?_
        refine X.nil ?_
        cases h
        refine R.fin1 Try.results85 (by rfl) (by rfl) ?_
        rfl
theorem s_l11Sign_pc (b0 : Int) (b1 : Int) (r : Int) (h : s_l11Sign b0 b1 = some r) : PC Try.prog 162 [int b0, int b1] (int r) := by
  unfold s_l11Sign at h
  refine PC.start Try.func162 Try.ntmps162 rfl ok162 rfl ?_
  refine Run.seq ?_
  refine Run.reg ?_
  refine X.assign (by rfl) (by rfl) ?_
  refine X.nil ?_
  refine Run.seq ?_
  refine Run.seq ?_
  refine Run.reg ?_
  refine X.move (by rfl) (by rfl) ?_
  refine X.move (by rfl) (by rfl) ?_
  refine X.bin (by rfl) (by rfl) (by rfl) (by rfl) (by intro h; cases h) (by rfl) ?_
  refine X.nil ?_
  refine R.cond (by rfl) (fun hc1 => ?_) (fun hc1 => ?_)
  · replace h := condT hc1 h
    refine Run.seq ?_
    refine Run.reg ?_
    refine X.assign (by rfl) (by rfl) ?_
    refine X.nil ?_
    cases h
    refine R.fin1 Try.results162 (by rfl) (by rfl) ?_
    rfl
  · replace h := condF hc1 h
    refine Run.skip ?_
    refine Run.seq ?_
    refine Run.seq ?_
    refine Run.reg ?_
    refine X.move (by rfl) (by rfl) ?_
    refine X.move (by rfl) (by rfl) ?_
    refine X.bin (by rfl) (by rfl) (by rfl) (by rfl) (by intro h; cases h) (by rfl) ?_
    refine X.nil ?_
    refine R.cond (by rfl) (fun hc2 => ?_) (fun hc2 => ?_)
    · replace h := condT hc2 h
      refine Run.seq ?_
      refine Run.reg ?_
      refine X.assign (by rfl) (by rfl) ?_
      refine X.nil ?_
      cases h
      refine R.fin1 Try.results162 (by rfl) (by rfl) ?_
      rfl
    · replace h := condF hc2 h
      refine Run.skip ?_
      refine Run.seq ?_
      refine Run.reg ?_
      refine X.assign (by rfl) (by rfl) ?_
      refine X.nil ?_
      cases h
      refine R.fin1 Try.results162 (by rfl) (by rfl) ?_
      rfl
theorem s_CompareLiterals_pc (b0 : TLiteral) (b1 : TLiteral) (r : Int) (h : s_CompareLiterals b0 b1 = some r) : PC Try.prog 86 [eTLiteral b0, eTLiteral b1] (int r) := by
  unfold s_CompareLiterals at h
  refine PC.start Try.func86 Try.ntmps86 rfl ok86 rfl ?_
  refine Run.seq ?_
  refine Run.reg ?_
  refine X.box (by rfl) (by rfl) (by repeat (first | exact trivial | refine ⟨by rfl, ?_⟩ | refine ⟨by simp [setL], ?_⟩)) (by rfl) (by rfl) (by rfl) (by rfl) ?_
  refine X.box (by rfl) (by rfl) (by repeat (first | exact trivial | refine ⟨by rfl, ?_⟩ | refine ⟨by simp [setL], ?_⟩)) (by rfl) (by rfl) (by rfl) (by rfl) ?_
  refine X.assign (by rfl) (by rfl) ?_
  refine X.nil ?_
  refine Run.seq ?_
  refine Run.seq ?_
  refine Run.reg ?_
  refine X.fieldAddr_l fld97_1 (by rfl) (by rfl) ?_
  refine X.load_l shp3 (by rfl) (by rfl) (by rfl) (by rfl) (by rfl) (by rfl) ?_
  refine X.fieldAddr_l fld97_1 (by rfl) (by rfl) ?_
  refine X.load_l shp3 (by rfl) (by rfl) (by rfl) (by rfl) (by rfl) (by rfl) ?_
  refine X.bin (by rfl) (by rfl) (by rfl) (by rfl) (by intro h; cases h) (by rfl) ?_
  refine X.nil ?_
  refine R.cond (by rfl) (fun hc1 => ?_) (fun hc1 => ?_)
  · replace h := condT hc1 h
    refine Run.seq ?_
    refine Run.reg ?_
    refine X.fieldAddr_l fld97_1 (by rfl) (by rfl) ?_
    refine X.load_l shp3 (by rfl) (by rfl) (by rfl) (by rfl) (by rfl) (by rfl) ?_
    refine X.fieldAddr_l fld97_1 (by rfl) (by rfl) ?_
    refine X.load_l shp3 (by rfl) (by rfl) (by rfl) (by rfl) (by rfl) (by rfl) ?_
    obtain ⟨v2, hv2, h⟩ := bindE h
    refine X.callP (s_l11Sign_pc _ _ _ hv2) (by rfl) (by rfl) (by rfl) (by repeat (first | exact trivial | refine ⟨by rfl, ?_⟩ | refine ⟨by simp [setL], ?_⟩)) (by rfl) (by rfl) (by rfl) (by rfl) ?_
    refine X.assign (by rfl) (by rfl) ?_
    refine X.nil ?_
    cases h
    refine R.fin1 Try.results86 (by rfl) (by rfl) ?_
    rfl
  · replace h := condF hc1 h
    refine Run.skip ?_
    refine Run.seq ?_
    refine Run.seq ?_
    refine Run.reg ?_
    refine X.fieldAddr_l fld97_0 (by rfl) (by rfl) ?_
    refine X.load_l shp3 (by rfl) (by rfl) (by rfl) (by rfl) (by rfl) (by rfl) ?_
    refine X.fieldAddr_l fld97_0 (by rfl) (by rfl) ?_
    refine X.load_l shp3 (by rfl) (by rfl) (by rfl) (by rfl) (by rfl) (by rfl) ?_
    refine X.bin (by rfl) (by rfl) (by rfl) (by rfl) (by intro h; cases h) (by rfl) ?_
    refine X.nil ?_
    refine R.cond (by rfl) (fun hc3 => ?_) (fun hc3 => ?_)
    · replace h := condT hc3 h
      refine Run.seq ?_
      refine Run.reg ?_
      refine X.fieldAddr_l fld97_0 (by rfl) (by rfl) ?_
      refine X.load_l shp3 (by rfl) (by rfl) (by rfl) (by rfl) (by rfl) (by rfl) ?_
      refine X.fieldAddr_l fld97_0 (by rfl) (by rfl) ?_
      refine X.load_l shp3 (by rfl) (by rfl) (by rfl) (by rfl) (by rfl) (by rfl) ?_
      obtain ⟨v4, hv4, h⟩ := bindE h
      refine X.callP (s_l11Sign_pc _ _ _ hv4) (by rfl) (by rfl) (by rfl) (by repeat (first | exact trivial | refine ⟨by rfl, ?_⟩ | refine ⟨by simp [setL], ?_⟩)) (by rfl) (by rfl) (by rfl) (by rfl) ?_
      refine X.assign (by rfl) (by rfl) ?_
      refine X.nil ?_
      cases h
      refine R.fin1 Try.results86 (by rfl) (by rfl) ?_
      rfl
    · replace h := condF hc3 h
      refine Run.skip ?_
      refine Run.seq ?_
      refine Run.reg ?_
      refine X.fieldAddr_l fld97_2 (by rfl) (by rfl) ?_
      refine X.load_l shp3 (by rfl) (by rfl) (by rfl) (by rfl) (by rfl) (by rfl) ?_
      refine X.fieldAddr_l fld97_2 (by rfl) (by rfl) ?_
      refine X.load_l shp3 (by rfl) (by rfl) (by rfl) (by rfl) (by rfl) (by rfl) ?_
      obtain ⟨v5, hv5, h⟩ := bindE h
      refine X.callP (s_l11Sign_pc _ _ _ hv5) (by rfl) (by rfl) (by rfl) (by repeat (first | exact trivial | refine ⟨by rfl, ?_⟩ | refine ⟨by simp [setL], ?_⟩)) (by rfl) (by rfl) (by rfl) (by rfl) ?_
      refine X.assign (by rfl) (by rfl) ?_
      refine X.nil ?_
      cases h
      refine R.fin1 Try.results86 (by rfl) (by rfl) ?_
      rfl
theorem s_ClauseOk_pc (b0 : TProject) (b1 : List TLiteral) (r : Bool) (h : s_ClauseOk b0 b1 = some r) : PC Try.prog 24 [eTProject b0, .slice (b1.map eTLiteral)] (bool r) := by
  unfold s_ClauseOk at h
  refine PC.start Try.func24 Try.ntmps24 rfl ok24 rfl ?_
  refine Run.seq ?_
  refine Run.reg ?_
  refine X.box (by rfl) (by rfl) (by repeat (first | exact trivial | refine ⟨by rfl, ?_⟩ | refine ⟨by simp [setL], ?_⟩)) (by rfl) (by rfl) (by rfl) (by rfl) ?_
  refine X.assign (by rfl) (by rfl) ?_
  refine X.nil ?_
  refine Run.seq ?_
  refine Run.seq ?_
  refine Run.reg ?_
  refine X.move (by rfl) (by rfl) ?_
  refine X.len_s elt43 (by rfl) (by exact List.length_map ..) (by rfl) ?_
  refine X.move (by rfl) (by rfl) ?_
  refine X.nil ?_
  obtain ⟨o1, ho1, h⟩ := bindE h
  refine R.join2 (β := Unit) [(1, .slice (b1.map eTLiteral))] [] (fun p19 S => S) (fun p19 M => M) (fun p19 => (Sum.inl p19) = o1) ?_ ?_
  · intro JJ4 hmeet3
    have hup2 := h; clear h; have h := ho1; clear ho1
    refine Run.block ?_
    refine R.bndS (t := 1) (by rfl) (fun hbd7 => ?_)
    replace hbd7 : b1.length ≤ 9223372036854775807 := by first | (rw [List.length_map] at hbd7; exact hbd7) | simp
    refine R.loop2 (β := Int) [(1, .slice (b1.map eTLiteral)), (2, .lptr 128 0), (7, .slice (b1.map eTLiteral)), (8, int (b1.length : Int))] [(128, .blk true [int b0.Deadline, .slice (b0.Activities.map eTActivity), .slice (b0.Links.map eTLink), .slice (b0.Resources.map eTResource), .slice (b0.Stocks.map int)])] (fun bb S => (9, int bb) :: S) (fun bb M => M) (fun n bb => 0 ≤ bb ∧ bb + n = (b1.length : Int) ∧ s_ClauseOk_L1 b0 b1 (b1.drop bb.toNat) bb = some o1) b1.length (0 : Int) (by repeat (first | exact trivial | refine ⟨by rfl, ?_⟩ | refine ⟨by simp [setL], ?_⟩)) (by repeat (first | exact trivial | refine ⟨by rfl, ?_⟩ | refine ⟨by simp [setL], ?_⟩)) (by rfl) (by rfl) ⟨Int.le_refl _, by simp, h⟩ ?_
    clear h
    rintro JJ7 n7 z8 hag7 ⟨hza7, hzb7, h⟩
    refine Run.seq ?_
    refine Run.reg ?_
    refine X.bin (by rfl) (by rfl) (by rfl) (by rfl) (by intro h; cases h) (by rfl) ?_
    refine X.nil ?_
    refine Run.seq ?_
    refine R.cond (by rfl) (fun hc11 => ?_) (fun hc11 => ?_)
    · obtain ⟨x9, xs10, hd7, hx7, hds7, hlt7⟩ := drop_atI hza7 hc11
      rw [hd7] at h
      rw [s_ClauseOk_L1] at h
      refine Run.skip ?_
      refine Run.seq ?_
      refine Run.block ?_
      refine Run.seq ?_
      refine Run.reg ?_
      refine X.move (by rfl) (by rfl) ?_
      refine X.index_s elt43 (by rfl) (by rfl) (idxL_spec hx7).1 (idxL_map eTLiteral hx7) (by rfl) (by rfl) (by rfl) ?_
      refine X.load_c shp97 (by rfl) (by rfl) (by rfl) (by rfl) ?_
      refine X.alloc zer97 (by rfl) (by rfl) (by rfl) ?_
      refine X.assign (by rfl) (by rfl) ?_
      refine X.store_l shp97 (by rfl) (by rfl) (by rfl) (by rfl) (by repeat (first | exact trivial | refine ⟨by rfl, ?_⟩ | refine ⟨by simp [setL], ?_⟩)) (by rfl) (by rfl) (by rfl) ?_
      refine X.nil ?_
      refine Run.seq ?_
      obtain ⟨v12, hv12, h⟩ := bindE h
      obtain ⟨e13, he13, h2⟩ := bindE h
      refine R.drawG [(1, .slice (b1.map eTLiteral)), (2, .lptr 128 0), (7, .slice (b1.map eTLiteral)), (8, int (b1.length : Int)), (9, int z8), (31, bool e13)] [(128, .blk true [int b0.Deadline, .slice (b0.Activities.map eTActivity), .slice (b0.Links.map eTLink), .slice (b0.Resources.map eTResource), .slice (b0.Stocks.map int)])] (footOf [(0, ([128], [])), (1, ([384], [])), (13, ([384], []))]) mixed (by kernel_rfl) (by kernel_rfl) ?_ ?_
      · clear h; have h := he13; clear he13 h2
        refine X.load_l shp34 (by rfl) (by rfl) (by rfl) (by rfl) (by rfl) (by rfl) ?_
        refine X.load_l shp97 (by rfl) (by rfl) (by rfl) (by rfl) (by rfl) (by rfl) ?_
        refine X.callP (s_LiteralOk_pc _ _ _ hv12) (by rfl) (by rfl) (by rfl) (by repeat (first | exact trivial | refine ⟨by rfl, ?_⟩ | refine ⟨by simp [setL], ?_⟩)) (by rfl) (by rfl) (by rfl) (by rfl) ?_
        refine X.un (by rfl) (by rfl) (by rfl) ?_
        refine X.move (by rfl) (by rfl) ?_
        refine X.ifG (by rfl) (by rfl) (by rfl) (fun hb14 => ?_) (fun hb14 => ?_)
        · replace h := condF hb14 h
          refine X.move (by rfl) (by rfl) ?_
          refine X.gyes (by rfl) (by rfl) (by first | rfl | assumption | simp_all) ?_
          refine X.bin (by rfl) (by rfl) (by rfl) (by rfl) (by intro h; cases h) (by rfl) ?_
          refine X.gyes (by rfl) (by rfl) (by first | rfl | assumption | simp_all) ?_
          refine X.move (by rfl) (by rfl) ?_
          refine X.ifG (by rfl) (by rfl) (by rfl) (fun hb15 => ?_) (fun hb15 => ?_)
          · replace h := condT hb15 h
            refine X.move (by rfl) (by rfl) ?_
            refine X.gyes (by rfl) (by rfl) (by first | rfl | assumption | simp_all) ?_
            refine X.move (by rfl) (by rfl) ?_
            refine X.gyes (by rfl) (by rfl) (by first | rfl | assumption | simp_all) ?_
            refine X.sub (by rfl) (by rfl) (by omega) (by rfl) ?_
            refine X.gyes (by rfl) (by rfl) (by first | rfl | assumption | simp_all) ?_
            obtain ⟨v16, hv16, h⟩ := bindE h
            refine X.index_s elt43 (by rfl) (by rfl) (idxL_spec hv16).1 (idxL_map eTLiteral hv16) (by rfl) (by rfl) (by rfl) ?_
            refine X.gyes (by rfl) (by rfl) (by first | rfl | assumption | simp_all) ?_
            refine X.load_c shp97 (by rfl) (by rfl) (by rfl) (by rfl) ?_
            refine X.gyes (by rfl) (by rfl) (by first | rfl | assumption | simp_all) ?_
            refine X.load_l shp97 (by rfl) (by rfl) (by rfl) (by rfl) (by rfl) (by rfl) ?_
            refine X.gyes (by rfl) (by rfl) (by first | rfl | assumption | simp_all) ?_
            obtain ⟨v17, hv17, h⟩ := bindE h
            refine X.callP (s_CompareLiterals_pc _ _ _ hv17) (by rfl) (by rfl) (by rfl) (by repeat (first | exact trivial | refine ⟨by rfl, ?_⟩ | refine ⟨by simp [setL], ?_⟩)) (by rfl) (by rfl) (by rfl) (by rfl) ?_
            refine X.gyes (by rfl) (by rfl) (by first | rfl | assumption | simp_all) ?_
            refine X.bin (by rfl) (by rfl) (by rfl) (by rfl) (by intro h; cases h) (by rfl) ?_
            refine X.gyes (by rfl) (by rfl) (by first | rfl | assumption | simp_all) ?_
            refine X.pickT (by rfl) (by first | rfl | assumption | simp_all) (by rfl) (by rfl) ?_
            refine X.pickF (by rfl) (by first | rfl | assumption | simp_all) (by rfl) (by rfl) ?_
            cases h
            exact X.endG (by repeat (first | exact trivial | refine ⟨by rfl, ?_⟩ | refine ⟨by simp [setL], ?_⟩)) (by repeat (first | exact trivial | refine ⟨by rfl, ?_⟩ | refine ⟨by simp [setL], ?_⟩)) (by rfl) (by rfl)
          · replace h := condF hb15 h
            refine X.gno (by rfl) (by rfl) (by first | rfl | assumption | simp_all) (by rfl) ?_
            refine X.gno (by rfl) (by rfl) (by first | rfl | assumption | simp_all) (by rfl) ?_
            refine X.gno (by rfl) (by rfl) (by first | rfl | assumption | simp_all) (by rfl) ?_
            refine X.gno (by rfl) (by rfl) (by first | rfl | assumption | simp_all) (by rfl) ?_
            refine X.gno (by rfl) (by rfl) (by first | rfl | assumption | simp_all) (by rfl) ?_
            refine X.gno (by rfl) (by rfl) (by first | rfl | assumption | simp_all) (by rfl) ?_
            refine X.gno (by rfl) (by rfl) (by first | rfl | assumption | simp_all) (by rfl) ?_
            refine X.gyes (by rfl) (by rfl) (by first | rfl | assumption | simp_all) ?_
            refine X.pickF (by rfl) (by first | rfl | assumption | simp_all) (by rfl) (by rfl) ?_
            refine X.pickF (by rfl) (by first | rfl | assumption | simp_all) (by rfl) (by rfl) ?_
            cases h
            exact X.endG (by repeat (first | exact trivial | refine ⟨by rfl, ?_⟩ | refine ⟨by simp [setL], ?_⟩)) (by repeat (first | exact trivial | refine ⟨by rfl, ?_⟩ | refine ⟨by simp [setL], ?_⟩)) (by rfl) (by rfl)
        · replace h := condT hb14 h
          refine X.gno (by rfl) (by rfl) (by first | rfl | assumption | simp_all) (by rfl) ?_
          refine X.gno (by rfl) (by rfl) (by first | rfl | assumption | simp_all) (by rfl) ?_
          refine X.gU (by rfl) (by rfl) (by rfl) ?_
          refine X.gU (by rfl) (by rfl) (by rfl) ?_
          refine X.gU (by rfl) (by rfl) (by rfl) ?_
          refine X.gU (by rfl) (by rfl) (by rfl) ?_
          refine X.gU (by rfl) (by rfl) (by rfl) ?_
          refine X.gU (by rfl) (by rfl) (by rfl) ?_
          refine X.gU (by rfl) (by rfl) (by rfl) ?_
          refine X.gU (by rfl) (by rfl) (by rfl) ?_
          refine X.gno (by rfl) (by rfl) (by first | rfl | assumption | simp_all) (by rfl) ?_
          refine X.pickT (by rfl) (by first | rfl | assumption | simp_all) (by rfl) (by rfl) ?_
          cases h
          exact X.endG (by repeat (first | exact trivial | refine ⟨by rfl, ?_⟩ | refine ⟨by simp [setL], ?_⟩)) (by repeat (first | exact trivial | refine ⟨by rfl, ?_⟩ | refine ⟨by simp [setL], ?_⟩)) (by rfl) (by rfl)
      replace h := h2; clear h2
      refine R.cond (by rfl) (fun hc18 => ?_) (fun hc18 => ?_)
      · replace h := condT hc18 h
        refine Run.seq ?_
        refine Run.reg ?_
        refine X.assign (by rfl) (by rfl) ?_
        refine X.nil ?_
        cases h
        have h := hup2
        replace h := elimR h
        cases h
        refine R.fin1 Try.results24 (by rfl) (by rfl) ?_
        rfl
      · replace h := condF hc18 h
        refine Run.skip ?_
        refine Run.blk ?_
        refine Run.reg ?_
        refine X.add (by rfl) (by rfl) (by omega) (by rfl) ?_
        refine X.move (by rfl) (by rfl) ?_
        refine X.nil ?_
        exact hag7 (n7 - 1) (z8 + 1) _ _ (by omega) ⟨by first | omega | (dsimp only; omega), by first | omega | (dsimp only; omega), by first | (rw [hds7]; exact h) | (dsimp only; rw [hds7]; exact h)⟩ (by repeat (first | exact trivial | refine ⟨by rfl, ?_⟩ | refine ⟨by simp [setL], ?_⟩)) (by repeat (first | exact trivial | refine ⟨by rfl, ?_⟩ | refine ⟨by simp [setL], ?_⟩)) (by rfl) (by rfl)
    · rw [drop_endI hza7 hc11] at h
      rw [s_ClauseOk_L1] at h
      refine Run.exit (by rfl) ?_
      exact hmeet3 () _ _ (Option.some.inj h) (by repeat (first | exact trivial | refine ⟨by rfl, ?_⟩ | refine ⟨by simp [setL], ?_⟩)) (by repeat (first | exact trivial | refine ⟨by rfl, ?_⟩ | refine ⟨by simp [setL], ?_⟩)) (by rfl) (by rfl)
  rintro p19 rfl
  replace h := elimL h
  refine Run.seq ?_
  refine Run.reg ?_
  refine X.move (by rfl) (by rfl) ?_
  refine X.len_s elt43 (by rfl) (by exact List.length_map ..) (by rfl) ?_
  refine X.bin (by rfl) (by rfl) (by rfl) (by rfl) (by intro h; cases h) (by rfl) ?_
  refine X.assign (by rfl) (by rfl) ?_
  refine X.nil ?_
  cases h
  refine R.fin1 Try.results24 (by rfl) (by rfl) ?_
  rfl
theorem i_LiteralOk_pc (b0 : TProject) (b1 : TLiteral) (r : Bool) (h : i_LiteralOk b0 b1 = some r) : PC Try.prog 88 [eTProject b0, eTLiteral b1] (bool r) := by
  unfold i_LiteralOk at h
  refine PC.start Try.func88 Try.ntmps88 rfl ok88 rfl ?_
  refine Run.seq ?_
  refine Run.reg ?_
  refine X.box (by rfl) (by rfl) (by repeat (first | exact trivial | refine ⟨by rfl, ?_⟩ | refine ⟨by simp [setL], ?_⟩)) (by rfl) (by rfl) (by rfl) (by rfl) ?_
  refine X.box (by rfl) (by rfl) (by repeat (first | exact trivial | refine ⟨by rfl, ?_⟩ | refine ⟨by simp [setL], ?_⟩)) (by rfl) (by rfl) (by rfl) (by rfl) ?_
  refine X.assign (by rfl) (by rfl) ?_
  refine X.nil ?_
  refine Run.seq ?_
  refine Run.seq ?_
  obtain ⟨v1, hv1, h⟩ := bindE h
  obtain ⟨e2, he2, h2⟩ := bindE h
  refine R.regG [(2, .lptr 128 0), (3, .lptr 192 0), (14, bool e2)] [(128, .blk true [int b0.Deadline, .slice (b0.Activities.map eTActivity), .slice (b0.Links.map eTLink), .slice (b0.Resources.map eTResource), .slice (b0.Stocks.map int)]), (192, .blk true [int b1.Kind, int b1.Activity, int b1.Value])] ?_ ?_
  · clear h; have h := he2; clear he2 h2
    refine X.load_l shp34 (by rfl) (by rfl) (by rfl) (by rfl) (by rfl) (by rfl) ?_
    refine X.callP (i_ProjectOk_pc _ _ hv1) (by rfl) (by rfl) (by rfl) (by repeat (first | exact trivial | refine ⟨by rfl, ?_⟩ | refine ⟨by simp [setL], ?_⟩)) (by rfl) (by rfl) (by rfl) (by rfl) ?_
    refine X.un (by rfl) (by rfl) (by rfl) ?_
    refine X.move (by rfl) (by rfl) ?_
    refine X.ifG (by rfl) (by rfl) (by rfl) (fun hb3 => ?_) (fun hb3 => ?_)
    · replace h := condF hb3 h
      refine X.load_l shp34 (by rfl) (by rfl) (by rfl) (by rfl) (by rfl) (by rfl) ?_
      refine X.gyes (by rfl) (by rfl) (by first | rfl | assumption | simp_all) ?_
      refine X.fieldAddr_l fld97_1 (by rfl) (by rfl) ?_
      refine X.gyes (by rfl) (by rfl) (by first | rfl | assumption | simp_all) ?_
      refine X.load_l shp3 (by rfl) (by rfl) (by rfl) (by rfl) (by rfl) (by rfl) ?_
      refine X.gyes (by rfl) (by rfl) (by first | rfl | assumption | simp_all) ?_
      obtain ⟨v4, hv4, h⟩ := bindE h
      refine X.callP (i_Project_hasActivity_pc _ _ _ hv4) (by rfl) (by rfl) (by rfl) (by repeat (first | exact trivial | refine ⟨by rfl, ?_⟩ | refine ⟨by simp [setL], ?_⟩)) (by rfl) (by rfl) (by rfl) (by rfl) ?_
      refine X.gyes (by rfl) (by rfl) (by first | rfl | assumption | simp_all) ?_
      refine X.un (by rfl) (by rfl) (by rfl) ?_
      refine X.pickF (by rfl) (by first | rfl | assumption | simp_all) (by rfl) (by rfl) ?_
      cases h
      exact X.endG (by repeat (first | exact trivial | refine ⟨by rfl, ?_⟩ | refine ⟨by simp [setL], ?_⟩)) (by repeat (first | exact trivial | refine ⟨by rfl, ?_⟩ | refine ⟨by simp [setL], ?_⟩)) (by rfl) (by rfl)
    · replace h := condT hb3 h
      refine X.gno (by rfl) (by rfl) (by first | rfl | assumption | simp_all) (by rfl) ?_
      refine X.gno (by rfl) (by rfl) (by first | rfl | assumption | simp_all) (by rfl) ?_
      refine X.gno (by rfl) (by rfl) (by first | rfl | assumption | simp_all) (by rfl) ?_
      refine X.gno (by rfl) (by rfl) (by first | rfl | assumption | simp_all) (by rfl) ?_
      refine X.pickT (by rfl) (by first | rfl | assumption | simp_all) (by rfl) (by rfl) ?_
      cases h
      exact X.endG (by repeat (first | exact trivial | refine ⟨by rfl, ?_⟩ | refine ⟨by simp [setL], ?_⟩)) (by repeat (first | exact trivial | refine ⟨by rfl, ?_⟩ | refine ⟨by simp [setL], ?_⟩)) (by rfl) (by rfl)
  replace h := h2; clear h2
  refine R.cond (by rfl) (fun hc5 => ?_) (fun hc5 => ?_)
  · replace h := condT hc5 h
    refine Run.seq ?_
    refine Run.reg ?_
    refine X.assign (by rfl) (by rfl) ?_
    refine X.nil ?_
    cases h
    refine R.fin1 Try.results88 (by rfl) (by rfl) ?_
    rfl
  · replace h := condF hc5 h
    refine Run.skip ?_
    refine Run.seq ?_
    refine Run.seq ?_
    refine Run.reg ?_
    refine X.fieldAddr_l fld97_0 (by rfl) (by rfl) ?_
    refine X.load_l shp3 (by rfl) (by rfl) (by rfl) (by rfl) (by rfl) (by rfl) ?_
    refine X.nil ?_
    refine Run.block ?_
    refine Run.seq ?_
    refine Run.seq ?_
    refine Run.reg ?_
    refine X.bin (by rfl) (by rfl) (by rfl) (by rfl) (by intro h; cases h) (by rfl) ?_
    refine X.assign (by rfl) (by rfl) ?_
    refine X.nil ?_
    obtain ⟨o6, ho6, h⟩ := bindE h
    refine R.join2 (β := Bool) [(2, .lptr 128 0), (3, .lptr 192 0), (16, int b1.Kind)] [(128, .blk true [int b0.Deadline, .slice (b0.Activities.map eTActivity), .slice (b0.Links.map eTLink), .slice (b0.Resources.map eTResource), .slice (b0.Stocks.map int)]), (192, .blk true [int b1.Kind, int b1.Activity, int b1.Value])] (fun p11 S => (17, bool p11) :: S) (fun p11 M => M) (fun p11 => p11 = o6) ?_ ?_
    · intro JJ9 hmeet8
      have hup7 := h; clear h; have h := ho6; clear ho6
      refine R.cond (by rfl) (fun hc10 => ?_) (fun hc10 => ?_)
      · replace h := condT hc10 h
        refine Run.skip ?_
        exact hmeet8 (b1.Kind == 1) _ _ (Option.some.inj h) (by repeat (first | exact trivial | refine ⟨by rfl, ?_⟩ | refine ⟨by simp [setL], ?_⟩)) (by repeat (first | exact trivial | refine ⟨by rfl, ?_⟩ | refine ⟨by simp [setL], ?_⟩)) (by rfl) (by rfl)
      · replace h := condF hc10 h
        refine Run.reg ?_
        refine X.bin (by rfl) (by rfl) (by rfl) (by rfl) (by intro h; cases h) (by rfl) ?_
        refine X.assign (by rfl) (by rfl) ?_
        refine X.nil ?_
        exact hmeet8 (b1.Kind == 2) _ _ (Option.some.inj h) (by repeat (first | exact trivial | refine ⟨by rfl, ?_⟩ | refine ⟨by simp [setL], ?_⟩)) (by repeat (first | exact trivial | refine ⟨by rfl, ?_⟩ | refine ⟨by simp [setL], ?_⟩)) (by rfl) (by rfl)
    rintro p11 rfl
    refine R.cond (by rfl) (fun hc12 => ?_) (fun hc12 => ?_)
    · replace h := condT hc12 h
      refine Run.seq ?_
      refine Run.reg ?_
      refine X.fieldAddr_l fld97_2 (by rfl) (by rfl) ?_
      refine X.load_l shp3 (by rfl) (by rfl) (by rfl) (by rfl) (by rfl) (by rfl) ?_
      obtain ⟨v13, hv13, h⟩ := bindE h
      refine X.callP (i_within_pc _ _ _ _ hv13) (by rfl) (by rfl) (by rfl) (by repeat (first | exact trivial | refine ⟨by rfl, ?_⟩ | refine ⟨by simp [setL], ?_⟩)) (by rfl) (by rfl) (by rfl) (by rfl) ?_
      refine X.assign (by rfl) (by rfl) ?_
      refine X.nil ?_
      cases h
      refine R.fin1 Try.results88 (by rfl) (by rfl) ?_
      rfl
    · replace h := condF hc12 h
      refine Run.seq ?_
      refine Run.seq ?_
      refine Run.reg ?_
      refine X.bin (by rfl) (by rfl) (by rfl) (by rfl) (by intro h; cases h) (by rfl) ?_
      refine X.assign (by rfl) (by rfl) ?_
      refine X.nil ?_
      obtain ⟨o14, ho14, h⟩ := bindE h
      refine R.join2 (β := Bool) [(2, .lptr 128 0), (3, .lptr 192 0)] [(128, .blk true [int b0.Deadline, .slice (b0.Activities.map eTActivity), .slice (b0.Links.map eTLink), .slice (b0.Resources.map eTResource), .slice (b0.Stocks.map int)]), (192, .blk true [int b1.Kind, int b1.Activity, int b1.Value])] (fun p19 S => (23, bool p19) :: S) (fun p19 M => M) (fun p19 => p19 = o14) ?_ ?_
      · intro JJ17 hmeet16
        have hup15 := h; clear h; have h := ho14; clear ho14
        refine R.cond (by rfl) (fun hc18 => ?_) (fun hc18 => ?_)
        · replace h := condT hc18 h
          refine Run.skip ?_
          exact hmeet16 (b1.Kind == 3) _ _ (Option.some.inj h) (by repeat (first | exact trivial | refine ⟨by rfl, ?_⟩ | refine ⟨by simp [setL], ?_⟩)) (by repeat (first | exact trivial | refine ⟨by rfl, ?_⟩ | refine ⟨by simp [setL], ?_⟩)) (by rfl) (by rfl)
        · replace h := condF hc18 h
          refine Run.reg ?_
          refine X.bin (by rfl) (by rfl) (by rfl) (by rfl) (by intro h; cases h) (by rfl) ?_
          refine X.assign (by rfl) (by rfl) ?_
          refine X.nil ?_
          exact hmeet16 (b1.Kind == 4) _ _ (Option.some.inj h) (by repeat (first | exact trivial | refine ⟨by rfl, ?_⟩ | refine ⟨by simp [setL], ?_⟩)) (by repeat (first | exact trivial | refine ⟨by rfl, ?_⟩ | refine ⟨by simp [setL], ?_⟩)) (by rfl) (by rfl)
      rintro p19 rfl
      refine R.cond (by rfl) (fun hc20 => ?_) (fun hc20 => ?_)
      · replace h := condT hc20 h
        refine Run.seq ?_
        refine Run.draw (footOf [(1, ([192], [])), (3, ([128], [])), (5, ([192], []))]) mixed (by kernel_rfl) (by kernel_rfl) ?_
        refine X.fieldAddr_l fld97_2 (by rfl) (by rfl) ?_
        refine X.load_l shp3 (by rfl) (by rfl) (by rfl) (by rfl) (by rfl) (by rfl) ?_
        refine X.fieldAddr_l fld34_1 (by rfl) (by rfl) ?_
        refine X.load_l shp30 (by rfl) (by rfl) (by rfl) (by rfl) (by rfl) (by rfl) ?_
        refine X.fieldAddr_l fld97_1 (by rfl) (by rfl) ?_
        refine X.load_l shp3 (by rfl) (by rfl) (by rfl) (by rfl) (by rfl) (by rfl) ?_
        obtain ⟨v21, hv21, h⟩ := bindE h
        refine X.index_s elt30 (by rfl) (by rfl) (idxL_spec hv21).1 (idxL_map eTActivity hv21) (by rfl) (by rfl) (by rfl) ?_
        refine X.fieldAddr_c fld127_2 (by rfl) (by rfl) ?_
        refine X.load_c shp125 (by rfl) (by rfl) (by rfl) (by rfl) ?_
        refine X.len_s elt125 (by rfl) (by exact List.length_map ..) (by rfl) ?_
        refine X.subW (by rfl) (by rfl) (by rfl) ?_
        obtain ⟨v22, hv22, h⟩ := bindE h
        refine X.callP (i_within_pc _ _ _ _ hv22) (by rfl) (by rfl) (by rfl) (by repeat (first | exact trivial | refine ⟨by rfl, ?_⟩ | refine ⟨by simp [setL], ?_⟩)) (by rfl) (by rfl) (by rfl) (by rfl) ?_
        refine X.assign (by rfl) (by rfl) ?_
        refine X.nil ?_
        cases h
        refine R.fin1 Try.results88 (by rfl) (by rfl) ?_
        rfl
      · replace h := condF hc20 h
        refine Run.skip ?_
        refine Run.blk ?_
        refine Run.seq ?_
        refine Run.reg ?_
        refine X.assign (by rfl) (by rfl) ?_
        refine X.nil ?_
        cases h
        refine R.fin1 Try.results88 (by rfl) (by rfl) ?_
        rfl
theorem cmp_isNaN_int_pc (b0 : Int) (r : Bool) (h : cmp_isNaN_int b0 = some r) : PC Try.prog 211 [int b0] (bool r) := by
  unfold cmp_isNaN_int at h
  refine PC.start Try.func211 Try.ntmps211 rfl ok211 rfl ?_
  refine Run.seq ?_
  refine Run.reg ?_
  refine X.assign (by rfl) (by rfl) ?_
  refine X.nil ?_
  refine Run.seq ?_
  refine Run.reg ?_
  refine X.move (by rfl) (by rfl) ?_
  refine X.move (by rfl) (by rfl) ?_
  refine X.bin (by rfl) (by rfl) (by rfl) (by rfl) (by intro h; cases h) (by rfl) ?_
  refine X.assign (by rfl) (by rfl) ?_
  refine X.nil ?_
  cases h
  refine R.fin1 Try.results211 (by rfl) (by rfl) ?_
  rfl
theorem cmp_Compare_int_pc (b0 : Int) (b1 : Int) (r : Int) (h : cmp_Compare_int b0 b1 = some r) : PC Try.prog 164 [int b0, int b1] (int r) := by
  unfold cmp_Compare_int at h
  refine PC.start Try.func164 Try.ntmps164 rfl ok164 rfl ?_
  refine Run.seq ?_
  refine Run.reg ?_
  refine X.assign (by rfl) (by rfl) ?_
  refine X.nil ?_
  refine Run.seq ?_
  refine Run.reg ?_
  refine X.move (by rfl) (by rfl) ?_
  obtain ⟨v1, hv1, h⟩ := bindE h
  refine X.callP (cmp_isNaN_int_pc _ _ hv1) (by rfl) (by rfl) (by rfl) (by repeat (first | exact trivial | refine ⟨by rfl, ?_⟩ | refine ⟨by simp [setL], ?_⟩)) (by rfl) (by rfl) (by rfl) (by rfl) ?_
  refine X.assign (by rfl) (by rfl) ?_
  refine X.nil ?_
  refine Run.seq ?_
  refine Run.reg ?_
  refine X.move (by rfl) (by rfl) ?_
  obtain ⟨v2, hv2, h⟩ := bindE h
  refine X.callP (cmp_isNaN_int_pc _ _ hv2) (by rfl) (by rfl) (by rfl) (by repeat (first | exact trivial | refine ⟨by rfl, ?_⟩ | refine ⟨by simp [setL], ?_⟩)) (by rfl) (by rfl) (by rfl) (by rfl) ?_
  refine X.assign (by rfl) (by rfl) ?_
  refine X.nil ?_
  refine Run.seq ?_
  refine Run.seq ?_
  refine Run.reg ?_
  refine X.move (by rfl) (by rfl) ?_
  refine X.nil ?_
  refine R.cond (by rfl) (fun hc3 => ?_) (fun hc3 => ?_)
  · replace h := condT hc3 h
    refine Run.seq ?_
    refine Run.seq ?_
    refine Run.reg ?_
    refine X.move (by rfl) (by rfl) ?_
    refine X.nil ?_
    refine R.cond (by rfl) (fun hc4 => ?_) (fun hc4 => ?_)
    · replace h := condT hc4 h
      refine Run.seq ?_
      refine Run.reg ?_
      refine X.assign (by rfl) (by rfl) ?_
      refine X.nil ?_
      cases h
      refine R.fin1 Try.results164 (by rfl) (by rfl) ?_
      rfl
    · replace h := condF hc4 h
      refine Run.skip ?_
      refine Run.seq ?_
      refine Run.reg ?_
      refine X.assign (by rfl) (by rfl) ?_
      refine X.nil ?_
      cases h
      refine R.fin1 Try.results164 (by rfl) (by rfl) ?_
      rfl
  · replace h := condF hc3 h
    refine Run.skip ?_
    refine Run.seq ?_
    refine Run.seq ?_
    refine Run.reg ?_
    refine X.move (by rfl) (by rfl) ?_
    refine X.nil ?_
    refine R.cond (by rfl) (fun hc5 => ?_) (fun hc5 => ?_)
    · replace h := condT hc5 h
      refine Run.seq ?_
      refine Run.reg ?_
      refine X.assign (by rfl) (by rfl) ?_
      refine X.nil ?_
      cases h
      refine R.fin1 Try.results164 (by rfl) (by rfl) ?_
      rfl
    · replace h := condF hc5 h
      refine Run.skip ?_
      refine Run.seq ?_
      refine Run.seq ?_
      refine Run.reg ?_
      refine X.move (by rfl) (by rfl) ?_
      refine X.move (by rfl) (by rfl) ?_
      refine X.bin (by rfl) (by rfl) (by rfl) (by rfl) (by intro h; cases h) (by rfl) ?_
      refine X.nil ?_
      refine R.cond (by rfl) (fun hc6 => ?_) (fun hc6 => ?_)
      · replace h := condT hc6 h
        refine Run.seq ?_
        refine Run.reg ?_
        refine X.assign (by rfl) (by rfl) ?_
        refine X.nil ?_
        cases h
        refine R.fin1 Try.results164 (by rfl) (by rfl) ?_
        rfl
      · replace h := condF hc6 h
        refine Run.skip ?_
        refine Run.seq ?_
        refine Run.seq ?_
        refine Run.reg ?_
        refine X.move (by rfl) (by rfl) ?_
        refine X.move (by rfl) (by rfl) ?_
        refine X.bin (by rfl) (by rfl) (by rfl) (by rfl) (by intro h; cases h) (by rfl) ?_
        refine X.nil ?_
        refine R.cond (by rfl) (fun hc7 => ?_) (fun hc7 => ?_)
        · replace h := condT hc7 h
          refine Run.seq ?_
          refine Run.reg ?_
          refine X.assign (by rfl) (by rfl) ?_
          refine X.nil ?_
          cases h
          refine R.fin1 Try.results164 (by rfl) (by rfl) ?_
          rfl
        · replace h := condF hc7 h
          refine Run.skip ?_
          refine Run.seq ?_
          refine Run.reg ?_
          refine X.assign (by rfl) (by rfl) ?_
          refine X.nil ?_
          cases h
          refine R.fin1 Try.results164 (by rfl) (by rfl) ?_
          rfl
theorem cmp_Or_int_pc (b0 : List Int) (r : Int) (h : cmp_Or_int b0 = some r) : PC Try.prog 163 [.slice (b0.map int)] (int r) := by
  unfold cmp_Or_int at h
  refine PC.start Try.func163 Try.ntmps163 rfl ok163 rfl ?_
  refine Run.seq ?_
  refine Run.reg ?_
  refine X.assign (by rfl) (by rfl) ?_
  refine X.nil ?_
  refine Run.seq ?_
  refine Run.reg ?_
  refine X.assign (by rfl) (by rfl) ?_
  refine X.nil ?_
  refine Run.seq ?_
  refine Run.seq ?_
  refine Run.reg ?_
  refine X.move (by rfl) (by rfl) ?_
  refine X.len_s elt25 (by rfl) (by exact List.length_map ..) (by rfl) ?_
  refine X.move (by rfl) (by rfl) ?_
  refine X.nil ?_
  obtain ⟨o1, ho1, h⟩ := bindE h
  refine R.join2 (β := Unit) [(3, int 0)] [] (fun p13 S => S) (fun p13 M => M) (fun p13 => (Sum.inl p13) = o1) ?_ ?_
  · intro JJ4 hmeet3
    have hup2 := h; clear h; have h := ho1; clear ho1
    refine Run.block ?_
    refine R.bndS (t := 0) (by rfl) (fun hbd7 => ?_)
    replace hbd7 : b0.length ≤ 9223372036854775807 := by first | (rw [List.length_map] at hbd7; exact hbd7) | simp
    refine R.loop2 (β := Int) [(3, int 0), (6, .slice (b0.map int)), (7, int (b0.length : Int))] [] (fun bb S => (8, int bb) :: S) (fun bb M => M) (fun n bb => 0 ≤ bb ∧ bb + n = (b0.length : Int) ∧ cmp_Or_int_L1 (b0.drop bb.toNat) bb = some o1) b0.length (0 : Int) (by repeat (first | exact trivial | refine ⟨by rfl, ?_⟩ | refine ⟨by simp [setL], ?_⟩)) (by repeat (first | exact trivial | refine ⟨by rfl, ?_⟩ | refine ⟨by simp [setL], ?_⟩)) (by rfl) (by rfl) ⟨Int.le_refl _, by simp, h⟩ ?_
    clear h
    rintro JJ7 n7 z8 hag7 ⟨hza7, hzb7, h⟩
    refine Run.seq ?_
    refine Run.reg ?_
    refine X.bin (by rfl) (by rfl) (by rfl) (by rfl) (by intro h; cases h) (by rfl) ?_
    refine X.nil ?_
    refine Run.seq ?_
    refine R.cond (by rfl) (fun hc11 => ?_) (fun hc11 => ?_)
    · obtain ⟨x9, xs10, hd7, hx7, hds7, hlt7⟩ := drop_atI hza7 hc11
      rw [hd7] at h
      rw [cmp_Or_int_L1] at h
      refine Run.skip ?_
      refine Run.seq ?_
      refine Run.block ?_
      refine Run.seq ?_
      refine Run.reg ?_
      refine X.index_s elt25 (by rfl) (by rfl) (idxL_spec hx7).1 (idxL_map int hx7) (by rfl) (by rfl) (by rfl) ?_
      refine X.load_c shp3 (by rfl) (by rfl) (by rfl) (by rfl) ?_
      refine X.assign (by rfl) (by rfl) ?_
      refine X.nil ?_
      refine Run.seq ?_
      refine Run.reg ?_
      refine X.move (by rfl) (by rfl) ?_
      refine X.move (by rfl) (by rfl) ?_
      refine X.bin (by rfl) (by rfl) (by rfl) (by rfl) (by intro h; cases h) (by rfl) ?_
      refine X.nil ?_
      refine R.cond (by rfl) (fun hc12 => ?_) (fun hc12 => ?_)
      · replace h := condT hc12 h
        refine Run.seq ?_
        refine Run.reg ?_
        refine X.move (by rfl) (by rfl) ?_
        refine X.assign (by rfl) (by rfl) ?_
        refine X.nil ?_
        cases h
        have h := hup2
        replace h := elimR h
        cases h
        refine R.fin1 Try.results163 (by rfl) (by rfl) ?_
        rfl
      · replace h := condF hc12 h
        refine Run.skip ?_
        refine Run.blk ?_
        refine Run.reg ?_
        refine X.add (by rfl) (by rfl) (by omega) (by rfl) ?_
        refine X.move (by rfl) (by rfl) ?_
        refine X.nil ?_
        exact hag7 (n7 - 1) (z8 + 1) _ _ (by omega) ⟨by first | omega | (dsimp only; omega), by first | omega | (dsimp only; omega), by first | (rw [hds7]; exact h) | (dsimp only; rw [hds7]; exact h)⟩ (by repeat (first | exact trivial | refine ⟨by rfl, ?_⟩ | refine ⟨by simp [setL], ?_⟩)) (by repeat (first | exact trivial | refine ⟨by rfl, ?_⟩ | refine ⟨by simp [setL], ?_⟩)) (by rfl) (by rfl)
    · rw [drop_endI hza7 hc11] at h
      rw [cmp_Or_int_L1] at h
      refine Run.exit (by rfl) ?_
      exact hmeet3 () _ _ (Option.some.inj h) (by repeat (first | exact trivial | refine ⟨by rfl, ?_⟩ | refine ⟨by simp [setL], ?_⟩)) (by repeat (first | exact trivial | refine ⟨by rfl, ?_⟩ | refine ⟨by simp [setL], ?_⟩)) (by rfl) (by rfl)
  rintro p13 rfl
  replace h := elimL h
  refine Run.seq ?_
  refine Run.reg ?_
  refine X.move (by rfl) (by rfl) ?_
  refine X.assign (by rfl) (by rfl) ?_
  refine X.nil ?_
  cases h
  refine R.fin1 Try.results163 (by rfl) (by rfl) ?_
  rfl
theorem i_CompareLiterals_pc (b0 : TLiteral) (b1 : TLiteral) (r : Int) (h : i_CompareLiterals b0 b1 = some r) : PC Try.prog 89 [eTLiteral b0, eTLiteral b1] (int r) := by
  unfold i_CompareLiterals at h
  refine PC.start Try.func89 Try.ntmps89 rfl ok89 rfl ?_
  refine Run.seq ?_
  refine Run.reg ?_
  refine X.box (by rfl) (by rfl) (by repeat (first | exact trivial | refine ⟨by rfl, ?_⟩ | refine ⟨by simp [setL], ?_⟩)) (by rfl) (by rfl) (by rfl) (by rfl) ?_
  refine X.box (by rfl) (by rfl) (by repeat (first | exact trivial | refine ⟨by rfl, ?_⟩ | refine ⟨by simp [setL], ?_⟩)) (by rfl) (by rfl) (by rfl) (by rfl) ?_
  refine X.assign (by rfl) (by rfl) ?_
  refine X.nil ?_
  refine Run.seq ?_
  refine Run.draw (footOf [(1, ([128], [])), (3, ([192], [])), (6, ([128], [])), (8, ([192], [])), (11, ([128], [])), (13, ([192], [])), (15, ([1280], [1280])), (16, ([1280], []))]) mixed (by kernel_rfl) (by kernel_rfl) ?_
  refine X.fieldAddr_l fld97_1 (by rfl) (by rfl) ?_
  refine X.load_l shp3 (by rfl) (by rfl) (by rfl) (by rfl) (by rfl) (by rfl) ?_
  refine X.fieldAddr_l fld97_1 (by rfl) (by rfl) ?_
  refine X.load_l shp3 (by rfl) (by rfl) (by rfl) (by rfl) (by rfl) (by rfl) ?_
  obtain ⟨v1, hv1, h⟩ := bindE h
  refine X.callP (cmp_Compare_int_pc _ _ _ hv1) (by rfl) (by rfl) (by rfl) (by repeat (first | exact trivial | refine ⟨by rfl, ?_⟩ | refine ⟨by simp [setL], ?_⟩)) (by rfl) (by rfl) (by rfl) (by rfl) ?_
  refine X.fieldAddr_l fld97_0 (by rfl) (by rfl) ?_
  refine X.load_l shp3 (by rfl) (by rfl) (by rfl) (by rfl) (by rfl) (by rfl) ?_
  refine X.fieldAddr_l fld97_0 (by rfl) (by rfl) ?_
  refine X.load_l shp3 (by rfl) (by rfl) (by rfl) (by rfl) (by rfl) (by rfl) ?_
  obtain ⟨v2, hv2, h⟩ := bindE h
  refine X.callP (cmp_Compare_int_pc _ _ _ hv2) (by rfl) (by rfl) (by rfl) (by repeat (first | exact trivial | refine ⟨by rfl, ?_⟩ | refine ⟨by simp [setL], ?_⟩)) (by rfl) (by rfl) (by rfl) (by rfl) ?_
  refine X.fieldAddr_l fld97_2 (by rfl) (by rfl) ?_
  refine X.load_l shp3 (by rfl) (by rfl) (by rfl) (by rfl) (by rfl) (by rfl) ?_
  refine X.fieldAddr_l fld97_2 (by rfl) (by rfl) ?_
  refine X.load_l shp3 (by rfl) (by rfl) (by rfl) (by rfl) (by rfl) (by rfl) ?_
  obtain ⟨v3, hv3, h⟩ := bindE h
  refine X.callP (cmp_Compare_int_pc _ _ _ hv3) (by rfl) (by rfl) (by rfl) (by repeat (first | exact trivial | refine ⟨by rfl, ?_⟩ | refine ⟨by simp [setL], ?_⟩)) (by rfl) (by rfl) (by rfl) (by rfl) ?_
  refine X.buildSlice false elt25 zer3 (by rfl) (by rfl) (by rfl) (by rfl) (by rfl) (by rfl) (by repeat (first | exact trivial | refine ⟨by rfl, ?_⟩ | refine ⟨by simp [setL], ?_⟩)) (allSz_spec (by rfl)) (by rfl) (by rfl) (by rfl) ?_
  obtain ⟨v4, hv4, h⟩ := bindE h
  refine X.callP (cmp_Or_int_pc _ _ hv4) (by rfl) (by rfl) (by rfl) (by repeat (first | exact trivial | refine ⟨by rfl, ?_⟩ | refine ⟨by simp [setL], ?_⟩)) (by rfl) (by rfl) (by rfl) (by rfl) ?_
  refine X.assign (by rfl) (by rfl) ?_
  refine X.nil ?_
  cases h
  refine R.fin1 Try.results89 (by rfl) (by rfl) ?_
  rfl
theorem i_ClauseOk_pc (b0 : TProject) (b1 : List TLiteral) (r : Bool) (h : i_ClauseOk b0 b1 = some r) : PC Try.prog 26 [eTProject b0, .slice (b1.map eTLiteral)] (bool r) := by
  unfold i_ClauseOk at h
  refine PC.start Try.func26 Try.ntmps26 rfl ok26 rfl ?_
  refine Run.seq ?_
  refine Run.reg ?_
  refine X.box (by rfl) (by rfl) (by repeat (first | exact trivial | refine ⟨by rfl, ?_⟩ | refine ⟨by simp [setL], ?_⟩)) (by rfl) (by rfl) (by rfl) (by rfl) ?_
  refine X.assign (by rfl) (by rfl) ?_
  refine X.nil ?_
  refine Run.seq ?_
  refine Run.seq ?_
  refine Run.reg ?_
  refine X.move (by rfl) (by rfl) ?_
  refine X.len_s elt43 (by rfl) (by exact List.length_map ..) (by rfl) ?_
  refine X.move (by rfl) (by rfl) ?_
  refine X.nil ?_
  obtain ⟨o1, ho1, h⟩ := bindE h
  refine R.join2 (β := Unit) [(1, .slice (b1.map eTLiteral))] [] (fun p19 S => S) (fun p19 M => M) (fun p19 => (Sum.inl p19) = o1) ?_ ?_
  · intro JJ4 hmeet3
    have hup2 := h; clear h; have h := ho1; clear ho1
    refine Run.block ?_
    refine R.bndS (t := 1) (by rfl) (fun hbd7 => ?_)
    replace hbd7 : b1.length ≤ 9223372036854775807 := by first | (rw [List.length_map] at hbd7; exact hbd7) | simp
    refine R.loop2 (β := Int) [(1, .slice (b1.map eTLiteral)), (2, .lptr 128 0), (7, .slice (b1.map eTLiteral)), (8, int (b1.length : Int))] [(128, .blk true [int b0.Deadline, .slice (b0.Activities.map eTActivity), .slice (b0.Links.map eTLink), .slice (b0.Resources.map eTResource), .slice (b0.Stocks.map int)])] (fun bb S => (9, int bb) :: S) (fun bb M => M) (fun n bb => 0 ≤ bb ∧ bb + n = (b1.length : Int) ∧ i_ClauseOk_L1 b0 b1 (b1.drop bb.toNat) bb = some o1) b1.length (0 : Int) (by repeat (first | exact trivial | refine ⟨by rfl, ?_⟩ | refine ⟨by simp [setL], ?_⟩)) (by repeat (first | exact trivial | refine ⟨by rfl, ?_⟩ | refine ⟨by simp [setL], ?_⟩)) (by rfl) (by rfl) ⟨Int.le_refl _, by simp, h⟩ ?_
    clear h
    rintro JJ7 n7 z8 hag7 ⟨hza7, hzb7, h⟩
    refine Run.seq ?_
    refine Run.reg ?_
    refine X.bin (by rfl) (by rfl) (by rfl) (by rfl) (by intro h; cases h) (by rfl) ?_
    refine X.nil ?_
    refine Run.seq ?_
    refine R.cond (by rfl) (fun hc11 => ?_) (fun hc11 => ?_)
    · obtain ⟨x9, xs10, hd7, hx7, hds7, hlt7⟩ := drop_atI hza7 hc11
      rw [hd7] at h
      rw [i_ClauseOk_L1] at h
      refine Run.skip ?_
      refine Run.seq ?_
      refine Run.block ?_
      refine Run.seq ?_
      refine Run.reg ?_
      refine X.move (by rfl) (by rfl) ?_
      refine X.index_s elt43 (by rfl) (by rfl) (idxL_spec hx7).1 (idxL_map eTLiteral hx7) (by rfl) (by rfl) (by rfl) ?_
      refine X.load_c shp97 (by rfl) (by rfl) (by rfl) (by rfl) ?_
      refine X.alloc zer97 (by rfl) (by rfl) (by rfl) ?_
      refine X.assign (by rfl) (by rfl) ?_
      refine X.store_l shp97 (by rfl) (by rfl) (by rfl) (by rfl) (by repeat (first | exact trivial | refine ⟨by rfl, ?_⟩ | refine ⟨by simp [setL], ?_⟩)) (by rfl) (by rfl) (by rfl) ?_
      refine X.nil ?_
      refine Run.seq ?_
      obtain ⟨v12, hv12, h⟩ := bindE h
      obtain ⟨e13, he13, h2⟩ := bindE h
      refine R.drawG [(1, .slice (b1.map eTLiteral)), (2, .lptr 128 0), (7, .slice (b1.map eTLiteral)), (8, int (b1.length : Int)), (9, int z8), (31, bool e13)] [(128, .blk true [int b0.Deadline, .slice (b0.Activities.map eTActivity), .slice (b0.Links.map eTLink), .slice (b0.Resources.map eTResource), .slice (b0.Stocks.map int)])] (footOf [(0, ([128], [])), (1, ([384], [])), (13, ([384], []))]) mixed (by kernel_rfl) (by kernel_rfl) ?_ ?_
      · clear h; have h := he13; clear he13 h2
        refine X.load_l shp34 (by rfl) (by rfl) (by rfl) (by rfl) (by rfl) (by rfl) ?_
        refine X.load_l shp97 (by rfl) (by rfl) (by rfl) (by rfl) (by rfl) (by rfl) ?_
        refine X.callP (i_LiteralOk_pc _ _ _ hv12) (by rfl) (by rfl) (by rfl) (by repeat (first | exact trivial | refine ⟨by rfl, ?_⟩ | refine ⟨by simp [setL], ?_⟩)) (by rfl) (by rfl) (by rfl) (by rfl) ?_
        refine X.un (by rfl) (by rfl) (by rfl) ?_
        refine X.move (by rfl) (by rfl) ?_
        refine X.ifG (by rfl) (by rfl) (by rfl) (fun hb14 => ?_) (fun hb14 => ?_)
        · replace h := condF hb14 h
          refine X.move (by rfl) (by rfl) ?_
          refine X.gyes (by rfl) (by rfl) (by first | rfl | assumption | simp_all) ?_
          refine X.bin (by rfl) (by rfl) (by rfl) (by rfl) (by intro h; cases h) (by rfl) ?_
          refine X.gyes (by rfl) (by rfl) (by first | rfl | assumption | simp_all) ?_
          refine X.move (by rfl) (by rfl) ?_
          refine X.ifG (by rfl) (by rfl) (by rfl) (fun hb15 => ?_) (fun hb15 => ?_)
          · replace h := condT hb15 h
            refine X.move (by rfl) (by rfl) ?_
            refine X.gyes (by rfl) (by rfl) (by first | rfl | assumption | simp_all) ?_
            refine X.move (by rfl) (by rfl) ?_
            refine X.gyes (by rfl) (by rfl) (by first | rfl | assumption | simp_all) ?_
            refine X.sub (by rfl) (by rfl) (by omega) (by rfl) ?_
            refine X.gyes (by rfl) (by rfl) (by first | rfl | assumption | simp_all) ?_
            obtain ⟨v16, hv16, h⟩ := bindE h
            refine X.index_s elt43 (by rfl) (by rfl) (idxL_spec hv16).1 (idxL_map eTLiteral hv16) (by rfl) (by rfl) (by rfl) ?_
            refine X.gyes (by rfl) (by rfl) (by first | rfl | assumption | simp_all) ?_
            refine X.load_c shp97 (by rfl) (by rfl) (by rfl) (by rfl) ?_
            refine X.gyes (by rfl) (by rfl) (by first | rfl | assumption | simp_all) ?_
            refine X.load_l shp97 (by rfl) (by rfl) (by rfl) (by rfl) (by rfl) (by rfl) ?_
            refine X.gyes (by rfl) (by rfl) (by first | rfl | assumption | simp_all) ?_
            obtain ⟨v17, hv17, h⟩ := bindE h
            refine X.callP (i_CompareLiterals_pc _ _ _ hv17) (by rfl) (by rfl) (by rfl) (by repeat (first | exact trivial | refine ⟨by rfl, ?_⟩ | refine ⟨by simp [setL], ?_⟩)) (by rfl) (by rfl) (by rfl) (by rfl) ?_
            refine X.gyes (by rfl) (by rfl) (by first | rfl | assumption | simp_all) ?_
            refine X.bin (by rfl) (by rfl) (by rfl) (by rfl) (by intro h; cases h) (by rfl) ?_
            refine X.gyes (by rfl) (by rfl) (by first | rfl | assumption | simp_all) ?_
            refine X.pickT (by rfl) (by first | rfl | assumption | simp_all) (by rfl) (by rfl) ?_
            refine X.pickF (by rfl) (by first | rfl | assumption | simp_all) (by rfl) (by rfl) ?_
            cases h
            exact X.endG (by repeat (first | exact trivial | refine ⟨by rfl, ?_⟩ | refine ⟨by simp [setL], ?_⟩)) (by repeat (first | exact trivial | refine ⟨by rfl, ?_⟩ | refine ⟨by simp [setL], ?_⟩)) (by rfl) (by rfl)
          · replace h := condF hb15 h
            refine X.gno (by rfl) (by rfl) (by first | rfl | assumption | simp_all) (by rfl) ?_
            refine X.gno (by rfl) (by rfl) (by first | rfl | assumption | simp_all) (by rfl) ?_
            refine X.gno (by rfl) (by rfl) (by first | rfl | assumption | simp_all) (by rfl) ?_
            refine X.gno (by rfl) (by rfl) (by first | rfl | assumption | simp_all) (by rfl) ?_
            refine X.gno (by rfl) (by rfl) (by first | rfl | assumption | simp_all) (by rfl) ?_
            refine X.gno (by rfl) (by rfl) (by first | rfl | assumption | simp_all) (by rfl) ?_
            refine X.gno (by rfl) (by rfl) (by first | rfl | assumption | simp_all) (by rfl) ?_
            refine X.gyes (by rfl) (by rfl) (by first | rfl | assumption | simp_all) ?_
            refine X.pickF (by rfl) (by first | rfl | assumption | simp_all) (by rfl) (by rfl) ?_
            refine X.pickF (by rfl) (by first | rfl | assumption | simp_all) (by rfl) (by rfl) ?_
            cases h
            exact X.endG (by repeat (first | exact trivial | refine ⟨by rfl, ?_⟩ | refine ⟨by simp [setL], ?_⟩)) (by repeat (first | exact trivial | refine ⟨by rfl, ?_⟩ | refine ⟨by simp [setL], ?_⟩)) (by rfl) (by rfl)
        · replace h := condT hb14 h
          refine X.gno (by rfl) (by rfl) (by first | rfl | assumption | simp_all) (by rfl) ?_
          refine X.gno (by rfl) (by rfl) (by first | rfl | assumption | simp_all) (by rfl) ?_
          refine X.gU (by rfl) (by rfl) (by rfl) ?_
          refine X.gU (by rfl) (by rfl) (by rfl) ?_
          refine X.gU (by rfl) (by rfl) (by rfl) ?_
          refine X.gU (by rfl) (by rfl) (by rfl) ?_
          refine X.gU (by rfl) (by rfl) (by rfl) ?_
          refine X.gU (by rfl) (by rfl) (by rfl) ?_
          refine X.gU (by rfl) (by rfl) (by rfl) ?_
          refine X.gU (by rfl) (by rfl) (by rfl) ?_
          refine X.gno (by rfl) (by rfl) (by first | rfl | assumption | simp_all) (by rfl) ?_
          refine X.pickT (by rfl) (by first | rfl | assumption | simp_all) (by rfl) (by rfl) ?_
          cases h
          exact X.endG (by repeat (first | exact trivial | refine ⟨by rfl, ?_⟩ | refine ⟨by simp [setL], ?_⟩)) (by repeat (first | exact trivial | refine ⟨by rfl, ?_⟩ | refine ⟨by simp [setL], ?_⟩)) (by rfl) (by rfl)
      replace h := h2; clear h2
      refine R.cond (by rfl) (fun hc18 => ?_) (fun hc18 => ?_)
      · replace h := condT hc18 h
        refine Run.seq ?_
        refine Run.reg ?_
        refine X.assign (by rfl) (by rfl) ?_
        refine X.nil ?_
        cases h
        have h := hup2
        replace h := elimR h
        cases h
        refine R.fin1 Try.results26 (by rfl) (by rfl) ?_
        rfl
      · replace h := condF hc18 h
        refine Run.skip ?_
        refine Run.blk ?_
        refine Run.reg ?_
        refine X.add (by rfl) (by rfl) (by omega) (by rfl) ?_
        refine X.move (by rfl) (by rfl) ?_
        refine X.nil ?_
        exact hag7 (n7 - 1) (z8 + 1) _ _ (by omega) ⟨by first | omega | (dsimp only; omega), by first | omega | (dsimp only; omega), by first | (rw [hds7]; exact h) | (dsimp only; rw [hds7]; exact h)⟩ (by repeat (first | exact trivial | refine ⟨by rfl, ?_⟩ | refine ⟨by simp [setL], ?_⟩)) (by repeat (first | exact trivial | refine ⟨by rfl, ?_⟩ | refine ⟨by simp [setL], ?_⟩)) (by rfl) (by rfl)
    · rw [drop_endI hza7 hc11] at h
      rw [i_ClauseOk_L1] at h
      refine Run.exit (by rfl) ?_
      exact hmeet3 () _ _ (Option.some.inj h) (by repeat (first | exact trivial | refine ⟨by rfl, ?_⟩ | refine ⟨by simp [setL], ?_⟩)) (by repeat (first | exact trivial | refine ⟨by rfl, ?_⟩ | refine ⟨by simp [setL], ?_⟩)) (by rfl) (by rfl)
  rintro p19 rfl
  replace h := elimL h
  refine Run.seq ?_
  refine Run.reg ?_
  refine X.move (by rfl) (by rfl) ?_
  refine X.len_s elt43 (by rfl) (by exact List.length_map ..) (by rfl) ?_
  refine X.bin (by rfl) (by rfl) (by rfl) (by rfl) (by intro h; cases h) (by rfl) ?_
  refine X.assign (by rfl) (by rfl) ?_
  refine X.nil ?_
  cases h
  refine R.fin1 Try.results26 (by rfl) (by rfl) ?_
  rfl
end Go.Px.Ytjncefleglnnjaa
