/-
  PROVED: contracts of functions of the program over pure values. No condition beyond those that each theorem names.
-/
import Derived.Test.YtjncefleglnnjaaGreatProg
import Derived.Test.YtjncefleglnnjaaGreatD1
import Derived.Test.YtjncefleglnnjaaGreatC2
namespace Go.Px.YtjncefleglnnjaaGreat
set_option linter.unusedSimpArgs false
set_option linter.unusedVariables false
open Go.Px Go.Proofs
theorem shp70 : shp Tryz.prog 70 = some (true, 3) := by kernel_rfl
theorem fld70_0 : fldOff Tryz.prog 70 0 = some 0 := by kernel_rfl
theorem fld70_1 : fldOff Tryz.prog 70 1 = some 1 := by kernel_rfl
theorem fld70_2 : fldOff Tryz.prog 70 2 = some 2 := by kernel_rfl
theorem ok49 : okFn Tryz.prog 49 = true := by kernel_rfl
theorem ok52 : okFn Tryz.prog 52 = true := by kernel_rfl
theorem ok55 : okFn Tryz.prog 55 = true := by kernel_rfl
theorem w_szDomain_pc (b0 : TDomain) (b1 : Int) (r : Int) (h : w_szDomain b0 b1 = some r) : PC Tryz.prog 49 [eTDomain b0, int b1] (int r) := by
  unfold w_szDomain at h
  refine PC.start Tryz.func49 Tryz.ntmps49 rfl ok49 rfl ?_
  refine Run.sr ?_
  refine X.box (by rfl) (by rfl) (by repeat (first | trivial | refine ⟨by first | rfl | simp [setL], ?_⟩)) (by rfl) (by rfl) (by rfl) (by rfl) ?_
  refine X.an ?_
  refine Run.sr ?_
  refine X.fieldAddr_l fld70_0 (by rfl) (by rfl) ?_
  refine X.ld shp26 ?_
  refine X.mv ?_
  obtain ⟨v1, hv1, h⟩ := bindE h
  refine X.callP (w_szIntS_pc _ _ _ hv1) (by rfl) (by rfl) (by rfl) (by trivial) (by rfl) (by rfl) (by rfl) (by rfl) ?_
  refine X.an ?_
  refine Run.seq ?_
  refine Run.sr ?_
  refine X.mv ?_
  refine X.bi ?_
  refine X.nil ?_
  refine R.cond (by rfl) (fun hc2 => ?_) (fun hc2 => ?_)
  · replace h := condT hc2 h
    refine Run.sr ?_
    refine X.an ?_
    cases h
    refine R.fin1 Tryz.results49 (by rfl) (by rfl) ?_
    rfl
  · replace h := condF hc2 h
    refine Run.skip ?_
    refine Run.sr ?_
    refine X.fieldAddr_l fld70_1 (by rfl) (by rfl) ?_
    refine X.ld shp26 ?_
    refine X.mv ?_
    obtain ⟨v3, hv3, h⟩ := bindE h
    refine X.callP (w_szIntS_pc _ _ _ hv3) (by rfl) (by rfl) (by rfl) (by trivial) (by rfl) (by rfl) (by rfl) (by rfl) ?_
    refine X.an ?_
    refine Run.seq ?_
    refine Run.sr ?_
    refine X.mv ?_
    refine X.bi ?_
    refine X.nil ?_
    refine R.cond (by rfl) (fun hc4 => ?_) (fun hc4 => ?_)
    · replace h := condT hc4 h
      refine Run.sr ?_
      refine X.an ?_
      cases h
      refine R.fin1 Tryz.results49 (by rfl) (by rfl) ?_
      rfl
    · replace h := condF hc4 h
      refine Run.skip ?_
      refine Run.sr ?_
      refine X.fieldAddr_l fld70_2 (by rfl) (by rfl) ?_
      refine X.ld shp30 ?_
      refine X.mv ?_
      obtain ⟨v5, hv5, h⟩ := bindE h
      refine X.callP (w_szIntSS_pc _ _ _ hv5) (by rfl) (by rfl) (by rfl) (by trivial) (by rfl) (by rfl) (by rfl) (by rfl) ?_
      refine X.an ?_
      refine Run.seq ?_
      refine Run.sr ?_
      refine X.mv ?_
      refine X.bi ?_
      refine X.nil ?_
      refine R.cond (by rfl) (fun hc6 => ?_) (fun hc6 => ?_)
      · replace h := condT hc6 h
        refine Run.sr ?_
        refine X.an ?_
        cases h
        refine R.fin1 Tryz.results49 (by rfl) (by rfl) ?_
        rfl
      · replace h := condF hc6 h
        refine Run.skip ?_
        refine Run.sr ?_
        refine X.mv ?_
        refine X.an ?_
        cases h
        refine R.fin1 Tryz.results49 (by rfl) (by rfl) ?_
        rfl
theorem w_toDomain_pc (b0 : TDomain) (r : TDomain) (h : w_toDomain b0 = some r) : PCM Tryz.prog 52 [.agg [.yng 63 (.slice (b0.MinStart.map int)), .yng 63 (.slice (b0.MaxStart.map int)), .yng 63 (.slice (b0.Modes.map l_int))]] [(63, .yreg false false)] (.agg [.fresh false 3 1 (r.MinStart.map int), .fresh false 3 1 (r.MaxStart.map int), .fresh false 26 1 (r.Modes.map l_int)]) [(63, .yreg false false)] := by
  unfold w_toDomain at h
  refine PCM.start Tryz.func52 Tryz.ntmps52 rfl ok52 rfl (by rfl) (by rfl) (by rfl) (by rfl) (by rfl) ?_
  refine Run.sr ?_
  refine X.box (by rfl) (by rfl) (by repeat (first | trivial | refine ⟨by first | rfl | simp [setL], ?_⟩)) (by rfl) (by rfl) (by rfl) (by rfl) ?_
  refine X.alloc zer32 (by rfl) (by rfl) (by rfl) ?_
  refine X.nil ?_
  refine Run.sr ?_
  refine X.alloc zer32 (by rfl) (by rfl) (by rfl) ?_
  refine X.nil ?_
  refine Run.sr ?_
  refine X.fieldAddr_l fld70_0 (by rfl) (by rfl) ?_
  refine X.ld shp26 ?_
  obtain ⟨v1, hv1, h⟩ := bindE h
  refine X.callM [(63, 63)] (w_toIntS_pc _ _ hv1) (by rfl) (by rfl) (.yngB 63 (by rfl) (by rfl) .nil) (by rfl) ⟨rfl, rfl, ⟨_, by rfl, by constructor⟩, by constructor, trivial⟩ (by rfl) (by rfl) (by rfl) (by rfl) (by rfl) (by rfl) (by rfl) (by rfl) (by rfl) ?_
  refine X.fieldAddr_l fld32_0 (by rfl) (by rfl) ?_
  refine X.store_l shp26 (by rfl) (by rfl) (by rfl) (by rfl) (by repeat (first | trivial | refine ⟨by first | rfl | simp [setL], ?_⟩)) (by rfl) (by rfl) (by rfl) ?_
  refine X.nil ?_
  refine Run.sr ?_
  refine X.fieldAddr_l fld70_1 (by rfl) (by rfl) ?_
  refine X.ld shp26 ?_
  obtain ⟨v2, hv2, h⟩ := bindE h
  refine X.callM [(63, 63)] (w_toIntS_pc _ _ hv2) (by rfl) (by rfl) (.yngB 63 (by rfl) (by rfl) .nil) (by rfl) ⟨rfl, rfl, ⟨_, by rfl, by constructor⟩, by constructor, trivial⟩ (by rfl) (by rfl) (by rfl) (by rfl) (by rfl) (by rfl) (by rfl) (by rfl) (by rfl) ?_
  refine X.fieldAddr_l fld32_1 (by rfl) (by rfl) ?_
  refine X.store_l shp26 (by rfl) (by rfl) (by rfl) (by rfl) (by repeat (first | trivial | refine ⟨by first | rfl | simp [setL], ?_⟩)) (by rfl) (by rfl) (by rfl) ?_
  refine X.nil ?_
  refine Run.sr ?_
  refine X.fieldAddr_l fld70_2 (by rfl) (by rfl) ?_
  refine X.ld shp30 ?_
  obtain ⟨v3, hv3, h⟩ := bindE h
  refine X.callM [(63, 63)] (w_toIntSS_pc _ _ hv3) (by rfl) (by rfl) (.yngB 63 (by rfl) (by rfl) .nil) (by rfl) ⟨rfl, rfl, ⟨_, by rfl, by constructor⟩, by constructor, trivial⟩ (by rfl) (by rfl) (by rfl) (by rfl) (by rfl) (by rfl) (by rfl) (by rfl) (by rfl) ?_
  refine X.fieldAddr_l fld32_2 (by rfl) (by rfl) ?_
  refine X.store_l shp30 (by rfl) (by rfl) (by rfl) (by rfl) (by repeat (first | trivial | refine ⟨by first | rfl | simp [setL], ?_⟩)) (by rfl) (by rfl) (by rfl) ?_
  refine X.nil ?_
  refine Run.sr ?_
  refine X.ld shp32 ?_
  refine X.store_l shp32 (by rfl) (by rfl) (by rfl) (by rfl) (by repeat (first | trivial | refine ⟨by first | rfl | simp [setL], ?_⟩)) (by rfl) (by rfl) (by rfl) ?_
  refine X.nil ?_
  cases h
  exact R.finMC Tryz.results52 shp32 (by rfl) (by rfl) (by rfl) (by rfl) (by repeat (first | trivial | refine ⟨by first | rfl | simp [setL], ?_⟩)) (by rfl) (by repeat (first | exact trivial | refine ⟨by rfl, ?_⟩)) rfl
theorem w_eqDomain_pc (b0 : TDomain) (b1 : TDomain) (r : Bool) (h : w_eqDomain b0 b1 = some r) : PC Tryz.prog 55 [eTDomain b0, eTDomain b1] (bool r) := by
  unfold w_eqDomain at h
  refine PC.start Tryz.func55 Tryz.ntmps55 rfl ok55 rfl ?_
  refine Run.sr ?_
  refine X.box (by rfl) (by rfl) (by repeat (first | trivial | refine ⟨by first | rfl | simp [setL], ?_⟩)) (by rfl) (by rfl) (by rfl) (by rfl) ?_
  refine X.box (by rfl) (by rfl) (by repeat (first | trivial | refine ⟨by first | rfl | simp [setL], ?_⟩)) (by rfl) (by rfl) (by rfl) (by rfl) ?_
  refine X.an ?_
  refine Run.seq ?_
  refine Run.sr ?_
  refine X.fieldAddr_l fld32_0 (by rfl) (by rfl) ?_
  refine X.ld shp26 ?_
  refine X.fieldAddr_l fld32_0 (by rfl) (by rfl) ?_
  refine X.ld shp26 ?_
  obtain ⟨v1, hv1, h⟩ := bindE h
  refine X.callP (w_eqIntS_pc _ _ _ hv1) (by rfl) (by rfl) (by rfl) (by trivial) (by rfl) (by rfl) (by rfl) (by rfl) ?_
  refine X.un (by rfl) (by rfl) (by rfl) ?_
  refine X.nil ?_
  refine R.cond (by rfl) (fun hc2 => ?_) (fun hc2 => ?_)
  · replace h := condT hc2 h
    refine Run.sr ?_
    refine X.an ?_
    cases h
    refine R.fin1 Tryz.results55 (by rfl) (by rfl) ?_
    rfl
  · replace h := condF hc2 h
    refine Run.skip ?_
    refine Run.seq ?_
    refine Run.sr ?_
    refine X.fieldAddr_l fld32_1 (by rfl) (by rfl) ?_
    refine X.ld shp26 ?_
    refine X.fieldAddr_l fld32_1 (by rfl) (by rfl) ?_
    refine X.ld shp26 ?_
    obtain ⟨v3, hv3, h⟩ := bindE h
    refine X.callP (w_eqIntS_pc _ _ _ hv3) (by rfl) (by rfl) (by rfl) (by trivial) (by rfl) (by rfl) (by rfl) (by rfl) ?_
    refine X.un (by rfl) (by rfl) (by rfl) ?_
    refine X.nil ?_
    refine R.cond (by rfl) (fun hc4 => ?_) (fun hc4 => ?_)
    · replace h := condT hc4 h
      refine Run.sr ?_
      refine X.an ?_
      cases h
      refine R.fin1 Tryz.results55 (by rfl) (by rfl) ?_
      rfl
    · replace h := condF hc4 h
      refine Run.skip ?_
      refine Run.seq ?_
      refine Run.sr ?_
      refine X.fieldAddr_l fld32_2 (by rfl) (by rfl) ?_
      refine X.ld shp30 ?_
      refine X.fieldAddr_l fld32_2 (by rfl) (by rfl) ?_
      refine X.ld shp30 ?_
      obtain ⟨v5, hv5, h⟩ := bindE h
      refine X.callP (w_eqIntSS_pc _ _ _ hv5) (by rfl) (by rfl) (by rfl) (by trivial) (by rfl) (by rfl) (by rfl) (by rfl) ?_
      refine X.un (by rfl) (by rfl) (by rfl) ?_
      refine X.nil ?_
      refine R.cond (by rfl) (fun hc6 => ?_) (fun hc6 => ?_)
      · replace h := condT hc6 h
        refine Run.sr ?_
        refine X.an ?_
        cases h
        refine R.fin1 Tryz.results55 (by rfl) (by rfl) ?_
        rfl
      · replace h := condF hc6 h
        refine Run.skip ?_
        refine Run.sr ?_
        refine X.an ?_
        cases h
        refine R.fin1 Tryz.results55 (by rfl) (by rfl) ?_
        rfl
end Go.Px.YtjncefleglnnjaaGreat
