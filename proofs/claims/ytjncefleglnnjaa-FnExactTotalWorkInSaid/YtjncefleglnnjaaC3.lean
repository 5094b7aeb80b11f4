/-
  PROVED: contracts of functions of the program over pure values. No condition beyond those that each theorem names.
-/
import Derived.Test.YtjncefleglnnjaaProg
import Derived.Test.YtjncefleglnnjaaD1
import Derived.Test.YtjncefleglnnjaaC1
namespace Go.Px.Ytjncefleglnnjaa
set_option linter.unusedSimpArgs false
set_option linter.unusedVariables false
open Go.Px Go.Proofs
theorem shp65 : shp Try.prog 65 = some (true, 3) := by kernel_rfl
theorem fld65_0 : fldOff Try.prog 65 0 = some 0 := by kernel_rfl
theorem fld65_1 : fldOff Try.prog 65 1 = some 1 := by kernel_rfl
theorem fld65_2 : fldOff Try.prog 65 2 = some 2 := by kernel_rfl
theorem ok48 : okFn Try.prog 48 = true := by kernel_rfl
theorem zer71 : zeroPV Try.prog 71 = some [.nils, .nils, .nils] := by kernel_rfl
theorem fld71_0 : fldOff Try.prog 71 0 = some 0 := by kernel_rfl
theorem fld71_1 : fldOff Try.prog 71 1 = some 1 := by kernel_rfl
theorem fld71_2 : fldOff Try.prog 71 2 = some 2 := by kernel_rfl
theorem shp71 : shp Try.prog 71 = some (true, 3) := by kernel_rfl
theorem ok50 : okFn Try.prog 50 = true := by kernel_rfl
theorem ok52 : okFn Try.prog 52 = true := by kernel_rfl
theorem w_szDomain_pc (b0 : TDomain) (b1 : Int) (r : Int) (h : w_szDomain b0 b1 = some r) : PC Try.prog 48 [eTDomain b0, int b1] (int r) := by
  unfold w_szDomain at h
  refine PC.start Try.func48 Try.ntmps48 rfl ok48 rfl ?_
  refine Run.seq ?_
  refine Run.reg ?_
  refine X.box (by rfl) (by rfl) (by repeat (first | exact trivial | refine ⟨by rfl, ?_⟩ | refine ⟨by simp [setL], ?_⟩)) (by rfl) (by rfl) (by rfl) (by rfl) ?_
  refine X.assign (by rfl) (by rfl) ?_
  refine X.nil ?_
  refine Run.seq ?_
  refine Run.reg ?_
  refine X.fieldAddr_l fld65_0 (by rfl) (by rfl) ?_
  refine X.load_l shp25 (by rfl) (by rfl) (by rfl) (by rfl) (by rfl) (by rfl) ?_
  refine X.move (by rfl) (by rfl) ?_
  obtain ⟨v1, hv1, h⟩ := bindE h
  refine X.callP (w_szIntS_pc _ _ _ hv1) (by rfl) (by rfl) (by rfl) (by repeat (first | exact trivial | refine ⟨by rfl, ?_⟩ | refine ⟨by simp [setL], ?_⟩)) (by rfl) (by rfl) (by rfl) (by rfl) ?_
  refine X.assign (by rfl) (by rfl) ?_
  refine X.nil ?_
  refine Run.seq ?_
  refine Run.seq ?_
  refine Run.reg ?_
  refine X.move (by rfl) (by rfl) ?_
  refine X.bin (by rfl) (by rfl) (by rfl) (by rfl) (by intro h; cases h) (by rfl) ?_
  refine X.nil ?_
  refine R.cond (by rfl) (fun hc2 => ?_) (fun hc2 => ?_)
  · replace h := condT hc2 h
    refine Run.seq ?_
    refine Run.reg ?_
    refine X.assign (by rfl) (by rfl) ?_
    refine X.nil ?_
    cases h
    refine R.fin1 Try.results48 (by rfl) (by rfl) ?_
    rfl
  · replace h := condF hc2 h
    refine Run.skip ?_
    refine Run.seq ?_
    refine Run.reg ?_
    refine X.fieldAddr_l fld65_1 (by rfl) (by rfl) ?_
    refine X.load_l shp25 (by rfl) (by rfl) (by rfl) (by rfl) (by rfl) (by rfl) ?_
    refine X.move (by rfl) (by rfl) ?_
    obtain ⟨v3, hv3, h⟩ := bindE h
    refine X.callP (w_szIntS_pc _ _ _ hv3) (by rfl) (by rfl) (by rfl) (by repeat (first | exact trivial | refine ⟨by rfl, ?_⟩ | refine ⟨by simp [setL], ?_⟩)) (by rfl) (by rfl) (by rfl) (by rfl) ?_
    refine X.assign (by rfl) (by rfl) ?_
    refine X.nil ?_
    refine Run.seq ?_
    refine Run.seq ?_
    refine Run.reg ?_
    refine X.move (by rfl) (by rfl) ?_
    refine X.bin (by rfl) (by rfl) (by rfl) (by rfl) (by intro h; cases h) (by rfl) ?_
    refine X.nil ?_
    refine R.cond (by rfl) (fun hc4 => ?_) (fun hc4 => ?_)
    · replace h := condT hc4 h
      refine Run.seq ?_
      refine Run.reg ?_
      refine X.assign (by rfl) (by rfl) ?_
      refine X.nil ?_
      cases h
      refine R.fin1 Try.results48 (by rfl) (by rfl) ?_
      rfl
    · replace h := condF hc4 h
      refine Run.skip ?_
      refine Run.seq ?_
      refine Run.reg ?_
      refine X.fieldAddr_l fld65_2 (by rfl) (by rfl) ?_
      refine X.load_l shp63 (by rfl) (by rfl) (by rfl) (by rfl) (by rfl) (by rfl) ?_
      refine X.move (by rfl) (by rfl) ?_
      obtain ⟨v5, hv5, h⟩ := bindE h
      refine X.callP (w_szIntSS_pc _ _ _ hv5) (by rfl) (by rfl) (by rfl) (by repeat (first | exact trivial | refine ⟨by rfl, ?_⟩ | refine ⟨by simp [setL], ?_⟩)) (by rfl) (by rfl) (by rfl) (by rfl) ?_
      refine X.assign (by rfl) (by rfl) ?_
      refine X.nil ?_
      refine Run.seq ?_
      refine Run.seq ?_
      refine Run.reg ?_
      refine X.move (by rfl) (by rfl) ?_
      refine X.bin (by rfl) (by rfl) (by rfl) (by rfl) (by intro h; cases h) (by rfl) ?_
      refine X.nil ?_
      refine R.cond (by rfl) (fun hc6 => ?_) (fun hc6 => ?_)
      · replace h := condT hc6 h
        refine Run.seq ?_
        refine Run.reg ?_
        refine X.assign (by rfl) (by rfl) ?_
        refine X.nil ?_
        cases h
        refine R.fin1 Try.results48 (by rfl) (by rfl) ?_
        rfl
      · replace h := condF hc6 h
        refine Run.skip ?_
        refine Run.seq ?_
        refine Run.reg ?_
        refine X.move (by rfl) (by rfl) ?_
        refine X.assign (by rfl) (by rfl) ?_
        refine X.nil ?_
        cases h
        refine R.fin1 Try.results48 (by rfl) (by rfl) ?_
        rfl
theorem w_toDomain_pc (b0 : TDomain) (r : TDomain) (h : w_toDomain b0 = some r) : PC Try.prog 50 [eTDomain b0] (.agg [.fresh false 3 1 (r.MinStart.map int), .fresh false 3 1 (r.MaxStart.map int), .fresh false 25 1 (r.Modes.map l_int)]) := by
  unfold w_toDomain at h
  refine PC.start Try.func50 Try.ntmps50 rfl ok50 rfl ?_
  refine Run.seq ?_
  refine Run.reg ?_
  refine X.box (by rfl) (by rfl) (by repeat (first | exact trivial | refine ⟨by rfl, ?_⟩ | refine ⟨by simp [setL], ?_⟩)) (by rfl) (by rfl) (by rfl) (by rfl) ?_
  refine X.alloc zer71 (by rfl) (by rfl) (by rfl) ?_
  refine X.nil ?_
  refine Run.seq ?_
  refine Run.reg ?_
  refine X.alloc zer71 (by rfl) (by rfl) (by rfl) ?_
  refine X.nil ?_
  refine Run.seq ?_
  refine Run.reg ?_
  refine X.fieldAddr_l fld65_0 (by rfl) (by rfl) ?_
  refine X.load_l shp25 (by rfl) (by rfl) (by rfl) (by rfl) (by rfl) (by rfl) ?_
  obtain ⟨v1, hv1, h⟩ := bindE h
  refine X.callF (w_toIntS_pc _ _ hv1) (by rfl) (by rfl) (by rfl) (by repeat (first | exact trivial | refine ⟨by rfl, ?_⟩ | refine ⟨by simp [setL], ?_⟩)) (by rfl) (by rfl) (by rfl) (by rfl) ?_
  refine X.fieldAddr_l fld71_0 (by rfl) (by rfl) ?_
  refine X.store_l shp25 (by rfl) (by rfl) (by rfl) (by rfl) (by repeat (first | exact trivial | refine ⟨by rfl, ?_⟩ | refine ⟨by simp [setL], ?_⟩)) (by rfl) (by rfl) (by rfl) ?_
  refine X.nil ?_
  refine Run.seq ?_
  refine Run.reg ?_
  refine X.fieldAddr_l fld65_1 (by rfl) (by rfl) ?_
  refine X.load_l shp25 (by rfl) (by rfl) (by rfl) (by rfl) (by rfl) (by rfl) ?_
  obtain ⟨v2, hv2, h⟩ := bindE h
  refine X.callF (w_toIntS_pc _ _ hv2) (by rfl) (by rfl) (by rfl) (by repeat (first | exact trivial | refine ⟨by rfl, ?_⟩ | refine ⟨by simp [setL], ?_⟩)) (by rfl) (by rfl) (by rfl) (by rfl) ?_
  refine X.fieldAddr_l fld71_1 (by rfl) (by rfl) ?_
  refine X.store_l shp25 (by rfl) (by rfl) (by rfl) (by rfl) (by repeat (first | exact trivial | refine ⟨by rfl, ?_⟩ | refine ⟨by simp [setL], ?_⟩)) (by rfl) (by rfl) (by rfl) ?_
  refine X.nil ?_
  refine Run.seq ?_
  refine Run.reg ?_
  refine X.fieldAddr_l fld65_2 (by rfl) (by rfl) ?_
  refine X.load_l shp63 (by rfl) (by rfl) (by rfl) (by rfl) (by rfl) (by rfl) ?_
  obtain ⟨v3, hv3, h⟩ := bindE h
  refine X.callF (w_toIntSS_pc _ _ hv3) (by rfl) (by rfl) (by rfl) (by repeat (first | exact trivial | refine ⟨by rfl, ?_⟩ | refine ⟨by simp [setL], ?_⟩)) (by rfl) (by rfl) (by rfl) (by rfl) ?_
  refine X.fieldAddr_l fld71_2 (by rfl) (by rfl) ?_
  refine X.store_l shp63 (by rfl) (by rfl) (by rfl) (by rfl) (by repeat (first | exact trivial | refine ⟨by rfl, ?_⟩ | refine ⟨by simp [setL], ?_⟩)) (by rfl) (by rfl) (by rfl) ?_
  refine X.nil ?_
  refine Run.seq ?_
  refine Run.reg ?_
  refine X.load_l shp71 (by rfl) (by rfl) (by rfl) (by rfl) (by rfl) (by rfl) ?_
  refine X.store_l shp71 (by rfl) (by rfl) (by rfl) (by rfl) (by repeat (first | exact trivial | refine ⟨by rfl, ?_⟩ | refine ⟨by simp [setL], ?_⟩)) (by rfl) (by rfl) (by rfl) ?_
  refine X.nil ?_
  cases h
  refine R.finC Try.results50 shp71 (by rfl) (by rfl) (by rfl) (by rfl) (by repeat (first | exact trivial | refine ⟨by rfl, ?_⟩ | refine ⟨by simp [setL], ?_⟩)) ?_
  rfl
theorem w_eqDomain_pc (b0 : TDomain) (b1 : TDomain) (r : Bool) (h : w_eqDomain b0 b1 = some r) : PC Try.prog 52 [eTDomain b0, eTDomain b1] (bool r) := by
  unfold w_eqDomain at h
  refine PC.start Try.func52 Try.ntmps52 rfl ok52 rfl ?_
  refine Run.seq ?_
  refine Run.reg ?_
  refine X.box (by rfl) (by rfl) (by repeat (first | exact trivial | refine ⟨by rfl, ?_⟩ | refine ⟨by simp [setL], ?_⟩)) (by rfl) (by rfl) (by rfl) (by rfl) ?_
  refine X.box (by rfl) (by rfl) (by repeat (first | exact trivial | refine ⟨by rfl, ?_⟩ | refine ⟨by simp [setL], ?_⟩)) (by rfl) (by rfl) (by rfl) (by rfl) ?_
  refine X.assign (by rfl) (by rfl) ?_
  refine X.nil ?_
  refine Run.seq ?_
  refine Run.seq ?_
  refine Run.reg ?_
  refine X.fieldAddr_l fld71_0 (by rfl) (by rfl) ?_
  refine X.load_l shp25 (by rfl) (by rfl) (by rfl) (by rfl) (by rfl) (by rfl) ?_
  refine X.fieldAddr_l fld71_0 (by rfl) (by rfl) ?_
  refine X.load_l shp25 (by rfl) (by rfl) (by rfl) (by rfl) (by rfl) (by rfl) ?_
  obtain ⟨v1, hv1, h⟩ := bindE h
  refine X.callP (w_eqIntS_pc _ _ _ hv1) (by rfl) (by rfl) (by rfl) (by repeat (first | exact trivial | refine ⟨by rfl, ?_⟩ | refine ⟨by simp [setL], ?_⟩)) (by rfl) (by rfl) (by rfl) (by rfl) ?_
  refine X.un (by rfl) (by rfl) (by rfl) ?_
  refine X.nil ?_
  refine R.cond (by rfl) (fun hc2 => ?_) (fun hc2 => ?_)
  · replace h := condT hc2 h
    refine Run.seq ?_
    refine Run.reg ?_
    refine X.assign (by rfl) (by rfl) ?_
    refine X.nil ?_
    cases h
    refine R.fin1 Try.results52 (by rfl) (by rfl) ?_
    rfl
  · replace h := condF hc2 h
    refine Run.skip ?_
    refine Run.seq ?_
    refine Run.seq ?_
    refine Run.reg ?_
    refine X.fieldAddr_l fld71_1 (by rfl) (by rfl) ?_
    refine X.load_l shp25 (by rfl) (by rfl) (by rfl) (by rfl) (by rfl) (by rfl) ?_
    refine X.fieldAddr_l fld71_1 (by rfl) (by rfl) ?_
    refine X.load_l shp25 (by rfl) (by rfl) (by rfl) (by rfl) (by rfl) (by rfl) ?_
    obtain ⟨v3, hv3, h⟩ := bindE h
    refine X.callP (w_eqIntS_pc _ _ _ hv3) (by rfl) (by rfl) (by rfl) (by repeat (first | exact trivial | refine ⟨by rfl, ?_⟩ | refine ⟨by simp [setL], ?_⟩)) (by rfl) (by rfl) (by rfl) (by rfl) ?_
    refine X.un (by rfl) (by rfl) (by rfl) ?_
    refine X.nil ?_
    refine R.cond (by rfl) (fun hc4 => ?_) (fun hc4 => ?_)
    · replace h := condT hc4 h
      refine Run.seq ?_
      refine Run.reg ?_
      refine X.assign (by rfl) (by rfl) ?_
      refine X.nil ?_
      cases h
      refine R.fin1 Try.results52 (by rfl) (by rfl) ?_
      rfl
    · replace h := condF hc4 h
      refine Run.skip ?_
      refine Run.seq ?_
      refine Run.seq ?_
      refine Run.reg ?_
      refine X.fieldAddr_l fld71_2 (by rfl) (by rfl) ?_
      refine X.load_l shp63 (by rfl) (by rfl) (by rfl) (by rfl) (by rfl) (by rfl) ?_
      refine X.fieldAddr_l fld71_2 (by rfl) (by rfl) ?_
      refine X.load_l shp63 (by rfl) (by rfl) (by rfl) (by rfl) (by rfl) (by rfl) ?_
      obtain ⟨v5, hv5, h⟩ := bindE h
      refine X.callP (w_eqIntSS_pc _ _ _ hv5) (by rfl) (by rfl) (by rfl) (by repeat (first | exact trivial | refine ⟨by rfl, ?_⟩ | refine ⟨by simp [setL], ?_⟩)) (by rfl) (by rfl) (by rfl) (by rfl) ?_
      refine X.un (by rfl) (by rfl) (by rfl) ?_
      refine X.nil ?_
      refine R.cond (by rfl) (fun hc6 => ?_) (fun hc6 => ?_)
      · replace h := condT hc6 h
        refine Run.seq ?_
        refine Run.reg ?_
        refine X.assign (by rfl) (by rfl) ?_
        refine X.nil ?_
        cases h
        refine R.fin1 Try.results52 (by rfl) (by rfl) ?_
        rfl
      · replace h := condF hc6 h
        refine Run.skip ?_
        refine Run.seq ?_
        refine Run.reg ?_
        refine X.assign (by rfl) (by rfl) ?_
        refine X.nil ?_
        cases h
        refine R.fin1 Try.results52 (by rfl) (by rfl) ?_
        rfl
end Go.Px.Ytjncefleglnnjaa
