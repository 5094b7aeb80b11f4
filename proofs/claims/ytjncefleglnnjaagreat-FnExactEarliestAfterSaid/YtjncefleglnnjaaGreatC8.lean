/-
  PROVED: contracts of functions of the program over pure values. No condition beyond those that each theorem names.
-/
import Derived.Test.YtjncefleglnnjaaGreatProg
import Derived.Test.YtjncefleglnnjaaGreatD1
import Derived.Test.YtjncefleglnnjaaGreatC3
import Derived.Test.YtjncefleglnnjaaGreatC5
namespace Go.Px.YtjncefleglnnjaaGreat
set_option linter.unusedSimpArgs false
set_option linter.unusedVariables false
open Go.Px Go.Proofs
theorem ok172 : okFn Tryz.prog 172 = true := by kernel_rfl
theorem ok239 : okFn Tryz.prog 239 = true := by kernel_rfl
theorem ok173 : okFn Tryz.prog 173 = true := by kernel_rfl
theorem ok147 : okFn Tryz.prog 147 = true := by kernel_rfl
theorem s_IsMachine_pc (b0 : TProject) (b1 : Int) (r : Bool) (h : s_IsMachine b0 b1 = some r) : PC Tryz.prog 172 [eTProject b0, int b1] (bool r) := by
  unfold s_IsMachine at h
  refine PC.start Tryz.func172 Tryz.ntmps172 rfl ok172 rfl ?_
  refine Run.seq ?_
  refine Run.reg ?_
  refine X.box (by rfl) (by rfl) (by repeat (first | exact trivial | refine ⟨by rfl, ?_⟩ | refine ⟨by simp [setL], ?_⟩)) (by rfl) (by rfl) (by rfl) (by rfl) ?_
  refine X.assign (by rfl) (by rfl) ?_
  refine X.nil ?_
  refine Run.seq ?_
  obtain ⟨v1, hv1, h⟩ := bindE h
  obtain ⟨e2, he2, h2⟩ := bindE h
  refine R.regG [(4, bool e2)] [] ?_ ?_
  · clear h; have h := he2; clear he2 h2
    refine X.move (by rfl) (by rfl) ?_
    refine X.fieldAddr_l fld28_3 (by rfl) (by rfl) ?_
    refine X.load_l shp25 (by rfl) (by rfl) (by rfl) (by rfl) (by rfl) (by rfl) ?_
    refine X.len_s elt25 (by rfl) (by exact List.length_map ..) (by rfl) ?_
    refine X.subW (by rfl) (by rfl) (by rfl) ?_
    refine X.callP (s_l01In_pc _ _ _ _ hv1) (by rfl) (by rfl) (by rfl) (by repeat (first | exact trivial | refine ⟨by rfl, ?_⟩ | refine ⟨by simp [setL], ?_⟩)) (by rfl) (by rfl) (by rfl) (by rfl) ?_
    refine X.move (by rfl) (by rfl) ?_
    refine X.ifG (by rfl) (by rfl) (by rfl) (fun hb3 => ?_) (fun hb3 => ?_)
    · replace h := condT hb3 h
      refine X.fieldAddr_l fld28_3 (by rfl) (by rfl) ?_
      refine X.gyes (by rfl) (by rfl) (by first | rfl | assumption | simp_all) ?_
      refine X.load_l shp25 (by rfl) (by rfl) (by rfl) (by rfl) (by rfl) (by rfl) ?_
      refine X.gyes (by rfl) (by rfl) (by first | rfl | assumption | simp_all) ?_
      refine X.move (by rfl) (by rfl) ?_
      refine X.gyes (by rfl) (by rfl) (by first | rfl | assumption | simp_all) ?_
      obtain ⟨v4, hv4, h⟩ := bindE h
      refine X.index_s elt25 (by rfl) (by rfl) (idxL_spec hv4).1 (idxL_map eTResource hv4) (by rfl) (by rfl) (by rfl) ?_
      refine X.gyes (by rfl) (by rfl) (by first | rfl | assumption | simp_all) ?_
      refine X.fieldAddr_c fld64_1 (by rfl) (by rfl) ?_
      refine X.gyes (by rfl) (by rfl) (by first | rfl | assumption | simp_all) ?_
      refine X.load_c shp30 (by rfl) (by rfl) (by rfl) (by rfl) ?_
      refine X.gyes (by rfl) (by rfl) (by first | rfl | assumption | simp_all) ?_
      refine X.len_s elt30 (by rfl) (by exact List.length_map ..) (by rfl) ?_
      refine X.gyes (by rfl) (by rfl) (by first | rfl | assumption | simp_all) ?_
      refine X.bin (by rfl) (by rfl) (by rfl) (by rfl) (by intro h; cases h) (by rfl) ?_
      refine X.pickT (by rfl) (by first | rfl | assumption | simp_all) (by rfl) (by rfl) ?_
      refine X.assign (by rfl) (by rfl) ?_
      cases h
      exact X.endG (by repeat (first | exact trivial | refine ⟨by rfl, ?_⟩ | refine ⟨by simp [setL], ?_⟩)) (by repeat (first | exact trivial | refine ⟨by rfl, ?_⟩ | refine ⟨by simp [setL], ?_⟩)) (by rfl) (by rfl)
    · replace h := condF hb3 h
      refine X.gno (by rfl) (by rfl) (by first | rfl | assumption | simp_all) (by rfl) ?_
      refine X.gno (by rfl) (by rfl) (by first | rfl | assumption | simp_all) (by rfl) ?_
      refine X.gno (by rfl) (by rfl) (by first | rfl | assumption | simp_all) (by rfl) ?_
      refine X.gno (by rfl) (by rfl) (by first | rfl | assumption | simp_all) (by rfl) ?_
      refine X.gno (by rfl) (by rfl) (by first | rfl | assumption | simp_all) (by rfl) ?_
      refine X.gno (by rfl) (by rfl) (by first | rfl | assumption | simp_all) (by rfl) ?_
      refine X.gno (by rfl) (by rfl) (by first | rfl | assumption | simp_all) (by rfl) ?_
      refine X.pickF (by rfl) (by first | rfl | assumption | simp_all) (by rfl) (by rfl) ?_
      refine X.assign (by rfl) (by rfl) ?_
      cases h
      exact X.endG (by repeat (first | exact trivial | refine ⟨by rfl, ?_⟩ | refine ⟨by simp [setL], ?_⟩)) (by repeat (first | exact trivial | refine ⟨by rfl, ?_⟩ | refine ⟨by simp [setL], ?_⟩)) (by rfl) (by rfl)
  replace h := h2; clear h2
  cases h
  refine R.fin1 Tryz.results172 (by rfl) (by rfl) ?_
  rfl
theorem i_IsMachine_pc (b0 : TProject) (b1 : Int) (r : Bool) (h : i_IsMachine b0 b1 = some r) : PC Tryz.prog 239 [eTProject b0, int b1] (bool r) := by
  unfold i_IsMachine at h
  refine PC.start Tryz.func239 Tryz.ntmps239 rfl ok239 rfl ?_
  refine Run.seq ?_
  refine Run.reg ?_
  refine X.box (by rfl) (by rfl) (by repeat (first | exact trivial | refine ⟨by rfl, ?_⟩ | refine ⟨by simp [setL], ?_⟩)) (by rfl) (by rfl) (by rfl) (by rfl) ?_
  refine X.assign (by rfl) (by rfl) ?_
  refine X.nil ?_
  refine Run.seq ?_
  obtain ⟨v1, hv1, h⟩ := bindE h
  obtain ⟨e2, he2, h2⟩ := bindE h
  refine R.regG [(4, bool e2)] [] ?_ ?_
  · clear h; have h := he2; clear he2 h2
    refine X.load_l shp28 (by rfl) (by rfl) (by rfl) (by rfl) (by rfl) (by rfl) ?_
    refine X.move (by rfl) (by rfl) ?_
    refine X.callP (i_Project_hasResource_pc _ _ _ hv1) (by rfl) (by rfl) (by rfl) (by repeat (first | exact trivial | refine ⟨by rfl, ?_⟩ | refine ⟨by simp [setL], ?_⟩)) (by rfl) (by rfl) (by rfl) (by rfl) ?_
    refine X.move (by rfl) (by rfl) ?_
    refine X.ifG (by rfl) (by rfl) (by rfl) (fun hb3 => ?_) (fun hb3 => ?_)
    · replace h := condT hb3 h
      refine X.fieldAddr_l fld28_3 (by rfl) (by rfl) ?_
      refine X.gyes (by rfl) (by rfl) (by first | rfl | assumption | simp_all) ?_
      refine X.load_l shp25 (by rfl) (by rfl) (by rfl) (by rfl) (by rfl) (by rfl) ?_
      refine X.gyes (by rfl) (by rfl) (by first | rfl | assumption | simp_all) ?_
      refine X.move (by rfl) (by rfl) ?_
      refine X.gyes (by rfl) (by rfl) (by first | rfl | assumption | simp_all) ?_
      obtain ⟨v4, hv4, h⟩ := bindE h
      refine X.index_s elt25 (by rfl) (by rfl) (idxL_spec hv4).1 (idxL_map eTResource hv4) (by rfl) (by rfl) (by rfl) ?_
      refine X.gyes (by rfl) (by rfl) (by first | rfl | assumption | simp_all) ?_
      refine X.fieldAddr_c fld64_1 (by rfl) (by rfl) ?_
      refine X.gyes (by rfl) (by rfl) (by first | rfl | assumption | simp_all) ?_
      refine X.load_c shp30 (by rfl) (by rfl) (by rfl) (by rfl) ?_
      refine X.gyes (by rfl) (by rfl) (by first | rfl | assumption | simp_all) ?_
      refine X.len_s elt30 (by rfl) (by exact List.length_map ..) (by rfl) ?_
      refine X.gyes (by rfl) (by rfl) (by first | rfl | assumption | simp_all) ?_
      refine X.bin (by rfl) (by rfl) (by rfl) (by rfl) (by intro h; cases h) (by rfl) ?_
      refine X.pickT (by rfl) (by first | rfl | assumption | simp_all) (by rfl) (by rfl) ?_
      refine X.assign (by rfl) (by rfl) ?_
      cases h
      exact X.endG (by repeat (first | exact trivial | refine ⟨by rfl, ?_⟩ | refine ⟨by simp [setL], ?_⟩)) (by repeat (first | exact trivial | refine ⟨by rfl, ?_⟩ | refine ⟨by simp [setL], ?_⟩)) (by rfl) (by rfl)
    · replace h := condF hb3 h
      refine X.gno (by rfl) (by rfl) (by first | rfl | assumption | simp_all) (by rfl) ?_
      refine X.gno (by rfl) (by rfl) (by first | rfl | assumption | simp_all) (by rfl) ?_
      refine X.gno (by rfl) (by rfl) (by first | rfl | assumption | simp_all) (by rfl) ?_
      refine X.gno (by rfl) (by rfl) (by first | rfl | assumption | simp_all) (by rfl) ?_
      refine X.gno (by rfl) (by rfl) (by first | rfl | assumption | simp_all) (by rfl) ?_
      refine X.gno (by rfl) (by rfl) (by first | rfl | assumption | simp_all) (by rfl) ?_
      refine X.gno (by rfl) (by rfl) (by first | rfl | assumption | simp_all) (by rfl) ?_
      refine X.pickF (by rfl) (by first | rfl | assumption | simp_all) (by rfl) (by rfl) ?_
      refine X.assign (by rfl) (by rfl) ?_
      cases h
      exact X.endG (by repeat (first | exact trivial | refine ⟨by rfl, ?_⟩ | refine ⟨by simp [setL], ?_⟩)) (by repeat (first | exact trivial | refine ⟨by rfl, ?_⟩ | refine ⟨by simp [setL], ?_⟩)) (by rfl) (by rfl)
  replace h := h2; clear h2
  cases h
  refine R.fin1 Tryz.results239 (by rfl) (by rfl) ?_
  rfl
theorem i_onMachine_pc (b0 : TProject) (b1 : TDomain) (b2 : Int) (r : Bool) (h : i_onMachine b0 b1 b2 = some r) : PC Tryz.prog 173 [eTProject b0, eTDomain b1, int b2] (bool r) := by
  unfold i_onMachine at h
  refine PC.start Tryz.func173 Tryz.ntmps173 rfl ok173 rfl ?_
  refine Run.seq ?_
  refine Run.reg ?_
  refine X.box (by rfl) (by rfl) (by repeat (first | exact trivial | refine ⟨by rfl, ?_⟩ | refine ⟨by simp [setL], ?_⟩)) (by rfl) (by rfl) (by rfl) (by rfl) ?_
  refine X.box (by rfl) (by rfl) (by repeat (first | exact trivial | refine ⟨by rfl, ?_⟩ | refine ⟨by simp [setL], ?_⟩)) (by rfl) (by rfl) (by rfl) (by rfl) ?_
  refine X.assign (by rfl) (by rfl) ?_
  refine X.nil ?_
  refine Run.seq ?_
  obtain ⟨v1, hv1, h⟩ := bindE h
  obtain ⟨e2, he2, h2⟩ := bindE h
  refine R.regG [(6, bool e2)] [] ?_ ?_
  · clear h; have h := he2; clear he2 h2
    refine X.load_l shp28 (by rfl) (by rfl) (by rfl) (by rfl) (by rfl) (by rfl) ?_
    refine X.load_l shp32 (by rfl) (by rfl) (by rfl) (by rfl) (by rfl) (by rfl) ?_
    refine X.callP (i_isUsable_pc _ _ _ hv1) (by rfl) (by rfl) (by rfl) (by repeat (first | exact trivial | refine ⟨by rfl, ?_⟩ | refine ⟨by simp [setL], ?_⟩)) (by rfl) (by rfl) (by rfl) (by rfl) ?_
    refine X.move (by rfl) (by rfl) ?_
    refine X.ifG (by rfl) (by rfl) (by rfl) (fun hb3 => ?_) (fun hb3 => ?_)
    · replace h := condT hb3 h
      refine X.load_l shp28 (by rfl) (by rfl) (by rfl) (by rfl) (by rfl) (by rfl) ?_
      refine X.gyes (by rfl) (by rfl) (by first | rfl | assumption | simp_all) ?_
      refine X.move (by rfl) (by rfl) ?_
      refine X.gyes (by rfl) (by rfl) (by first | rfl | assumption | simp_all) ?_
      obtain ⟨v4, hv4, h⟩ := bindE h
      refine X.callP (i_IsMachine_pc _ _ _ hv4) (by rfl) (by rfl) (by rfl) (by repeat (first | exact trivial | refine ⟨by rfl, ?_⟩ | refine ⟨by simp [setL], ?_⟩)) (by rfl) (by rfl) (by rfl) (by rfl) ?_
      refine X.pickT (by rfl) (by first | rfl | assumption | simp_all) (by rfl) (by rfl) ?_
      refine X.assign (by rfl) (by rfl) ?_
      cases h
      exact X.endG (by repeat (first | exact trivial | refine ⟨by rfl, ?_⟩ | refine ⟨by simp [setL], ?_⟩)) (by repeat (first | exact trivial | refine ⟨by rfl, ?_⟩ | refine ⟨by simp [setL], ?_⟩)) (by rfl) (by rfl)
    · replace h := condF hb3 h
      refine X.gno (by rfl) (by rfl) (by first | rfl | assumption | simp_all) (by rfl) ?_
      refine X.gno (by rfl) (by rfl) (by first | rfl | assumption | simp_all) (by rfl) ?_
      refine X.pickF (by rfl) (by first | rfl | assumption | simp_all) (by rfl) (by rfl) ?_
      refine X.assign (by rfl) (by rfl) ?_
      cases h
      exact X.endG (by repeat (first | exact trivial | refine ⟨by rfl, ?_⟩ | refine ⟨by simp [setL], ?_⟩)) (by repeat (first | exact trivial | refine ⟨by rfl, ?_⟩ | refine ⟨by simp [setL], ?_⟩)) (by rfl) (by rfl)
  replace h := h2; clear h2
  cases h
  refine R.fin1 Tryz.results173 (by rfl) (by rfl) ?_
  rfl
theorem i_arePair_pc (b0 : TProject) (b1 : TDomain) (b2 : Int) (b3 : Int) (b4 : Int) (r : Bool) (h : i_arePair b0 b1 b2 b3 b4 = some r) : PC Tryz.prog 147 [eTProject b0, eTDomain b1, int b2, int b3, int b4] (bool r) := by
  unfold i_arePair at h
  refine PC.start Tryz.func147 Tryz.ntmps147 rfl ok147 rfl ?_
  refine Run.seq ?_
  refine Run.reg ?_
  refine X.box (by rfl) (by rfl) (by repeat (first | exact trivial | refine ⟨by rfl, ?_⟩ | refine ⟨by simp [setL], ?_⟩)) (by rfl) (by rfl) (by rfl) (by rfl) ?_
  refine X.box (by rfl) (by rfl) (by repeat (first | exact trivial | refine ⟨by rfl, ?_⟩ | refine ⟨by simp [setL], ?_⟩)) (by rfl) (by rfl) (by rfl) (by rfl) ?_
  refine X.assign (by rfl) (by rfl) ?_
  refine X.nil ?_
  refine Run.seq ?_
  obtain ⟨v1, hv1, h⟩ := bindE h
  obtain ⟨e2, he2, h2⟩ := bindE h
  refine R.regG [(10, bool e2)] [] ?_ ?_
  · clear h; have h := he2; clear he2 h2
    refine X.load_l shp28 (by rfl) (by rfl) (by rfl) (by rfl) (by rfl) (by rfl) ?_
    refine X.load_l shp32 (by rfl) (by rfl) (by rfl) (by rfl) (by rfl) (by rfl) ?_
    refine X.move (by rfl) (by rfl) ?_
    refine X.callP (i_onMachine_pc _ _ _ _ hv1) (by rfl) (by rfl) (by rfl) (by repeat (first | exact trivial | refine ⟨by rfl, ?_⟩ | refine ⟨by simp [setL], ?_⟩)) (by rfl) (by rfl) (by rfl) (by rfl) ?_
    refine X.move (by rfl) (by rfl) ?_
    refine X.ifG (by rfl) (by rfl) (by rfl) (fun hb3 => ?_) (fun hb3 => ?_)
    · replace h := condT hb3 h
      refine X.load_l shp28 (by rfl) (by rfl) (by rfl) (by rfl) (by rfl) (by rfl) ?_
      refine X.gyes (by rfl) (by rfl) (by first | rfl | assumption | simp_all) ?_
      refine X.move (by rfl) (by rfl) ?_
      refine X.gyes (by rfl) (by rfl) (by first | rfl | assumption | simp_all) ?_
      obtain ⟨v4, hv4, h⟩ := bindE h
      refine X.callP (i_Project_hasActivity_pc _ _ _ hv4) (by rfl) (by rfl) (by rfl) (by repeat (first | exact trivial | refine ⟨by rfl, ?_⟩ | refine ⟨by simp [setL], ?_⟩)) (by rfl) (by rfl) (by rfl) (by rfl) ?_
      refine X.pickT (by rfl) (by first | rfl | assumption | simp_all) (by rfl) (by rfl) ?_
      refine X.move (by rfl) (by rfl) ?_
      refine X.ifG (by rfl) (by rfl) (by rfl) (fun hb5 => ?_) (fun hb5 => ?_)
      · replace h := condT hb5 h
        refine X.load_l shp28 (by rfl) (by rfl) (by rfl) (by rfl) (by rfl) (by rfl) ?_
        refine X.gyes (by rfl) (by rfl) (by first | rfl | assumption | simp_all) ?_
        refine X.move (by rfl) (by rfl) ?_
        refine X.gyes (by rfl) (by rfl) (by first | rfl | assumption | simp_all) ?_
        obtain ⟨v6, hv6, h⟩ := bindE h
        refine X.callP (i_Project_hasActivity_pc _ _ _ hv6) (by rfl) (by rfl) (by rfl) (by repeat (first | exact trivial | refine ⟨by rfl, ?_⟩ | refine ⟨by simp [setL], ?_⟩)) (by rfl) (by rfl) (by rfl) (by rfl) ?_
        refine X.pickT (by rfl) (by first | rfl | assumption | simp_all) (by rfl) (by rfl) ?_
        refine X.move (by rfl) (by rfl) ?_
        refine X.ifG (by rfl) (by rfl) (by rfl) (fun hb7 => ?_) (fun hb7 => ?_)
        · replace h := condT hb7 h
          refine X.move (by rfl) (by rfl) ?_
          refine X.gyes (by rfl) (by rfl) (by first | rfl | assumption | simp_all) ?_
          refine X.move (by rfl) (by rfl) ?_
          refine X.gyes (by rfl) (by rfl) (by first | rfl | assumption | simp_all) ?_
          refine X.bin (by rfl) (by rfl) (by rfl) (by rfl) (by intro h; cases h) (by rfl) ?_
          refine X.pickT (by rfl) (by first | rfl | assumption | simp_all) (by rfl) (by rfl) ?_
          refine X.assign (by rfl) (by rfl) ?_
          cases h
          exact X.endG (by repeat (first | exact trivial | refine ⟨by rfl, ?_⟩ | refine ⟨by simp [setL], ?_⟩)) (by repeat (first | exact trivial | refine ⟨by rfl, ?_⟩ | refine ⟨by simp [setL], ?_⟩)) (by rfl) (by rfl)
        · replace h := condF hb7 h
          refine X.gno (by rfl) (by rfl) (by first | rfl | assumption | simp_all) (by rfl) ?_
          refine X.gno (by rfl) (by rfl) (by first | rfl | assumption | simp_all) (by rfl) ?_
          refine X.pickF (by rfl) (by first | rfl | assumption | simp_all) (by rfl) (by rfl) ?_
          refine X.assign (by rfl) (by rfl) ?_
          cases h
          exact X.endG (by repeat (first | exact trivial | refine ⟨by rfl, ?_⟩ | refine ⟨by simp [setL], ?_⟩)) (by repeat (first | exact trivial | refine ⟨by rfl, ?_⟩ | refine ⟨by simp [setL], ?_⟩)) (by rfl) (by rfl)
      · replace h := condF hb5 h
        refine X.gno (by rfl) (by rfl) (by first | rfl | assumption | simp_all) (by rfl) ?_
        refine X.gno (by rfl) (by rfl) (by first | rfl | assumption | simp_all) (by rfl) ?_
        refine X.pickF (by rfl) (by first | rfl | assumption | simp_all) (by rfl) (by rfl) ?_
        refine X.move (by rfl) (by rfl) ?_
        refine X.gno (by rfl) (by rfl) (by first | rfl | assumption | simp_all) (by rfl) ?_
        refine X.gno (by rfl) (by rfl) (by first | rfl | assumption | simp_all) (by rfl) ?_
        refine X.gno (by rfl) (by rfl) (by first | rfl | assumption | simp_all) (by rfl) ?_
        refine X.pickF (by rfl) (by first | rfl | assumption | simp_all) (by rfl) (by rfl) ?_
        refine X.assign (by rfl) (by rfl) ?_
        cases h
        exact X.endG (by repeat (first | exact trivial | refine ⟨by rfl, ?_⟩ | refine ⟨by simp [setL], ?_⟩)) (by repeat (first | exact trivial | refine ⟨by rfl, ?_⟩ | refine ⟨by simp [setL], ?_⟩)) (by rfl) (by rfl)
    · replace h := condF hb3 h
      refine X.gno (by rfl) (by rfl) (by first | rfl | assumption | simp_all) (by rfl) ?_
      refine X.gno (by rfl) (by rfl) (by first | rfl | assumption | simp_all) (by rfl) ?_
      refine X.pickF (by rfl) (by first | rfl | assumption | simp_all) (by rfl) (by rfl) ?_
      refine X.move (by rfl) (by rfl) ?_
      refine X.gno (by rfl) (by rfl) (by first | rfl | assumption | simp_all) (by rfl) ?_
      refine X.gno (by rfl) (by rfl) (by first | rfl | assumption | simp_all) (by rfl) ?_
      refine X.gno (by rfl) (by rfl) (by first | rfl | assumption | simp_all) (by rfl) ?_
      refine X.pickF (by rfl) (by first | rfl | assumption | simp_all) (by rfl) (by rfl) ?_
      refine X.move (by rfl) (by rfl) ?_
      refine X.gno (by rfl) (by rfl) (by first | rfl | assumption | simp_all) (by rfl) ?_
      refine X.gno (by rfl) (by rfl) (by first | rfl | assumption | simp_all) (by rfl) ?_
      refine X.gno (by rfl) (by rfl) (by first | rfl | assumption | simp_all) (by rfl) ?_
      refine X.pickF (by rfl) (by first | rfl | assumption | simp_all) (by rfl) (by rfl) ?_
      refine X.assign (by rfl) (by rfl) ?_
      cases h
      exact X.endG (by repeat (first | exact trivial | refine ⟨by rfl, ?_⟩ | refine ⟨by simp [setL], ?_⟩)) (by repeat (first | exact trivial | refine ⟨by rfl, ?_⟩ | refine ⟨by simp [setL], ?_⟩)) (by rfl) (by rfl)
  replace h := h2; clear h2
  cases h
  refine R.fin1 Tryz.results147 (by rfl) (by rfl) ?_
  rfl
end Go.Px.YtjncefleglnnjaaGreat
