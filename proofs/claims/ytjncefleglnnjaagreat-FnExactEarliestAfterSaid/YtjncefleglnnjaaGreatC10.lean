/-
  PROVED: contracts of functions of the program over pure values. No condition beyond those that each theorem names.
-/
import Derived.Test.YtjncefleglnnjaaGreatProg
import Derived.Test.YtjncefleglnnjaaGreatD1
import Derived.Test.YtjncefleglnnjaaGreatC3
import Derived.Test.YtjncefleglnnjaaGreatC4
import Derived.Test.YtjncefleglnnjaaGreatC5
import Derived.Test.YtjncefleglnnjaaGreatC8
namespace Go.Px.YtjncefleglnnjaaGreat
set_option linter.unusedSimpArgs false
set_option linter.unusedVariables false
open Go.Px Go.Proofs
theorem ok140 : okFn Tryz.prog 140 = true := by kernel_rfl
theorem s_l16Ok_pc (b0 : TProject) (b1 : TDomain) (b2 : Int) (b3 : Int) (b4 : Int) (r : Bool) (h : s_l16Ok b0 b1 b2 b3 b4 = some r) : PC Tryz.prog 140 [eTProject b0, eTDomain b1, int b2, int b3, int b4] (bool r) := by
  unfold s_l16Ok at h
  refine PC.start Tryz.func140 Tryz.ntmps140 rfl ok140 rfl ?_
  refine Run.seq ?_
  refine Run.reg ?_
  refine X.box (by rfl) (by rfl) (by repeat (first | exact trivial | refine ⟨by rfl, ?_⟩ | refine ⟨by simp [setL], ?_⟩)) (by rfl) (by rfl) (by rfl) (by rfl) ?_
  refine X.box (by rfl) (by rfl) (by repeat (first | exact trivial | refine ⟨by rfl, ?_⟩ | refine ⟨by simp [setL], ?_⟩)) (by rfl) (by rfl) (by rfl) (by rfl) ?_
  refine X.assign (by rfl) (by rfl) ?_
  refine X.nil ?_
  refine Run.seq ?_
  refine Run.reg ?_
  refine X.fieldAddr_l fld28_1 (by rfl) (by rfl) ?_
  refine X.load_l shp23 (by rfl) (by rfl) (by rfl) (by rfl) (by rfl) (by rfl) ?_
  refine X.len_s elt23 (by rfl) (by exact List.length_map ..) (by rfl) ?_
  refine X.assign (by rfl) (by rfl) ?_
  refine X.nil ?_
  refine Run.seq ?_
  obtain ⟨v1, hv1, h⟩ := bindE h
  obtain ⟨e2, he2, h2⟩ := bindE h
  refine R.regG [(10, bool e2)] [] ?_ ?_
  · clear h; have h := he2; clear he2 h2
    refine X.load_l shp28 (by rfl) (by rfl) (by rfl) (by rfl) (by rfl) (by rfl) ?_
    refine X.load_l shp32 (by rfl) (by rfl) (by rfl) (by rfl) (by rfl) (by rfl) ?_
    refine X.callP (s_l14Ok_pc _ _ _ hv1) (by rfl) (by rfl) (by rfl) (by repeat (first | exact trivial | refine ⟨by rfl, ?_⟩ | refine ⟨by simp [setL], ?_⟩)) (by rfl) (by rfl) (by rfl) (by rfl) ?_
    refine X.move (by rfl) (by rfl) ?_
    refine X.ifG (by rfl) (by rfl) (by rfl) (fun hb3 => ?_) (fun hb3 => ?_)
    · replace h := condT hb3 h
      refine X.load_l shp28 (by rfl) (by rfl) (by rfl) (by rfl) (by rfl) (by rfl) ?_
      refine X.gyes (by rfl) (by rfl) (by first | rfl | assumption | simp_all) ?_
      refine X.move (by rfl) (by rfl) ?_
      refine X.gyes (by rfl) (by rfl) (by first | rfl | assumption | simp_all) ?_
      obtain ⟨v4, hv4, h⟩ := bindE h
      refine X.callP (s_IsMachine_pc _ _ _ hv4) (by rfl) (by rfl) (by rfl) (by repeat (first | exact trivial | refine ⟨by rfl, ?_⟩ | refine ⟨by simp [setL], ?_⟩)) (by rfl) (by rfl) (by rfl) (by rfl) ?_
      refine X.pickT (by rfl) (by first | rfl | assumption | simp_all) (by rfl) (by rfl) ?_
      refine X.move (by rfl) (by rfl) ?_
      refine X.ifG (by rfl) (by rfl) (by rfl) (fun hb5 => ?_) (fun hb5 => ?_)
      · replace h := condT hb5 h
        refine X.move (by rfl) (by rfl) ?_
        refine X.gyes (by rfl) (by rfl) (by first | rfl | assumption | simp_all) ?_
        refine X.move (by rfl) (by rfl) ?_
        refine X.gyes (by rfl) (by rfl) (by first | rfl | assumption | simp_all) ?_
        refine X.subW (by rfl) (by rfl) (by rfl) ?_
        refine X.gyes (by rfl) (by rfl) (by first | rfl | assumption | simp_all) ?_
        obtain ⟨v6, hv6, h⟩ := bindE h
        refine X.callP (s_l01In_pc _ _ _ _ hv6) (by rfl) (by rfl) (by rfl) (by repeat (first | exact trivial | refine ⟨by rfl, ?_⟩ | refine ⟨by simp [setL], ?_⟩)) (by rfl) (by rfl) (by rfl) (by rfl) ?_
        refine X.pickT (by rfl) (by first | rfl | assumption | simp_all) (by rfl) (by rfl) ?_
        refine X.move (by rfl) (by rfl) ?_
        refine X.ifG (by rfl) (by rfl) (by rfl) (fun hb7 => ?_) (fun hb7 => ?_)
        · replace h := condT hb7 h
          refine X.move (by rfl) (by rfl) ?_
          refine X.gyes (by rfl) (by rfl) (by first | rfl | assumption | simp_all) ?_
          refine X.move (by rfl) (by rfl) ?_
          refine X.gyes (by rfl) (by rfl) (by first | rfl | assumption | simp_all) ?_
          refine X.subW (by rfl) (by rfl) (by rfl) ?_
          refine X.gyes (by rfl) (by rfl) (by first | rfl | assumption | simp_all) ?_
          obtain ⟨v8, hv8, h⟩ := bindE h
          refine X.callP (s_l01In_pc _ _ _ _ hv8) (by rfl) (by rfl) (by rfl) (by repeat (first | exact trivial | refine ⟨by rfl, ?_⟩ | refine ⟨by simp [setL], ?_⟩)) (by rfl) (by rfl) (by rfl) (by rfl) ?_
          refine X.pickT (by rfl) (by first | rfl | assumption | simp_all) (by rfl) (by rfl) ?_
          refine X.move (by rfl) (by rfl) ?_
          refine X.ifG (by rfl) (by rfl) (by rfl) (fun hb9 => ?_) (fun hb9 => ?_)
          · replace h := condT hb9 h
            refine X.move (by rfl) (by rfl) ?_
            refine X.gyes (by rfl) (by rfl) (by first | rfl | assumption | simp_all) ?_
            refine X.move (by rfl) (by rfl) ?_
            refine X.gyes (by rfl) (by rfl) (by first | rfl | assumption | simp_all) ?_
            refine X.bin (by rfl) (by rfl) (by rfl) (by rfl) (by intro h; cases h) (by rfl) ?_
            refine X.pickT (by rfl) (by first | rfl | assumption | simp_all) (by rfl) (by rfl) ?_
            refine X.assign (by rfl) (by rfl) ?_
            cases h
            exact X.endG (by repeat (first | exact trivial | refine ⟨by rfl, ?_⟩ | refine ⟨by simp [setL], ?_⟩)) (by repeat (first | exact trivial | refine ⟨by rfl, ?_⟩ | refine ⟨by simp [setL], ?_⟩)) (by rfl) (by rfl)
          · replace h := condF hb9 h
            refine X.gno (by rfl) (by rfl) (by first | rfl | assumption | simp_all) (by rfl) ?_
            refine X.gno (by rfl) (by rfl) (by first | rfl | assumption | simp_all) (by rfl) ?_
            refine X.pickF (by rfl) (by first | rfl | assumption | simp_all) (by rfl) (by rfl) ?_
            refine X.assign (by rfl) (by rfl) ?_
            cases h
            exact X.endG (by repeat (first | exact trivial | refine ⟨by rfl, ?_⟩ | refine ⟨by simp [setL], ?_⟩)) (by repeat (first | exact trivial | refine ⟨by rfl, ?_⟩ | refine ⟨by simp [setL], ?_⟩)) (by rfl) (by rfl)
        · replace h := condF hb7 h
          refine X.gno (by rfl) (by rfl) (by first | rfl | assumption | simp_all) (by rfl) ?_
          refine X.gno (by rfl) (by rfl) (by first | rfl | assumption | simp_all) (by rfl) ?_
          refine X.gno (by rfl) (by rfl) (by first | rfl | assumption | simp_all) (by rfl) ?_
          refine X.pickF (by rfl) (by first | rfl | assumption | simp_all) (by rfl) (by rfl) ?_
          refine X.move (by rfl) (by rfl) ?_
          refine X.gno (by rfl) (by rfl) (by first | rfl | assumption | simp_all) (by rfl) ?_
          refine X.gno (by rfl) (by rfl) (by first | rfl | assumption | simp_all) (by rfl) ?_
          refine X.gno (by rfl) (by rfl) (by first | rfl | assumption | simp_all) (by rfl) ?_
          refine X.pickF (by rfl) (by first | rfl | assumption | simp_all) (by rfl) (by rfl) ?_
          refine X.assign (by rfl) (by rfl) ?_
          cases h
          exact X.endG (by repeat (first | exact trivial | refine ⟨by rfl, ?_⟩ | refine ⟨by simp [setL], ?_⟩)) (by repeat (first | exact trivial | refine ⟨by rfl, ?_⟩ | refine ⟨by simp [setL], ?_⟩)) (by rfl) (by rfl)
      · replace h := condF hb5 h
        refine X.gno (by rfl) (by rfl) (by first | rfl | assumption | simp_all) (by rfl) ?_
        refine X.gno (by rfl) (by rfl) (by first | rfl | assumption | simp_all) (by rfl) ?_
        refine X.gno (by rfl) (by rfl) (by first | rfl | assumption | simp_all) (by rfl) ?_
        refine X.pickF (by rfl) (by first | rfl | assumption | simp_all) (by rfl) (by rfl) ?_
        refine X.move (by rfl) (by rfl) ?_
        refine X.gno (by rfl) (by rfl) (by first | rfl | assumption | simp_all) (by rfl) ?_
        refine X.gno (by rfl) (by rfl) (by first | rfl | assumption | simp_all) (by rfl) ?_
        refine X.gno (by rfl) (by rfl) (by first | rfl | assumption | simp_all) (by rfl) ?_
        refine X.gno (by rfl) (by rfl) (by first | rfl | assumption | simp_all) (by rfl) ?_
        refine X.pickF (by rfl) (by first | rfl | assumption | simp_all) (by rfl) (by rfl) ?_
        refine X.move (by rfl) (by rfl) ?_
        refine X.gno (by rfl) (by rfl) (by first | rfl | assumption | simp_all) (by rfl) ?_
        refine X.gno (by rfl) (by rfl) (by first | rfl | assumption | simp_all) (by rfl) ?_
        refine X.gno (by rfl) (by rfl) (by first | rfl | assumption | simp_all) (by rfl) ?_
        refine X.pickF (by rfl) (by first | rfl | assumption | simp_all) (by rfl) (by rfl) ?_
        refine X.assign (by rfl) (by rfl) ?_
        cases h
        exact X.endG (by repeat (first | exact trivial | refine ⟨by rfl, ?_⟩ | refine ⟨by simp [setL], ?_⟩)) (by repeat (first | exact trivial | refine ⟨by rfl, ?_⟩ | refine ⟨by simp [setL], ?_⟩)) (by rfl) (by rfl)
    · replace h := condF hb3 h
      refine X.gno (by rfl) (by rfl) (by first | rfl | assumption | simp_all) (by rfl) ?_
      refine X.gno (by rfl) (by rfl) (by first | rfl | assumption | simp_all) (by rfl) ?_
      refine X.pickF (by rfl) (by first | rfl | assumption | simp_all) (by rfl) (by rfl) ?_
      refine X.move (by rfl) (by rfl) ?_
      refine X.gno (by rfl) (by rfl) (by first | rfl | assumption | simp_all) (by rfl) ?_
      refine X.gno (by rfl) (by rfl) (by first | rfl | assumption | simp_all) (by rfl) ?_
      refine X.gno (by rfl) (by rfl) (by first | rfl | assumption | simp_all) (by rfl) ?_
      refine X.gno (by rfl) (by rfl) (by first | rfl | assumption | simp_all) (by rfl) ?_
      refine X.pickF (by rfl) (by first | rfl | assumption | simp_all) (by rfl) (by rfl) ?_
      refine X.move (by rfl) (by rfl) ?_
      refine X.gno (by rfl) (by rfl) (by first | rfl | assumption | simp_all) (by rfl) ?_
      refine X.gno (by rfl) (by rfl) (by first | rfl | assumption | simp_all) (by rfl) ?_
      refine X.gno (by rfl) (by rfl) (by first | rfl | assumption | simp_all) (by rfl) ?_
      refine X.gno (by rfl) (by rfl) (by first | rfl | assumption | simp_all) (by rfl) ?_
      refine X.pickF (by rfl) (by first | rfl | assumption | simp_all) (by rfl) (by rfl) ?_
      refine X.move (by rfl) (by rfl) ?_
      refine X.gno (by rfl) (by rfl) (by first | rfl | assumption | simp_all) (by rfl) ?_
      refine X.gno (by rfl) (by rfl) (by first | rfl | assumption | simp_all) (by rfl) ?_
      refine X.gno (by rfl) (by rfl) (by first | rfl | assumption | simp_all) (by rfl) ?_
      refine X.pickF (by rfl) (by first | rfl | assumption | simp_all) (by rfl) (by rfl) ?_
      refine X.assign (by rfl) (by rfl) ?_
      cases h
      exact X.endG (by repeat (first | exact trivial | refine ⟨by rfl, ?_⟩ | refine ⟨by simp [setL], ?_⟩)) (by repeat (first | exact trivial | refine ⟨by rfl, ?_⟩ | refine ⟨by simp [setL], ?_⟩)) (by rfl) (by rfl)
  replace h := h2; clear h2
  cases h
  refine R.fin1 Tryz.results140 (by rfl) (by rfl) ?_
  rfl
end Go.Px.YtjncefleglnnjaaGreat
