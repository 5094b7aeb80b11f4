/-
  PROVED: contracts of functions of the program over pure values. No condition beyond those that each theorem names.
-/
import Derived.Test.YtjncefleglnnjaaProg
import Derived.Test.YtjncefleglnnjaaD1
import Derived.Test.YtjncefleglnnjaaC1
import Derived.Test.YtjncefleglnnjaaC2
import Derived.Test.YtjncefleglnnjaaC8
import Derived.Test.YtjncefleglnnjaaC9
import Derived.Test.YtjncefleglnnjaaC11
namespace Go.Px.Ytjncefleglnnjaa
set_option linter.unusedSimpArgs false
set_option linter.unusedVariables false
open Go.Px Go.Proofs
theorem pl83 : fldPlaces Try.prog 83 = some [(0, 1), (1, 1), (2, 1), (3, 1)] := by kernel_rfl
theorem ok44 : okFn Try.prog 44 = true := by kernel_rfl
theorem ok46 : okFn Try.prog 46 = true := by kernel_rfl
theorem ok9 : okFn Try.prog 9 = true := by kernel_rfl
theorem s_LineOk_pc (b0 : TProject) (b1 : TLine) (r : Bool) (h : s_LineOk b0 b1 = some r) : PC Try.prog 44 [eTProject b0, eTLine b1] (bool r) := by
  unfold s_LineOk at h
  refine PC.start Try.func44 Try.ntmps44 rfl ok44 rfl ?_
  refine Run.seq ?_
  refine Run.reg ?_
  refine X.box (by rfl) (by rfl) (by repeat (first | exact trivial | refine ⟨by rfl, ?_⟩ | refine ⟨by simp [setL], ?_⟩)) (by rfl) (by rfl) (by rfl) (by rfl) ?_
  refine X.box (by rfl) (by rfl) (by repeat (first | exact trivial | refine ⟨by rfl, ?_⟩ | refine ⟨by simp [setL], ?_⟩)) (by rfl) (by rfl) (by rfl) (by rfl) ?_
  refine X.assign (by rfl) (by rfl) ?_
  refine X.nil ?_
  refine Run.seq ?_
  obtain ⟨v1, hv1, h⟩ := bindE h
  obtain ⟨e2, he2, h2⟩ := bindE h
  refine R.regG [(4, bool e2)] [] ?_ ?_
  · clear h; have h := he2; clear he2 h2
    refine X.load_l shp34 (by rfl) (by rfl) (by rfl) (by rfl) (by rfl) (by rfl) ?_
    refine X.fieldAddr_l fld85_2 (by rfl) (by rfl) ?_
    refine X.load_l shp43 (by rfl) (by rfl) (by rfl) (by rfl) (by rfl) (by rfl) ?_
    refine X.callP (s_ClauseOk_pc _ _ _ hv1) (by rfl) (by rfl) (by rfl) (by repeat (first | exact trivial | refine ⟨by rfl, ?_⟩ | refine ⟨by simp [setL], ?_⟩)) (by rfl) (by rfl) (by rfl) (by rfl) ?_
    refine X.move (by rfl) (by rfl) ?_
    refine X.ifG (by rfl) (by rfl) (by rfl) (fun hb3 => ?_) (fun hb3 => ?_)
    · replace h := condT hb3 h
      refine X.fieldAddr_l fld85_0 (by rfl) (by rfl) ?_
      refine X.gyes (by rfl) (by rfl) (by first | rfl | assumption | simp_all) ?_
      refine X.load_l shp3 (by rfl) (by rfl) (by rfl) (by rfl) (by rfl) (by rfl) ?_
      refine X.gyes (by rfl) (by rfl) (by first | rfl | assumption | simp_all) ?_
      refine X.bin (by rfl) (by rfl) (by rfl) (by rfl) (by intro h; cases h) (by rfl) ?_
      refine X.gyes (by rfl) (by rfl) (by first | rfl | assumption | simp_all) ?_
      refine X.move (by rfl) (by rfl) ?_
      refine X.ifG (by rfl) (by rfl) (by rfl) (fun hb4 => ?_) (fun hb4 => ?_)
      · replace h := condF hb4 h
        refine X.fieldAddr_l fld85_0 (by rfl) (by rfl) ?_
        refine X.gyes (by rfl) (by rfl) (by first | rfl | assumption | simp_all) ?_
        refine X.load_l shp3 (by rfl) (by rfl) (by rfl) (by rfl) (by rfl) (by rfl) ?_
        refine X.gyes (by rfl) (by rfl) (by first | rfl | assumption | simp_all) ?_
        refine X.bin (by rfl) (by rfl) (by rfl) (by rfl) (by intro h; cases h) (by rfl) ?_
        refine X.gyes (by rfl) (by rfl) (by first | rfl | assumption | simp_all) ?_
        refine X.move (by rfl) (by rfl) ?_
        refine X.ifG (by rfl) (by rfl) (by rfl) (fun hb5 => ?_) (fun hb5 => ?_)
        · replace h := condT hb5 h
          refine X.fieldAddr_l fld85_1 (by rfl) (by rfl) ?_
          refine X.gyes (by rfl) (by rfl) (by first | rfl | assumption | simp_all) ?_
          refine X.load_l shp83 (by rfl) (by rfl) (by rfl) (by rfl) (by rfl) (by rfl) ?_
          refine X.gyes (by rfl) (by rfl) (by first | rfl | assumption | simp_all) ?_
          refine X.build zer83 pl83 (by rfl) (by rfl) (by repeat (first | exact trivial | refine ⟨by rfl, ?_⟩ | refine ⟨by simp [setL], ?_⟩)) (by rfl) (by rfl) (by rfl) ?_
          refine X.gyes (by rfl) (by rfl) (by first | rfl | assumption | simp_all) ?_
          refine X.eqlAgg flat83 (by rfl) (by rfl) (by rfl) (by rfl) ?_
          refine X.gyes (by rfl) (by rfl) (by first | rfl | assumption | simp_all) ?_
          refine X.pickT (by rfl) (by first | rfl | assumption | simp_all) (by rfl) (by rfl) ?_
          refine X.gyes (by rfl) (by rfl) (by first | rfl | assumption | simp_all) ?_
          refine X.pickF (by rfl) (by first | rfl | assumption | simp_all) (by rfl) (by rfl) ?_
          refine X.pickT (by rfl) (by first | rfl | assumption | simp_all) (by rfl) (by rfl) ?_
          refine X.assign (by rfl) (by rfl) ?_
          cases h
          exact X.endG (by repeat (first | exact trivial | refine ⟨by rfl, ?_⟩ | refine ⟨by simp [setL], ?_⟩)) (by repeat (first | exact trivial | refine ⟨by rfl, ?_⟩ | refine ⟨by simp [setL], ?_⟩)) (by rfl) (by rfl)
        · replace h := condF hb5 h
          refine X.gno (by rfl) (by rfl) (by first | rfl | assumption | simp_all) (by rfl) ?_
          refine X.gno (by rfl) (by rfl) (by first | rfl | assumption | simp_all) (by rfl) ?_
          refine X.gno (by rfl) (by rfl) (by first | rfl | assumption | simp_all) (by rfl) ?_
          refine X.gyes (by rfl) (by rfl) (by first | rfl | assumption | simp_all) ?_
          refine X.pickF (by rfl) (by first | rfl | assumption | simp_all) (by rfl) (by rfl) ?_
          refine X.gyes (by rfl) (by rfl) (by first | rfl | assumption | simp_all) ?_
          refine X.pickF (by rfl) (by first | rfl | assumption | simp_all) (by rfl) (by rfl) ?_
          refine X.pickT (by rfl) (by first | rfl | assumption | simp_all) (by rfl) (by rfl) ?_
          refine X.assign (by rfl) (by rfl) ?_
          cases h
          exact X.endG (by repeat (first | exact trivial | refine ⟨by rfl, ?_⟩ | refine ⟨by simp [setL], ?_⟩)) (by repeat (first | exact trivial | refine ⟨by rfl, ?_⟩ | refine ⟨by simp [setL], ?_⟩)) (by rfl) (by rfl)
      · replace h := condT hb4 h
        refine X.gno (by rfl) (by rfl) (by first | rfl | assumption | simp_all) (by rfl) ?_
        refine X.gno (by rfl) (by rfl) (by first | rfl | assumption | simp_all) (by rfl) ?_
        refine X.gno (by rfl) (by rfl) (by first | rfl | assumption | simp_all) (by rfl) ?_
        refine X.gU (by rfl) (by rfl) (by rfl) ?_
        refine X.gU (by rfl) (by rfl) (by rfl) ?_
        refine X.gU (by rfl) (by rfl) (by rfl) ?_
        refine X.gU (by rfl) (by rfl) (by rfl) ?_
        refine X.gno (by rfl) (by rfl) (by first | rfl | assumption | simp_all) (by rfl) ?_
        refine X.gyes (by rfl) (by rfl) (by first | rfl | assumption | simp_all) ?_
        refine X.pickT (by rfl) (by first | rfl | assumption | simp_all) (by rfl) (by rfl) ?_
        refine X.pickT (by rfl) (by first | rfl | assumption | simp_all) (by rfl) (by rfl) ?_
        refine X.assign (by rfl) (by rfl) ?_
        cases h
        exact X.endG (by repeat (first | exact trivial | refine ⟨by rfl, ?_⟩ | refine ⟨by simp [setL], ?_⟩)) (by repeat (first | exact trivial | refine ⟨by rfl, ?_⟩ | refine ⟨by simp [setL], ?_⟩)) (by rfl) (by rfl)
    · replace h := condF hb3 h
      refine X.gno (by rfl) (by rfl) (by first | rfl | assumption | simp_all) (by rfl) ?_
      refine X.gno (by rfl) (by rfl) (by first | rfl | assumption | simp_all) (by rfl) ?_
      refine X.gno (by rfl) (by rfl) (by first | rfl | assumption | simp_all) (by rfl) ?_
      refine X.gU (by rfl) (by rfl) (by rfl) ?_
      refine X.gU (by rfl) (by rfl) (by rfl) ?_
      refine X.gU (by rfl) (by rfl) (by rfl) ?_
      refine X.gU (by rfl) (by rfl) (by rfl) ?_
      refine X.gU (by rfl) (by rfl) (by rfl) ?_
      refine X.gU (by rfl) (by rfl) (by rfl) ?_
      refine X.gU (by rfl) (by rfl) (by rfl) ?_
      refine X.gU (by rfl) (by rfl) (by rfl) ?_
      refine X.gU (by rfl) (by rfl) (by rfl) ?_
      refine X.gno (by rfl) (by rfl) (by first | rfl | assumption | simp_all) (by rfl) ?_
      refine X.pickF (by rfl) (by first | rfl | assumption | simp_all) (by rfl) (by rfl) ?_
      refine X.assign (by rfl) (by rfl) ?_
      cases h
      exact X.endG (by repeat (first | exact trivial | refine ⟨by rfl, ?_⟩ | refine ⟨by simp [setL], ?_⟩)) (by repeat (first | exact trivial | refine ⟨by rfl, ?_⟩ | refine ⟨by simp [setL], ?_⟩)) (by rfl) (by rfl)
  replace h := h2; clear h2
  cases h
  refine R.fin1 Try.results44 (by rfl) (by rfl) ?_
  rfl
theorem i_LineOk_pc (b0 : TProject) (b1 : TLine) (r : Bool) (h : i_LineOk b0 b1 = some r) : PC Try.prog 46 [eTProject b0, eTLine b1] (bool r) := by
  unfold i_LineOk at h
  refine PC.start Try.func46 Try.ntmps46 rfl ok46 rfl ?_
  refine Run.seq ?_
  refine Run.reg ?_
  refine X.box (by rfl) (by rfl) (by repeat (first | exact trivial | refine ⟨by rfl, ?_⟩ | refine ⟨by simp [setL], ?_⟩)) (by rfl) (by rfl) (by rfl) (by rfl) ?_
  refine X.box (by rfl) (by rfl) (by repeat (first | exact trivial | refine ⟨by rfl, ?_⟩ | refine ⟨by simp [setL], ?_⟩)) (by rfl) (by rfl) (by rfl) (by rfl) ?_
  refine X.assign (by rfl) (by rfl) ?_
  refine X.nil ?_
  refine Run.seq ?_
  obtain ⟨v1, hv1, h⟩ := bindE h
  obtain ⟨e2, he2, h2⟩ := bindE h
  refine R.regG [(4, bool e2)] [] ?_ ?_
  · clear h; have h := he2; clear he2 h2
    refine X.load_l shp34 (by rfl) (by rfl) (by rfl) (by rfl) (by rfl) (by rfl) ?_
    refine X.fieldAddr_l fld85_2 (by rfl) (by rfl) ?_
    refine X.load_l shp43 (by rfl) (by rfl) (by rfl) (by rfl) (by rfl) (by rfl) ?_
    refine X.callP (i_ClauseOk_pc _ _ _ hv1) (by rfl) (by rfl) (by rfl) (by repeat (first | exact trivial | refine ⟨by rfl, ?_⟩ | refine ⟨by simp [setL], ?_⟩)) (by rfl) (by rfl) (by rfl) (by rfl) ?_
    refine X.move (by rfl) (by rfl) ?_
    refine X.ifG (by rfl) (by rfl) (by rfl) (fun hb3 => ?_) (fun hb3 => ?_)
    · replace h := condT hb3 h
      refine X.fieldAddr_l fld85_0 (by rfl) (by rfl) ?_
      refine X.gyes (by rfl) (by rfl) (by first | rfl | assumption | simp_all) ?_
      refine X.load_l shp3 (by rfl) (by rfl) (by rfl) (by rfl) (by rfl) (by rfl) ?_
      refine X.gyes (by rfl) (by rfl) (by first | rfl | assumption | simp_all) ?_
      refine X.bin (by rfl) (by rfl) (by rfl) (by rfl) (by intro h; cases h) (by rfl) ?_
      refine X.gyes (by rfl) (by rfl) (by first | rfl | assumption | simp_all) ?_
      refine X.move (by rfl) (by rfl) ?_
      refine X.ifG (by rfl) (by rfl) (by rfl) (fun hb4 => ?_) (fun hb4 => ?_)
      · replace h := condF hb4 h
        refine X.fieldAddr_l fld85_0 (by rfl) (by rfl) ?_
        refine X.gyes (by rfl) (by rfl) (by first | rfl | assumption | simp_all) ?_
        refine X.load_l shp3 (by rfl) (by rfl) (by rfl) (by rfl) (by rfl) (by rfl) ?_
        refine X.gyes (by rfl) (by rfl) (by first | rfl | assumption | simp_all) ?_
        refine X.bin (by rfl) (by rfl) (by rfl) (by rfl) (by intro h; cases h) (by rfl) ?_
        refine X.gyes (by rfl) (by rfl) (by first | rfl | assumption | simp_all) ?_
        refine X.move (by rfl) (by rfl) ?_
        refine X.ifG (by rfl) (by rfl) (by rfl) (fun hb5 => ?_) (fun hb5 => ?_)
        · replace h := condT hb5 h
          refine X.fieldAddr_l fld85_1 (by rfl) (by rfl) ?_
          refine X.gyes (by rfl) (by rfl) (by first | rfl | assumption | simp_all) ?_
          refine X.load_l shp83 (by rfl) (by rfl) (by rfl) (by rfl) (by rfl) (by rfl) ?_
          refine X.gyes (by rfl) (by rfl) (by first | rfl | assumption | simp_all) ?_
          refine X.build zer83 pl83 (by rfl) (by rfl) (by repeat (first | exact trivial | refine ⟨by rfl, ?_⟩ | refine ⟨by simp [setL], ?_⟩)) (by rfl) (by rfl) (by rfl) ?_
          refine X.gyes (by rfl) (by rfl) (by first | rfl | assumption | simp_all) ?_
          refine X.eqlAgg flat83 (by rfl) (by rfl) (by rfl) (by rfl) ?_
          refine X.gyes (by rfl) (by rfl) (by first | rfl | assumption | simp_all) ?_
          refine X.pickT (by rfl) (by first | rfl | assumption | simp_all) (by rfl) (by rfl) ?_
          refine X.gyes (by rfl) (by rfl) (by first | rfl | assumption | simp_all) ?_
          refine X.pickF (by rfl) (by first | rfl | assumption | simp_all) (by rfl) (by rfl) ?_
          refine X.pickT (by rfl) (by first | rfl | assumption | simp_all) (by rfl) (by rfl) ?_
          refine X.assign (by rfl) (by rfl) ?_
          cases h
          exact X.endG (by repeat (first | exact trivial | refine ⟨by rfl, ?_⟩ | refine ⟨by simp [setL], ?_⟩)) (by repeat (first | exact trivial | refine ⟨by rfl, ?_⟩ | refine ⟨by simp [setL], ?_⟩)) (by rfl) (by rfl)
        · replace h := condF hb5 h
          refine X.gno (by rfl) (by rfl) (by first | rfl | assumption | simp_all) (by rfl) ?_
          refine X.gno (by rfl) (by rfl) (by first | rfl | assumption | simp_all) (by rfl) ?_
          refine X.gno (by rfl) (by rfl) (by first | rfl | assumption | simp_all) (by rfl) ?_
          refine X.gyes (by rfl) (by rfl) (by first | rfl | assumption | simp_all) ?_
          refine X.pickF (by rfl) (by first | rfl | assumption | simp_all) (by rfl) (by rfl) ?_
          refine X.gyes (by rfl) (by rfl) (by first | rfl | assumption | simp_all) ?_
          refine X.pickF (by rfl) (by first | rfl | assumption | simp_all) (by rfl) (by rfl) ?_
          refine X.pickT (by rfl) (by first | rfl | assumption | simp_all) (by rfl) (by rfl) ?_
          refine X.assign (by rfl) (by rfl) ?_
          cases h
          exact X.endG (by repeat (first | exact trivial | refine ⟨by rfl, ?_⟩ | refine ⟨by simp [setL], ?_⟩)) (by repeat (first | exact trivial | refine ⟨by rfl, ?_⟩ | refine ⟨by simp [setL], ?_⟩)) (by rfl) (by rfl)
      · replace h := condT hb4 h
        refine X.gno (by rfl) (by rfl) (by first | rfl | assumption | simp_all) (by rfl) ?_
        refine X.gno (by rfl) (by rfl) (by first | rfl | assumption | simp_all) (by rfl) ?_
        refine X.gno (by rfl) (by rfl) (by first | rfl | assumption | simp_all) (by rfl) ?_
        refine X.gU (by rfl) (by rfl) (by rfl) ?_
        refine X.gU (by rfl) (by rfl) (by rfl) ?_
        refine X.gU (by rfl) (by rfl) (by rfl) ?_
        refine X.gU (by rfl) (by rfl) (by rfl) ?_
        refine X.gno (by rfl) (by rfl) (by first | rfl | assumption | simp_all) (by rfl) ?_
        refine X.gyes (by rfl) (by rfl) (by first | rfl | assumption | simp_all) ?_
        refine X.pickT (by rfl) (by first | rfl | assumption | simp_all) (by rfl) (by rfl) ?_
        refine X.pickT (by rfl) (by first | rfl | assumption | simp_all) (by rfl) (by rfl) ?_
        refine X.assign (by rfl) (by rfl) ?_
        cases h
        exact X.endG (by repeat (first | exact trivial | refine ⟨by rfl, ?_⟩ | refine ⟨by simp [setL], ?_⟩)) (by repeat (first | exact trivial | refine ⟨by rfl, ?_⟩ | refine ⟨by simp [setL], ?_⟩)) (by rfl) (by rfl)
    · replace h := condF hb3 h
      refine X.gno (by rfl) (by rfl) (by first | rfl | assumption | simp_all) (by rfl) ?_
      refine X.gno (by rfl) (by rfl) (by first | rfl | assumption | simp_all) (by rfl) ?_
      refine X.gno (by rfl) (by rfl) (by first | rfl | assumption | simp_all) (by rfl) ?_
      refine X.gU (by rfl) (by rfl) (by rfl) ?_
      refine X.gU (by rfl) (by rfl) (by rfl) ?_
      refine X.gU (by rfl) (by rfl) (by rfl) ?_
      refine X.gU (by rfl) (by rfl) (by rfl) ?_
      refine X.gU (by rfl) (by rfl) (by rfl) ?_
      refine X.gU (by rfl) (by rfl) (by rfl) ?_
      refine X.gU (by rfl) (by rfl) (by rfl) ?_
      refine X.gU (by rfl) (by rfl) (by rfl) ?_
      refine X.gU (by rfl) (by rfl) (by rfl) ?_
      refine X.gno (by rfl) (by rfl) (by first | rfl | assumption | simp_all) (by rfl) ?_
      refine X.pickF (by rfl) (by first | rfl | assumption | simp_all) (by rfl) (by rfl) ?_
      refine X.assign (by rfl) (by rfl) ?_
      cases h
      exact X.endG (by repeat (first | exact trivial | refine ⟨by rfl, ?_⟩ | refine ⟨by simp [setL], ?_⟩)) (by repeat (first | exact trivial | refine ⟨by rfl, ?_⟩ | refine ⟨by simp [setL], ?_⟩)) (by rfl) (by rfl)
  replace h := h2; clear h2
  cases h
  refine R.fin1 Try.results46 (by rfl) (by rfl) ?_
  rfl
theorem w_FnExactLineOk_pc (b0 : TProject) (b1 : TLine) (r : Bool) (h : w_FnExactLineOk b0 b1 = some r) : PC Try.prog 9 [eTProject b0, eTLine b1] (bool r) := by
  unfold w_FnExactLineOk at h
  refine PC.start Try.func9 Try.ntmps9 rfl ok9 rfl ?_
  refine Run.seq ?_
  refine Run.reg ?_
  refine X.box (by rfl) (by rfl) (by repeat (first | exact trivial | refine ⟨by rfl, ?_⟩ | refine ⟨by simp [setL], ?_⟩)) (by rfl) (by rfl) (by rfl) (by rfl) ?_
  refine X.box (by rfl) (by rfl) (by repeat (first | exact trivial | refine ⟨by rfl, ?_⟩ | refine ⟨by simp [setL], ?_⟩)) (by rfl) (by rfl) (by rfl) (by rfl) ?_
  refine X.assign (by rfl) (by rfl) ?_
  refine X.nil ?_
  refine Run.seq ?_
  refine Run.reg ?_
  refine X.assign (by rfl) (by rfl) ?_
  refine X.nil ?_
  refine Run.seq ?_
  refine Run.reg ?_
  refine X.load_l shp27 (by rfl) (by rfl) (by rfl) (by rfl) (by rfl) (by rfl) ?_
  refine X.move (by rfl) (by rfl) ?_
  obtain ⟨v1, hv1, h⟩ := bindE h
  refine X.callP (w_szProject_pc _ _ _ hv1) (by rfl) (by rfl) (by rfl) (by repeat (first | exact trivial | refine ⟨by rfl, ?_⟩ | refine ⟨by simp [setL], ?_⟩)) (by rfl) (by rfl) (by rfl) (by rfl) ?_
  refine X.assign (by rfl) (by rfl) ?_
  refine X.nil ?_
  refine Run.seq ?_
  refine Run.seq ?_
  refine Run.reg ?_
  refine X.move (by rfl) (by rfl) ?_
  refine X.bin (by rfl) (by rfl) (by rfl) (by rfl) (by intro h; cases h) (by rfl) ?_
  refine X.nil ?_
  refine R.cond (by rfl) (fun hc2 => ?_) (fun hc2 => ?_)
  · replace h := condT hc2 h
    refine Run.seq ?_
    refine Run.reg ?_
    refine X.assign (by rfl) (by rfl) ?_
    refine X.nil ?_
    cases h
    refine R.fin1 Try.results9 (by rfl) (by rfl) ?_
    rfl
  · replace h := condF hc2 h
    refine Run.skip ?_
    refine Run.seq ?_
    refine Run.reg ?_
    refine X.load_l shp80 (by rfl) (by rfl) (by rfl) (by rfl) (by rfl) (by rfl) ?_
    refine X.move (by rfl) (by rfl) ?_
    obtain ⟨v3, hv3, h⟩ := bindE h
    refine X.callP (w_szLine_pc _ _ _ hv3) (by rfl) (by rfl) (by rfl) (by repeat (first | exact trivial | refine ⟨by rfl, ?_⟩ | refine ⟨by simp [setL], ?_⟩)) (by rfl) (by rfl) (by rfl) (by rfl) ?_
    refine X.assign (by rfl) (by rfl) ?_
    refine X.nil ?_
    refine Run.seq ?_
    refine Run.seq ?_
    refine Run.reg ?_
    refine X.move (by rfl) (by rfl) ?_
    refine X.bin (by rfl) (by rfl) (by rfl) (by rfl) (by intro h; cases h) (by rfl) ?_
    refine X.nil ?_
    refine R.cond (by rfl) (fun hc4 => ?_) (fun hc4 => ?_)
    · replace h := condT hc4 h
      refine Run.seq ?_
      refine Run.reg ?_
      refine X.assign (by rfl) (by rfl) ?_
      refine X.nil ?_
      cases h
      refine R.fin1 Try.results9 (by rfl) (by rfl) ?_
      rfl
    · replace h := condF hc4 h
      refine Run.skip ?_
      refine Run.seq ?_
      refine Run.draw (footOf [(0, ([128], [])), (1, ([], [1344, 1345, 1346, 1347])), (2, ([192], [])), (3, ([], [1472])), (4, ([1344, 1345, 1346, 1347, 1472], []))]) mixed (by kernel_rfl) (by kernel_rfl) ?_
      refine X.load_l shp27 (by rfl) (by rfl) (by rfl) (by rfl) (by rfl) (by rfl) ?_
      obtain ⟨v5, hv5, h⟩ := bindE h
      refine X.callA (w_toProject_pc _ _ hv5) (by rfl) (by rfl) (by rfl) (by repeat (first | exact trivial | refine ⟨by rfl, ?_⟩ | refine ⟨by simp [setL], ?_⟩)) (by rfl) (by rfl) (by rfl) (by rfl) (by rfl) (by rfl) ?_
      refine X.load_l shp80 (by rfl) (by rfl) (by rfl) (by rfl) (by rfl) (by rfl) ?_
      obtain ⟨v6, hv6, h⟩ := bindE h
      refine X.callA (w_toLine_pc _ _ hv6) (by rfl) (by rfl) (by rfl) (by repeat (first | exact trivial | refine ⟨by rfl, ?_⟩ | refine ⟨by simp [setL], ?_⟩)) (by rfl) (by rfl) (by rfl) (by rfl) (by rfl) (by rfl) ?_
      obtain ⟨v7, hv7, h⟩ := bindE h
      refine X.callP (s_LineOk_pc _ _ _ hv7) (by rfl) (by rfl) (by rfl) (by repeat (first | exact trivial | refine ⟨by rfl, ?_⟩ | refine ⟨by simp [setL], ?_⟩)) (by rfl) (by rfl) (by rfl) (by rfl) ?_
      refine X.assign (by rfl) (by rfl) ?_
      refine X.nil ?_
      refine Run.seq ?_
      refine Run.reg ?_
      refine X.load_l shp27 (by rfl) (by rfl) (by rfl) (by rfl) (by rfl) (by rfl) ?_
      obtain ⟨v8, hv8, h⟩ := bindE h
      refine X.callA (w_toProject_pc _ _ hv8) (by rfl) (by rfl) (by rfl) (by repeat (first | exact trivial | refine ⟨by rfl, ?_⟩ | refine ⟨by simp [setL], ?_⟩)) (by rfl) (by rfl) (by rfl) (by rfl) (by rfl) (by rfl) ?_
      refine X.alloc zer34 (by rfl) (by rfl) (by rfl) ?_
      refine X.store_l shp34 (by rfl) (by rfl) (by rfl) (by rfl) (by repeat (first | exact trivial | refine ⟨by rfl, ?_⟩ | refine ⟨by simp [setL], ?_⟩)) (by rfl) (by rfl) (by rfl) ?_
      refine X.nil ?_
      refine Run.seq ?_
      refine Run.reg ?_
      refine X.load_l shp80 (by rfl) (by rfl) (by rfl) (by rfl) (by rfl) (by rfl) ?_
      obtain ⟨v9, hv9, h⟩ := bindE h
      refine X.callA (w_toLine_pc _ _ hv9) (by rfl) (by rfl) (by rfl) (by repeat (first | exact trivial | refine ⟨by rfl, ?_⟩ | refine ⟨by simp [setL], ?_⟩)) (by rfl) (by rfl) (by rfl) (by rfl) (by rfl) (by rfl) ?_
      refine X.alloc zer85 (by rfl) (by rfl) (by rfl) ?_
      refine X.store_l shp85 (by rfl) (by rfl) (by rfl) (by rfl) (by repeat (first | exact trivial | refine ⟨by rfl, ?_⟩ | refine ⟨by simp [setL], ?_⟩)) (by rfl) (by rfl) (by rfl) ?_
      refine X.nil ?_
      refine Run.seq ?_
      refine Run.reg ?_
      refine X.load_l shp34 (by rfl) (by rfl) (by rfl) (by rfl) (by rfl) (by rfl) ?_
      refine X.load_l shp85 (by rfl) (by rfl) (by rfl) (by rfl) (by rfl) (by rfl) ?_
      obtain ⟨v10, hv10, h⟩ := bindE h
      refine X.callP (i_LineOk_pc _ _ _ hv10) (by rfl) (by rfl) (by rfl) (by repeat (first | exact trivial | refine ⟨by rfl, ?_⟩ | refine ⟨by simp [setL], ?_⟩)) (by rfl) (by rfl) (by rfl) (by rfl) ?_
      refine X.assign (by rfl) (by rfl) ?_
      refine X.nil ?_
      refine Run.seq ?_
      refine Run.seq ?_
      refine Run.reg ?_
      refine X.move (by rfl) (by rfl) ?_
      refine X.move (by rfl) (by rfl) ?_
      refine X.neqBool Try.underlying4 (by rfl) (by rfl) (by rfl) ?_
      refine X.nil ?_
      refine R.cond (by rfl) (fun hc11 => ?_) (fun hc11 => ?_)
      · replace h := condT hc11 h
        refine Run.seq ?_
        refine Run.reg ?_
        refine X.assign (by rfl) (by rfl) ?_
        refine X.nil ?_
        cases h
        refine R.fin1 Try.results9 (by rfl) (by rfl) ?_
        rfl
      · replace h := condF hc11 h
        refine Run.skip ?_
        refine Run.seq ?_
        refine Run.seq ?_
        refine Run.draw (footOf [(0, ([448], [])), (1, ([128], [])), (2, ([], [2368, 2369, 2370, 2371])), (3, ([1664, 1665, 1666, 1667, 2368, 2369, 2370, 2371], []))]) mixed (by kernel_rfl) (by kernel_rfl) ?_
        refine X.load_l shp34 (by rfl) (by rfl) (by rfl) (by rfl) (by rfl) (by rfl) ?_
        refine X.load_l shp27 (by rfl) (by rfl) (by rfl) (by rfl) (by rfl) (by rfl) ?_
        obtain ⟨v12, hv12, h⟩ := bindE h
        refine X.callA (w_toProject_pc _ _ hv12) (by rfl) (by rfl) (by rfl) (by repeat (first | exact trivial | refine ⟨by rfl, ?_⟩ | refine ⟨by simp [setL], ?_⟩)) (by rfl) (by rfl) (by rfl) (by rfl) (by rfl) (by rfl) ?_
        obtain ⟨v13, hv13, h⟩ := bindE h
        refine X.callP (w_eqProject_pc _ _ _ hv13) (by rfl) (by rfl) (by rfl) (by repeat (first | exact trivial | refine ⟨by rfl, ?_⟩ | refine ⟨by simp [setL], ?_⟩)) (by rfl) (by rfl) (by rfl) (by rfl) ?_
        refine X.un (by rfl) (by rfl) (by rfl) ?_
        refine X.nil ?_
        refine R.cond (by rfl) (fun hc14 => ?_) (fun hc14 => ?_)
        · replace h := condT hc14 h
          refine Run.seq ?_
          refine Run.reg ?_
          refine X.assign (by rfl) (by rfl) ?_
          refine X.nil ?_
          cases h
          refine R.fin1 Try.results9 (by rfl) (by rfl) ?_
          rfl
        · replace h := condF hc14 h
          refine Run.skip ?_
          refine Run.seq ?_
          refine Run.seq ?_
          refine Run.draw (footOf [(0, ([512], [])), (1, ([192], [])), (2, ([], [2688])), (3, ([1792, 2688], []))]) mixed (by kernel_rfl) (by kernel_rfl) ?_
          refine X.load_l shp85 (by rfl) (by rfl) (by rfl) (by rfl) (by rfl) (by rfl) ?_
          refine X.load_l shp80 (by rfl) (by rfl) (by rfl) (by rfl) (by rfl) (by rfl) ?_
          obtain ⟨v15, hv15, h⟩ := bindE h
          refine X.callA (w_toLine_pc _ _ hv15) (by rfl) (by rfl) (by rfl) (by repeat (first | exact trivial | refine ⟨by rfl, ?_⟩ | refine ⟨by simp [setL], ?_⟩)) (by rfl) (by rfl) (by rfl) (by rfl) (by rfl) (by rfl) ?_
          obtain ⟨v16, hv16, h⟩ := bindE h
          refine X.callP (w_eqLine_pc _ _ _ hv16) (by rfl) (by rfl) (by rfl) (by repeat (first | exact trivial | refine ⟨by rfl, ?_⟩ | refine ⟨by simp [setL], ?_⟩)) (by rfl) (by rfl) (by rfl) (by rfl) ?_
          refine X.un (by rfl) (by rfl) (by rfl) ?_
          refine X.nil ?_
          refine R.cond (by rfl) (fun hc17 => ?_) (fun hc17 => ?_)
          · replace h := condT hc17 h
            refine Run.seq ?_
            refine Run.reg ?_
            refine X.assign (by rfl) (by rfl) ?_
            refine X.nil ?_
            cases h
            refine R.fin1 Try.results9 (by rfl) (by rfl) ?_
            rfl
          · replace h := condF hc17 h
            refine Run.skip ?_
            refine Run.seq ?_
            refine Run.reg ?_
            refine X.assign (by rfl) (by rfl) ?_
            refine X.nil ?_
            cases h
            refine R.fin1 Try.results9 (by rfl) (by rfl) ?_
            rfl
end Go.Px.Ytjncefleglnnjaa
