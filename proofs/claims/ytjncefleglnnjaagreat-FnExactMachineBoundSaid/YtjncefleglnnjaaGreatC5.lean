/-
  PROVED: contracts of functions of the program over pure values. No condition beyond those that each theorem names.
-/
import Derived.Test.YtjncefleglnnjaaGreatProg
import Derived.Test.YtjncefleglnnjaaGreatD1
import Derived.Test.YtjncefleglnnjaaGreatC2
import Derived.Test.YtjncefleglnnjaaGreatC3
import Derived.Test.YtjncefleglnnjaaGreatC4
namespace Go.Px.YtjncefleglnnjaaGreat
set_option linter.unusedSimpArgs false
set_option linter.unusedVariables false
open Go.Px Go.Proofs
theorem ok16 : okFn Tryz.prog 16 = true := by kernel_rfl
theorem w_FnExactMachineBound_pc (b0 : TProject) (b1 : TDomain) (b2 : Int) (r : Bool) (h : w_FnExactMachineBound b0 b1 b2 = some r) : PC Tryz.prog 16 [eTProject b0, eTDomain b1, int b2] (bool r) := by
  unfold w_FnExactMachineBound at h
  refine PC.start Tryz.func16 Tryz.ntmps16 rfl ok16 rfl ?_
  refine Run.sr ?_
  refine X.box (by rfl) (by rfl) (by repeat (first | trivial | refine ⟨by first | rfl | simp [setL], ?_⟩)) (by rfl) (by rfl) (by rfl) (by rfl) ?_
  refine X.box (by rfl) (by rfl) (by repeat (first | trivial | refine ⟨by first | rfl | simp [setL], ?_⟩)) (by rfl) (by rfl) (by rfl) (by rfl) ?_
  refine X.an ?_
  refine Run.sr ?_
  refine X.an ?_
  refine Run.sr ?_
  refine X.ld shp69 ?_
  refine X.mv ?_
  obtain ⟨v1, hv1, h⟩ := bindE h
  refine X.callP (w_szProject_pc _ _ _ hv1) (by rfl) (by rfl) (by rfl) (by trivial) (by rfl) (by rfl) (by rfl) (by rfl) ?_
  refine X.an ?_
  refine Run.seq ?_
  refine Run.sr ?_
  refine X.mv ?_
  refine X.bi ?_
  refine X.nil ?_
  refine R.cond (by rfl) (fun hc2 => ?_) (fun hc2 => ?_)
  · replace h := condT hc2 h
    refine Run.sr ?_
    refine X.an ?_
    cases h
    refine R.fin1 Tryz.results16 (by rfl) (by rfl) ?_
    rfl
  · replace h := condF hc2 h
    refine Run.skip ?_
    refine Run.sr ?_
    refine X.ld shp70 ?_
    refine X.mv ?_
    obtain ⟨v3, hv3, h⟩ := bindE h
    refine X.callP (w_szDomain_pc _ _ _ hv3) (by rfl) (by rfl) (by rfl) (by trivial) (by rfl) (by rfl) (by rfl) (by rfl) ?_
    refine X.an ?_
    refine Run.seq ?_
    refine Run.sr ?_
    refine X.mv ?_
    refine X.bi ?_
    refine X.nil ?_
    refine R.cond (by rfl) (fun hc4 => ?_) (fun hc4 => ?_)
    · replace h := condT hc4 h
      refine Run.sr ?_
      refine X.an ?_
      cases h
      refine R.fin1 Tryz.results16 (by rfl) (by rfl) ?_
      rfl
    · replace h := condF hc4 h
      refine Run.skip ?_
      refine Run.seq ?_
      refine Run.draw (footOf [(0, ([192], [], [], [])), (1, ([], [1472, 1473, 1474, 1475], [], [])), (2, ([256], [], [], [])), (3, ([], [1600, 1601, 1602], [], [])), (5, ([1472, 1473, 1474, 1475, 1600, 1601, 1602], [], [], []))]) mixed (by kernel_rfl) (by kernel_rfl) ?_
      refine X.ld shp69 ?_
      obtain ⟨v5, hv5, h⟩ := bindE h
      refine X.callA (PC.ofY (ps := [eTProject b0]) (w_toProject_pc _ _ hv5) (by rfl) (by rfl)) (by rfl) (by rfl) (by rfl) (by trivial) (by rfl) (by rfl) (by rfl) (by rfl) (by rfl) (by rfl) ?_
      refine X.ld shp70 ?_
      obtain ⟨v6, hv6, h⟩ := bindE h
      refine X.callA (PC.ofY (ps := [eTDomain b1]) (w_toDomain_pc _ _ hv6) (by rfl) (by rfl)) (by rfl) (by rfl) (by rfl) (by trivial) (by rfl) (by rfl) (by rfl) (by rfl) (by rfl) (by rfl) ?_
      refine X.mv ?_
      obtain ⟨v7, hv7, h⟩ := bindE h
      refine X.callP (s_MachineBound_pc _ _ _ _ hv7) (by rfl) (by rfl) (by rfl) (by repeat (first | trivial | refine ⟨by first | rfl | simp [setL], ?_⟩)) (by rfl) (by rfl) (by rfl) (by rfl) ?_
      refine X.an ?_
      refine Run.sr ?_
      refine X.ld shp69 ?_
      obtain ⟨v8, hv8, h⟩ := bindE h
      refine X.callA (PC.ofY (ps := [eTProject b0]) (w_toProject_pc _ _ hv8) (by rfl) (by rfl)) (by rfl) (by rfl) (by rfl) (by trivial) (by rfl) (by rfl) (by rfl) (by rfl) (by rfl) (by rfl) ?_
      refine X.alloc zer28 (by rfl) (by rfl) (by rfl) ?_
      refine X.store_l shp28 (by rfl) (by rfl) (by rfl) (by rfl) (by repeat (first | trivial | refine ⟨by first | rfl | simp [setL], ?_⟩)) (by rfl) (by rfl) (by rfl) ?_
      refine X.nil ?_
      refine Run.sr ?_
      refine X.ld shp70 ?_
      obtain ⟨v9, hv9, h⟩ := bindE h
      refine X.callA (PC.ofY (ps := [eTDomain b1]) (w_toDomain_pc _ _ hv9) (by rfl) (by rfl)) (by rfl) (by rfl) (by rfl) (by trivial) (by rfl) (by rfl) (by rfl) (by rfl) (by rfl) (by rfl) ?_
      refine X.alloc zer32 (by rfl) (by rfl) (by rfl) ?_
      refine X.store_l shp32 (by rfl) (by rfl) (by rfl) (by rfl) (by repeat (first | trivial | refine ⟨by first | rfl | simp [setL], ?_⟩)) (by rfl) (by rfl) (by rfl) ?_
      refine X.nil ?_
      refine Run.sr ?_
      refine X.ld shp28 ?_
      refine X.ld shp32 ?_
      refine X.mv ?_
      obtain ⟨v10, hv10, h⟩ := bindE h
      refine X.callP (i_MachineBound_pc _ _ _ _ hv10) (by rfl) (by rfl) (by rfl) (by repeat (first | trivial | refine ⟨by first | rfl | simp [setL], ?_⟩)) (by rfl) (by rfl) (by rfl) (by rfl) ?_
      refine X.an ?_
      refine Run.seq ?_
      refine Run.sr ?_
      refine X.mv ?_
      refine X.mv ?_
      refine X.bi ?_
      refine X.nil ?_
      refine R.cond (by rfl) (fun hc11 => ?_) (fun hc11 => ?_)
      · replace h := condT hc11 h
        refine Run.sr ?_
        refine X.an ?_
        cases h
        refine R.fin1 Tryz.results16 (by rfl) (by rfl) ?_
        rfl
      · replace h := condF hc11 h
        refine Run.skip ?_
        refine Run.seq ?_
        refine Run.seq ?_
        refine Run.draw (footOf [(0, ([576], [], [], [])), (1, ([192], [], [], [])), (2, ([], [2624, 2625, 2626, 2627], [], [])), (3, ([1856, 1857, 1858, 1859, 2624, 2625, 2626, 2627], [], [], []))]) mixed (by kernel_rfl) (by kernel_rfl) ?_
        refine X.ld shp28 ?_
        refine X.ld shp69 ?_
        obtain ⟨v12, hv12, h⟩ := bindE h
        refine X.callA (PC.ofY (ps := [eTProject b0]) (w_toProject_pc _ _ hv12) (by rfl) (by rfl)) (by rfl) (by rfl) (by rfl) (by trivial) (by rfl) (by rfl) (by rfl) (by rfl) (by rfl) (by rfl) ?_
        obtain ⟨v13, hv13, h⟩ := bindE h
        refine X.callP (w_eqProject_pc _ _ _ hv13) (by rfl) (by rfl) (by rfl) (by repeat (first | trivial | refine ⟨by first | rfl | simp [setL], ?_⟩)) (by rfl) (by rfl) (by rfl) (by rfl) ?_
        refine X.un (by rfl) (by rfl) (by rfl) ?_
        refine X.nil ?_
        refine R.cond (by rfl) (fun hc14 => ?_) (fun hc14 => ?_)
        · replace h := condT hc14 h
          refine Run.sr ?_
          refine X.an ?_
          cases h
          refine R.fin1 Tryz.results16 (by rfl) (by rfl) ?_
          rfl
        · replace h := condF hc14 h
          refine Run.skip ?_
          refine Run.seq ?_
          refine Run.seq ?_
          refine Run.draw (footOf [(0, ([640], [], [], [])), (1, ([256], [], [], [])), (2, ([], [2944, 2945, 2946], [], [])), (3, ([1984, 1985, 1986, 2944, 2945, 2946], [], [], []))]) mixed (by kernel_rfl) (by kernel_rfl) ?_
          refine X.ld shp32 ?_
          refine X.ld shp70 ?_
          obtain ⟨v15, hv15, h⟩ := bindE h
          refine X.callA (PC.ofY (ps := [eTDomain b1]) (w_toDomain_pc _ _ hv15) (by rfl) (by rfl)) (by rfl) (by rfl) (by rfl) (by trivial) (by rfl) (by rfl) (by rfl) (by rfl) (by rfl) (by rfl) ?_
          obtain ⟨v16, hv16, h⟩ := bindE h
          refine X.callP (w_eqDomain_pc _ _ _ hv16) (by rfl) (by rfl) (by rfl) (by repeat (first | trivial | refine ⟨by first | rfl | simp [setL], ?_⟩)) (by rfl) (by rfl) (by rfl) (by rfl) ?_
          refine X.un (by rfl) (by rfl) (by rfl) ?_
          refine X.nil ?_
          refine R.cond (by rfl) (fun hc17 => ?_) (fun hc17 => ?_)
          · replace h := condT hc17 h
            refine Run.sr ?_
            refine X.an ?_
            cases h
            refine R.fin1 Tryz.results16 (by rfl) (by rfl) ?_
            rfl
          · replace h := condF hc17 h
            refine Run.skip ?_
            refine Run.sr ?_
            refine X.an ?_
            cases h
            refine R.fin1 Tryz.results16 (by rfl) (by rfl) ?_
            rfl
end Go.Px.YtjncefleglnnjaaGreat
