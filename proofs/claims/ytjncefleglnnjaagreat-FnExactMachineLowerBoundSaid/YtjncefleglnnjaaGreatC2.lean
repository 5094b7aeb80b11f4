/-
  PROVED: contracts of functions of the program over pure values. No condition beyond those that each theorem names.
-/
import Derived.Test.YtjncefleglnnjaaGreatProg
import Derived.Test.YtjncefleglnnjaaGreatD1
import Derived.Test.YtjncefleglnnjaaGreatC1
namespace Go.Px.YtjncefleglnnjaaGreat
set_option linter.unusedSimpArgs false
set_option linter.unusedVariables false
open Go.Px Go.Proofs
theorem slices_IndexFunc_Link_pc (b0 : List TLink) (g1 : TLink → Option Bool) (g1id : Nat) (g1c : List PV) (hg1 : ∀ (x0 : TLink) v, g1 x0 = some v → PC Tryz.prog g1id ([eTLink x0] ++ g1c) (bool v)) (r : Int) (h : slices_IndexFunc_Link b0 g1 = some r) : PC Tryz.prog 307 [.slice (b0.map eTLink), .fn g1id g1c] (int r) := by
  unfold slices_IndexFunc_Link at h
  refine PC.start Tryz.func307 Tryz.ntmps307 rfl ok307 rfl ?_
  refine Run.sr ?_
  refine X.an ?_
  refine Run.seq ?_
  refine Run.sr ?_
  refine X.mv ?_
  refine X.len_s elt24 (by rfl) (by exact List.length_map ..) (by rfl) ?_
  refine X.mn ?_
  obtain ⟨o1, ho1, h⟩ := bindE h
  refine R.join2 (β := Unit) [] [] (fun p14 S => S) (fun p14 M => M) (fun p14 => (Sum.inl p14) = o1) ?_ ?_
  · intro JJ4 hmeet3
    have hup2 := h; clear h; have h := ho1; clear ho1
    refine Run.block ?_
    refine R.bndS (t := 0) (by rfl) (fun hbd7 => ?_)
    replace hbd7 : b0.length ≤ 9223372036854775807 := by first | (rw [List.length_map] at hbd7; exact hbd7) | simp
    refine R.loop2 (β := Int) [(0, .slice (b0.map eTLink)), (1, .fn g1id g1c), (7, int (b0.length : Int))] [] (fun bb S => (8, int bb) :: S) (fun bb M => M) (fun n bb => 0 ≤ bb ∧ bb + n = (b0.length : Int) ∧ slices_IndexFunc_Link_L1 g1 (b0.drop bb.toNat) bb = some o1) b0.length (0 : Int) (by repeat (first | trivial | refine ⟨by first | rfl | simp [setL], ?_⟩)) (by repeat (first | trivial | refine ⟨by first | rfl | simp [setL], ?_⟩)) (by rfl) (by rfl) ⟨Int.le_refl _, by simp, h⟩ ?_
    clear h
    rintro JJ7 n7 z8 hag7 ⟨hza7, hzb7, h⟩
    refine Run.sr ?_
    refine X.bi ?_
    refine X.nil ?_
    refine Run.seq ?_
    refine R.cond (by rfl) (fun hc11 => ?_) (fun hc11 => ?_)
    · obtain ⟨x9, xs10, hd7, hx7, hds7, hlt7⟩ := drop_atI hza7 hc11
      rw [hd7] at h
      rw [slices_IndexFunc_Link_L1] at h
      refine Run.skip ?_
      refine Run.seq ?_
      refine Run.block ?_
      refine Run.sr ?_
      refine X.mv ?_
      refine X.an ?_
      refine Run.sr ?_
      refine X.mv ?_
      refine X.mv ?_
      refine X.mv ?_
      refine X.index_s elt24 (by rfl) (by rfl) (idxL_spec hx7).1 (idxL_map eTLink hx7) (by rfl) (by rfl) (by rfl) ?_
      refine X.load_c shp167 (by rfl) (by rfl) (by rfl) (by rfl) ?_
      obtain ⟨v12, hv12, h⟩ := bindE h
      refine X.callP (hg1 _ _ hv12) (by rfl) (by rfl) (by rfl) (by trivial) (by rfl) (by rfl) (by rfl) (by rfl) ?_
      refine X.nil ?_
      refine R.cond (by rfl) (fun hc13 => ?_) (fun hc13 => ?_)
      · replace h := condT hc13 h
        refine Run.sr ?_
        refine X.mv ?_
        refine X.an ?_
        cases h
        have h := hup2
        replace h := elimR h
        cases h
        refine R.fin1 Tryz.results307 (by rfl) (by rfl) ?_
        rfl
      · replace h := condF hc13 h
        refine Run.skip ?_
        refine Run.blk ?_
        refine Run.reg ?_
        refine X.add (by rfl) (by rfl) (by omega) (by rfl) ?_
        refine X.mn ?_
        exact hag7 (n7 - 1) (z8 + 1) _ _ (by omega) ⟨by first | omega | (dsimp only; omega), by first | omega | (dsimp only; omega), by first | (rw [hds7]; exact h) | (dsimp only; rw [hds7]; exact h)⟩ (by trivial) (by trivial) (by rfl) (by rfl)
    · rw [drop_endI hza7 hc11] at h
      rw [slices_IndexFunc_Link_L1] at h
      refine Run.exit (by rfl) ?_
      exact hmeet3 () _ _ (Option.some.inj h) (by trivial) (by trivial) (by rfl) (by rfl)
  rintro p14 rfl
  replace h := elimL h
  refine Run.sr ?_
  refine X.an ?_
  cases h
  refine R.fin1 Tryz.results307 (by rfl) (by rfl) ?_
  rfl
theorem slices_ContainsFunc_Link_pc (b0 : List TLink) (g1 : TLink → Option Bool) (g1id : Nat) (g1c : List PV) (hg1 : ∀ (x0 : TLink) v, g1 x0 = some v → PC Tryz.prog g1id ([eTLink x0] ++ g1c) (bool v)) (r : Bool) (h : slices_ContainsFunc_Link b0 g1 = some r) : PC Tryz.prog 248 [.slice (b0.map eTLink), .fn g1id g1c] (bool r) := by
  unfold slices_ContainsFunc_Link at h
  refine PC.start Tryz.func248 Tryz.ntmps248 rfl ok248 rfl ?_
  refine Run.sr ?_
  refine X.an ?_
  refine Run.sr ?_
  refine X.mv ?_
  refine X.mv ?_
  obtain ⟨v1, hv1, h⟩ := bindE h
  refine X.callP (slices_IndexFunc_Link_pc _ g1 _ _ hg1 _ hv1) (by rfl) (by rfl) (by rfl) (by trivial) (by rfl) (by rfl) (by rfl) (by rfl) ?_
  refine X.bi ?_
  refine X.an ?_
  cases h
  refine R.fin1 Tryz.results248 (by rfl) (by rfl) ?_
  rfl
theorem i_ProjectOk_pc (b0 : TProject) (r : Bool) (h : i_ProjectOk b0 = some r) : PC Tryz.prog 133 [eTProject b0] (bool r) := by
  unfold i_ProjectOk at h
  refine PC.start Tryz.func133 Tryz.ntmps133 rfl ok133 rfl ?_
  refine Run.sr ?_
  refine X.box (by rfl) (by rfl) (by repeat (first | trivial | refine ⟨by first | rfl | simp [setL], ?_⟩)) (by rfl) (by rfl) (by rfl) (by rfl) ?_
  refine X.an ?_
  refine Run.seq ?_
  refine Run.seq ?_
  obtain ⟨v1, hv1, h⟩ := bindE h
  obtain ⟨e2, he2, h2⟩ := bindE h
  refine R.regG [(1, .lptr 64 0), (37, bool e2)] [(64, .blk true [int b0.Deadline, .slice (b0.Activities.map eTActivity), .slice (b0.Links.map eTLink), .slice (b0.Resources.map eTResource), .slice (b0.Stocks.map int)])] ?_ ?_
  · clear h; have h := he2; clear he2 h2
    refine X.fieldAddr_l fld28_0 (by rfl) (by rfl) ?_
    refine X.ld shp3 ?_
    refine X.callP (i_within_pc _ _ _ _ hv1) (by rfl) (by rfl) (by rfl) (by trivial) (by rfl) (by rfl) (by rfl) (by rfl) ?_
    refine X.un (by rfl) (by rfl) (by rfl) ?_
    refine X.mv ?_
    refine X.ifG (by rfl) (by rfl) (by rfl) (fun hb3 => ?_) (fun hb3 => ?_)
    · replace h := condF hb3 h
      refine X.fieldAddr_l fld28_1 (by rfl) (by rfl) ?_
      refine X.gy ?_
      refine X.ld shp23 ?_
      refine X.gy ?_
      refine X.len_s elt23 (by rfl) (by exact List.length_map ..) (by rfl) ?_
      refine X.gy ?_
      obtain ⟨v4, hv4, h⟩ := bindE h
      refine X.callP (i_within_pc _ _ _ _ hv4) (by rfl) (by rfl) (by rfl) (by trivial) (by rfl) (by rfl) (by rfl) (by rfl) ?_
      refine X.gy ?_
      refine X.un (by rfl) (by rfl) (by rfl) ?_
      refine X.pickF (by rfl) (by first | rfl | assumption) (by rfl) (by rfl) ?_
      refine X.mv ?_
      refine X.ifG (by rfl) (by rfl) (by rfl) (fun hb5 => ?_) (fun hb5 => ?_)
      · replace h := condF hb5 h
        refine X.fieldAddr_l fld28_3 (by rfl) (by rfl) ?_
        refine X.gy ?_
        refine X.ld shp25 ?_
        refine X.gy ?_
        refine X.len_s elt25 (by rfl) (by exact List.length_map ..) (by rfl) ?_
        refine X.gy ?_
        refine X.bi ?_
        refine X.pickF (by rfl) (by first | rfl | assumption) (by rfl) (by rfl) ?_
        refine X.mv ?_
        refine X.ifG (by rfl) (by rfl) (by rfl) (fun hb6 => ?_) (fun hb6 => ?_)
        · replace h := condF hb6 h
          refine X.fieldAddr_l fld28_4 (by rfl) (by rfl) ?_
          refine X.gy ?_
          refine X.ld shp26 ?_
          refine X.gy ?_
          refine X.len_s elt26 (by rfl) (by exact List.length_map ..) (by rfl) ?_
          refine X.gy ?_
          refine X.bi ?_
          refine X.pickF (by rfl) (by first | rfl | assumption) (by rfl) (by rfl) ?_
          refine X.mv ?_
          refine X.ifG (by rfl) (by rfl) (by rfl) (fun hb7 => ?_) (fun hb7 => ?_)
          · replace h := condF hb7 h
            refine X.fieldAddr_l fld28_2 (by rfl) (by rfl) ?_
            refine X.gy ?_
            refine X.ld shp24 ?_
            refine X.gy ?_
            refine X.len_s elt24 (by rfl) (by exact List.length_map ..) (by rfl) ?_
            refine X.gy ?_
            refine X.bi ?_
            refine X.pickF (by rfl) (by first | rfl | assumption) (by rfl) (by rfl) ?_
            cases h
            exact X.endG (by trivial) (by trivial) (by rfl) (by rfl)
          · replace h := condT hb7 h
            refine X.gn ?_
            refine X.gn ?_
            refine X.gn ?_
            refine X.pickT (by rfl) (by first | rfl | assumption) (by rfl) (by rfl) ?_
            cases h
            exact X.endG (by trivial) (by trivial) (by rfl) (by rfl)
        · replace h := condT hb6 h
          refine X.gn ?_
          refine X.gn ?_
          refine X.gn ?_
          refine X.pickT (by rfl) (by first | rfl | assumption) (by rfl) (by rfl) ?_
          refine X.mv ?_
          refine X.gn ?_
          refine X.gn ?_
          refine X.gn ?_
          refine X.gn ?_
          refine X.pickT (by rfl) (by first | rfl | assumption) (by rfl) (by rfl) ?_
          cases h
          exact X.endG (by trivial) (by trivial) (by rfl) (by rfl)
      · replace h := condT hb5 h
        refine X.gn ?_
        refine X.gn ?_
        refine X.gn ?_
        refine X.pickT (by rfl) (by first | rfl | assumption) (by rfl) (by rfl) ?_
        refine X.mv ?_
        refine X.gn ?_
        refine X.gn ?_
        refine X.gn ?_
        refine X.gn ?_
        refine X.pickT (by rfl) (by first | rfl | assumption) (by rfl) (by rfl) ?_
        refine X.mv ?_
        refine X.gn ?_
        refine X.gn ?_
        refine X.gn ?_
        refine X.gn ?_
        refine X.pickT (by rfl) (by first | rfl | assumption) (by rfl) (by rfl) ?_
        cases h
        exact X.endG (by trivial) (by trivial) (by rfl) (by rfl)
    · replace h := condT hb3 h
      refine X.gn ?_
      refine X.gn ?_
      refine X.gn ?_
      refine X.gn ?_
      refine X.pickT (by rfl) (by first | rfl | assumption) (by rfl) (by rfl) ?_
      refine X.mv ?_
      refine X.gn ?_
      refine X.gn ?_
      refine X.gn ?_
      refine X.gn ?_
      refine X.pickT (by rfl) (by first | rfl | assumption) (by rfl) (by rfl) ?_
      refine X.mv ?_
      refine X.gn ?_
      refine X.gn ?_
      refine X.gn ?_
      refine X.gn ?_
      refine X.pickT (by rfl) (by first | rfl | assumption) (by rfl) (by rfl) ?_
      refine X.mv ?_
      refine X.gn ?_
      refine X.gn ?_
      refine X.gn ?_
      refine X.gn ?_
      refine X.pickT (by rfl) (by first | rfl | assumption) (by rfl) (by rfl) ?_
      cases h
      exact X.endG (by trivial) (by trivial) (by rfl) (by rfl)
  replace h := h2; clear h2
  refine R.cond (by rfl) (fun hc8 => ?_) (fun hc8 => ?_)
  · replace h := condT hc8 h
    refine Run.sr ?_
    refine X.an ?_
    cases h
    refine R.fin1 Tryz.results133 (by rfl) (by rfl) ?_
    rfl
  · replace h := condF hc8 h
    refine Run.skip ?_
    refine Run.seq ?_
    refine Run.sr ?_
    refine X.fieldAddr_l fld28_1 (by rfl) (by rfl) ?_
    refine X.ld shp23 ?_
    refine X.len_s elt23 (by rfl) (by exact List.length_map ..) (by rfl) ?_
    refine X.mn ?_
    obtain ⟨o9, ho9, h⟩ := bindE h
    refine R.join2 (β := Unit) [(1, .lptr 64 0)] [(64, .blk true [int b0.Deadline, .slice (b0.Activities.map eTActivity), .slice (b0.Links.map eTLink), .slice (b0.Resources.map eTResource), .slice (b0.Stocks.map int)])] (fun p25 S => S) (fun p25 M => M) (fun p25 => (Sum.inl p25) = o9) ?_ ?_
    · intro JJ12 hmeet11
      have hup10 := h; clear h; have h := ho9; clear ho9
      refine Run.block ?_
      refine R.bndS (t := 39) (by rfl) (fun hbd15 => ?_)
      replace hbd15 : b0.Activities.length ≤ 9223372036854775807 := by first | (rw [List.length_map] at hbd15; exact hbd15) | simp
      refine R.loop2 (β := Int) [(1, .lptr 64 0), (39, .slice (b0.Activities.map eTActivity)), (40, int (b0.Activities.length : Int))] [(64, .blk true [int b0.Deadline, .slice (b0.Activities.map eTActivity), .slice (b0.Links.map eTLink), .slice (b0.Resources.map eTResource), .slice (b0.Stocks.map int)])] (fun bb S => (41, int bb) :: S) (fun bb M => M) (fun n bb => 0 ≤ bb ∧ bb + n = (b0.Activities.length : Int) ∧ i_ProjectOk_L1 b0 (b0.Activities.drop bb.toNat) bb = some o9) b0.Activities.length (0 : Int) (by repeat (first | trivial | refine ⟨by first | rfl | simp [setL], ?_⟩)) (by repeat (first | trivial | refine ⟨by first | rfl | simp [setL], ?_⟩)) (by rfl) (by rfl) ⟨Int.le_refl _, by simp, h⟩ ?_
      clear h
      rintro JJ15 n15 z16 hag15 ⟨hza15, hzb15, h⟩
      refine Run.sr ?_
      refine X.bi ?_
      refine X.nil ?_
      refine Run.seq ?_
      refine R.cond (by rfl) (fun hc19 => ?_) (fun hc19 => ?_)
      · obtain ⟨x17, xs18, hd15, hx15, hds15, hlt15⟩ := drop_atI hza15 hc19
        rw [hd15] at h
        rw [i_ProjectOk_L1] at h
        refine Run.skip ?_
        refine Run.seq ?_
        refine Run.block ?_
        refine Run.sr ?_
        refine X.mv ?_
        refine X.index_s elt23 (by rfl) (by rfl) (idxL_spec hx15).1 (idxL_map eTActivity hx15) (by rfl) (by rfl) (by rfl) ?_
        refine X.load_c shp50 (by rfl) (by rfl) (by rfl) (by rfl) ?_
        refine X.alloc zer50 (by rfl) (by rfl) (by rfl) ?_
        refine X.as ?_
        refine X.store_l shp50 (by rfl) (by rfl) (by rfl) (by rfl) (by repeat (first | trivial | refine ⟨by first | rfl | simp [setL], ?_⟩)) (by rfl) (by rfl) (by rfl) ?_
        refine X.nil ?_
        refine Run.seq ?_
        obtain ⟨v20, hv20, h⟩ := bindE h
        obtain ⟨e21, he21, h2⟩ := bindE h
        refine R.regG [(1, .lptr 64 0), (39, .slice (b0.Activities.map eTActivity)), (40, int (b0.Activities.length : Int)), (41, int z16), (62, bool e21)] [(64, .blk true [int b0.Deadline, .slice (b0.Activities.map eTActivity), .slice (b0.Links.map eTLink), .slice (b0.Resources.map eTResource), .slice (b0.Stocks.map int)])] ?_ ?_
        · clear h; have h := he21; clear he21 h2
          refine X.ld shp50 ?_
          refine X.fieldAddr_l fld28_3 (by rfl) (by rfl) ?_
          refine X.ld shp25 ?_
          refine X.len_s elt25 (by rfl) (by exact List.length_map ..) (by rfl) ?_
          refine X.fieldAddr_l fld28_4 (by rfl) (by rfl) ?_
          refine X.ld shp26 ?_
          refine X.len_s elt26 (by rfl) (by exact List.length_map ..) (by rfl) ?_
          refine X.callP (i_ActivityOk_pc _ _ _ _ hv20) (by rfl) (by rfl) (by rfl) (by trivial) (by rfl) (by rfl) (by rfl) (by rfl) ?_
          refine X.un (by rfl) (by rfl) (by rfl) ?_
          refine X.mv ?_
          refine X.ifG (by rfl) (by rfl) (by rfl) (fun hb22 => ?_) (fun hb22 => ?_)
          · replace h := condF hb22 h
            refine X.ld shp28 ?_
            refine X.gy ?_
            refine X.fieldAddr_l fld50_0 (by rfl) (by rfl) ?_
            refine X.gy ?_
            refine X.ld shp9 ?_
            refine X.gy ?_
            obtain ⟨v23, hv23, h⟩ := bindE h
            refine X.callP (i_ActivityIndex_pc _ _ _ hv23) (by rfl) (by rfl) (by rfl) (by trivial) (by rfl) (by rfl) (by rfl) (by rfl) ?_
            refine X.gy ?_
            refine X.mv ?_
            refine X.gy ?_
            refine X.bi ?_
            refine X.pickF (by rfl) (by first | rfl | assumption) (by rfl) (by rfl) ?_
            cases h
            exact X.endG (by trivial) (by trivial) (by rfl) (by rfl)
          · replace h := condT hb22 h
            refine X.gn ?_
            refine X.gn ?_
            refine X.gn ?_
            refine X.gn ?_
            refine X.gn ?_
            refine X.pickT (by rfl) (by first | rfl | assumption) (by rfl) (by rfl) ?_
            cases h
            exact X.endG (by trivial) (by trivial) (by rfl) (by rfl)
        replace h := h2; clear h2
        refine R.cond (by rfl) (fun hc24 => ?_) (fun hc24 => ?_)
        · replace h := condT hc24 h
          refine Run.sr ?_
          refine X.an ?_
          cases h
          have h := hup10
          replace h := elimR h
          cases h
          refine R.fin1 Tryz.results133 (by rfl) (by rfl) ?_
          rfl
        · replace h := condF hc24 h
          refine Run.skip ?_
          refine Run.blk ?_
          refine Run.reg ?_
          refine X.add (by rfl) (by rfl) (by omega) (by rfl) ?_
          refine X.mn ?_
          exact hag15 (n15 - 1) (z16 + 1) _ _ (by omega) ⟨by first | omega | (dsimp only; omega), by first | omega | (dsimp only; omega), by first | (rw [hds15]; exact h) | (dsimp only; rw [hds15]; exact h)⟩ (by trivial) (by trivial) (by rfl) (by rfl)
      · rw [drop_endI hza15 hc19] at h
        rw [i_ProjectOk_L1] at h
        refine Run.exit (by rfl) ?_
        exact hmeet11 () _ _ (Option.some.inj h) (by trivial) (by trivial) (by rfl) (by rfl)
    rintro p25 rfl
    replace h := elimL h
    refine Run.seq ?_
    refine Run.sr ?_
    refine X.fieldAddr_l fld28_3 (by rfl) (by rfl) ?_
    refine X.ld shp25 ?_
    refine X.len_s elt25 (by rfl) (by exact List.length_map ..) (by rfl) ?_
    refine X.mn ?_
    obtain ⟨o27, ho27, h⟩ := bindE h
    refine R.join2 (β := Unit) [(1, .lptr 64 0)] [(64, .blk true [int b0.Deadline, .slice (b0.Activities.map eTActivity), .slice (b0.Links.map eTLink), .slice (b0.Resources.map eTResource), .slice (b0.Stocks.map int)])] (fun p40 S => S) (fun p40 M => M) (fun p40 => (Sum.inl p40) = o27) ?_ ?_
    · intro JJ30 hmeet29
      have hup28 := h; clear h; have h := ho27; clear ho27
      refine Run.block ?_
      refine R.bndS (t := 65) (by rfl) (fun hbd33 => ?_)
      replace hbd33 : b0.Resources.length ≤ 9223372036854775807 := by first | (rw [List.length_map] at hbd33; exact hbd33) | simp
      refine R.loop2 (β := Int) [(1, .lptr 64 0), (65, .slice (b0.Resources.map eTResource)), (66, int (b0.Resources.length : Int))] [(64, .blk true [int b0.Deadline, .slice (b0.Activities.map eTActivity), .slice (b0.Links.map eTLink), .slice (b0.Resources.map eTResource), .slice (b0.Stocks.map int)])] (fun bb S => (67, int bb) :: S) (fun bb M => M) (fun n bb => 0 ≤ bb ∧ bb + n = (b0.Resources.length : Int) ∧ i_ProjectOk_L2 (b0.Resources.drop bb.toNat) bb = some o27) b0.Resources.length (0 : Int) (by repeat (first | trivial | refine ⟨by first | rfl | simp [setL], ?_⟩)) (by repeat (first | trivial | refine ⟨by first | rfl | simp [setL], ?_⟩)) (by rfl) (by rfl) ⟨Int.le_refl _, by simp, h⟩ ?_
      clear h
      rintro JJ33 n33 z34 hag33 ⟨hza33, hzb33, h⟩
      refine Run.sr ?_
      refine X.bi ?_
      refine X.nil ?_
      refine Run.seq ?_
      refine R.cond (by rfl) (fun hc37 => ?_) (fun hc37 => ?_)
      · obtain ⟨x35, xs36, hd33, hx33, hds33, hlt33⟩ := drop_atI hza33 hc37
        rw [hd33] at h
        rw [i_ProjectOk_L2] at h
        refine Run.skip ?_
        refine Run.seq ?_
        refine Run.block ?_
        refine Run.sr ?_
        refine X.index_s elt25 (by rfl) (by rfl) (idxL_spec hx33).1 (idxL_map eTResource hx33) (by rfl) (by rfl) (by rfl) ?_
        refine X.load_c shp64 (by rfl) (by rfl) (by rfl) (by rfl) ?_
        refine X.alloc zer64 (by rfl) (by rfl) (by rfl) ?_
        refine X.store_l shp64 (by rfl) (by rfl) (by rfl) (by rfl) (by repeat (first | trivial | refine ⟨by first | rfl | simp [setL], ?_⟩)) (by rfl) (by rfl) (by rfl) ?_
        refine X.nil ?_
        refine Run.sr ?_
        refine X.ld shp64 ?_
        obtain ⟨v38, hv38, h⟩ := bindE h
        refine X.callP (i_ResourceOk_pc _ _ hv38) (by rfl) (by rfl) (by rfl) (by trivial) (by rfl) (by rfl) (by rfl) (by rfl) ?_
        refine X.un (by rfl) (by rfl) (by rfl) ?_
        refine X.nil ?_
        refine R.cond (by rfl) (fun hc39 => ?_) (fun hc39 => ?_)
        · replace h := condT hc39 h
          refine Run.sr ?_
          refine X.an ?_
          cases h
          have h := hup28
          replace h := elimR h
          cases h
          refine R.fin1 Tryz.results133 (by rfl) (by rfl) ?_
          rfl
        · replace h := condF hc39 h
          refine Run.skip ?_
          refine Run.blk ?_
          refine Run.reg ?_
          refine X.add (by rfl) (by rfl) (by omega) (by rfl) ?_
          refine X.mn ?_
          exact hag33 (n33 - 1) (z34 + 1) _ _ (by omega) ⟨by first | omega | (dsimp only; omega), by first | omega | (dsimp only; omega), by first | (rw [hds33]; exact h) | (dsimp only; rw [hds33]; exact h)⟩ (by trivial) (by trivial) (by rfl) (by rfl)
      · rw [drop_endI hza33 hc37] at h
        rw [i_ProjectOk_L2] at h
        refine Run.exit (by rfl) ?_
        exact hmeet29 () _ _ (Option.some.inj h) (by trivial) (by trivial) (by rfl) (by rfl)
    rintro p40 rfl
    replace h := elimL h
    refine Run.seq ?_
    refine Run.sr ?_
    refine X.fieldAddr_l fld28_4 (by rfl) (by rfl) ?_
    refine X.ld shp26 ?_
    refine X.len_s elt26 (by rfl) (by exact List.length_map ..) (by rfl) ?_
    refine X.mn ?_
    obtain ⟨o42, ho42, h⟩ := bindE h
    refine R.join2 (β := Unit) [(1, .lptr 64 0)] [(64, .blk true [int b0.Deadline, .slice (b0.Activities.map eTActivity), .slice (b0.Links.map eTLink), .slice (b0.Resources.map eTResource), .slice (b0.Stocks.map int)])] (fun p55 S => S) (fun p55 M => M) (fun p55 => (Sum.inl p55) = o42) ?_ ?_
    · intro JJ45 hmeet44
      have hup43 := h; clear h; have h := ho42; clear ho42
      refine Run.block ?_
      refine R.bndS (t := 76) (by rfl) (fun hbd48 => ?_)
      replace hbd48 : b0.Stocks.length ≤ 9223372036854775807 := by first | (rw [List.length_map] at hbd48; exact hbd48) | simp
      refine R.loop2 (β := Int) [(1, .lptr 64 0), (76, .slice (b0.Stocks.map int)), (77, int (b0.Stocks.length : Int))] [(64, .blk true [int b0.Deadline, .slice (b0.Activities.map eTActivity), .slice (b0.Links.map eTLink), .slice (b0.Resources.map eTResource), .slice (b0.Stocks.map int)])] (fun bb S => (78, int bb) :: S) (fun bb M => M) (fun n bb => 0 ≤ bb ∧ bb + n = (b0.Stocks.length : Int) ∧ i_ProjectOk_L3 (b0.Stocks.drop bb.toNat) bb = some o42) b0.Stocks.length (0 : Int) (by repeat (first | trivial | refine ⟨by first | rfl | simp [setL], ?_⟩)) (by repeat (first | trivial | refine ⟨by first | rfl | simp [setL], ?_⟩)) (by rfl) (by rfl) ⟨Int.le_refl _, by simp, h⟩ ?_
      clear h
      rintro JJ48 n48 z49 hag48 ⟨hza48, hzb48, h⟩
      refine Run.sr ?_
      refine X.bi ?_
      refine X.nil ?_
      refine Run.seq ?_
      refine R.cond (by rfl) (fun hc52 => ?_) (fun hc52 => ?_)
      · obtain ⟨x50, xs51, hd48, hx48, hds48, hlt48⟩ := drop_atI hza48 hc52
        rw [hd48] at h
        rw [i_ProjectOk_L3] at h
        refine Run.skip ?_
        refine Run.seq ?_
        refine Run.block ?_
        refine Run.sr ?_
        refine X.index_s elt26 (by rfl) (by rfl) (idxL_spec hx48).1 (idxL_map int hx48) (by rfl) (by rfl) (by rfl) ?_
        refine X.load_c shp3 (by rfl) (by rfl) (by rfl) (by rfl) ?_
        refine X.an ?_
        refine Run.sr ?_
        refine X.mv ?_
        obtain ⟨v53, hv53, h⟩ := bindE h
        refine X.callP (i_within_pc _ _ _ _ hv53) (by rfl) (by rfl) (by rfl) (by trivial) (by rfl) (by rfl) (by rfl) (by rfl) ?_
        refine X.un (by rfl) (by rfl) (by rfl) ?_
        refine X.nil ?_
        refine R.cond (by rfl) (fun hc54 => ?_) (fun hc54 => ?_)
        · replace h := condT hc54 h
          refine Run.sr ?_
          refine X.an ?_
          cases h
          have h := hup43
          replace h := elimR h
          cases h
          refine R.fin1 Tryz.results133 (by rfl) (by rfl) ?_
          rfl
        · replace h := condF hc54 h
          refine Run.skip ?_
          refine Run.blk ?_
          refine Run.reg ?_
          refine X.add (by rfl) (by rfl) (by omega) (by rfl) ?_
          refine X.mn ?_
          exact hag48 (n48 - 1) (z49 + 1) _ _ (by omega) ⟨by first | omega | (dsimp only; omega), by first | omega | (dsimp only; omega), by first | (rw [hds48]; exact h) | (dsimp only; rw [hds48]; exact h)⟩ (by trivial) (by trivial) (by rfl) (by rfl)
      · rw [drop_endI hza48 hc52] at h
        rw [i_ProjectOk_L3] at h
        refine Run.exit (by rfl) ?_
        exact hmeet44 () _ _ (Option.some.inj h) (by trivial) (by trivial) (by rfl) (by rfl)
    rintro p55 rfl
    replace h := elimL h
    refine Run.seq ?_
    refine R.pubBlk (n := 64) (by rfl) (by rfl) (by repeat (first | trivial | refine ⟨by first | rfl | simp [setL], ?_⟩)) ?_
    refine Run.reg ?_
    refine X.fieldAddr_l fld28_2 (by rfl) (by rfl) ?_
    refine X.ld shp24 ?_
    refine X.makeFunc (by rfl) (by rfl) (by repeat (first | trivial | refine ⟨by first | rfl | simp [setL], ?_⟩)) (by rfl) (by rfl) ?_
    obtain ⟨v57, hv57, h⟩ := bindE h
    refine X.callP (slices_ContainsFunc_Link_pc _ (fun x0 => i_ProjectOk_c1 x0 b0) _ _ (fun x0 v hv => i_ProjectOk_c1_pc _ _ _ hv) _ hv57) (by rfl) (by rfl) (by rfl) (by trivial) (by rfl) (by rfl) (by rfl) (by rfl) ?_
    refine X.un (by rfl) (by rfl) (by rfl) ?_
    refine X.an ?_
    cases h
    refine R.fin1 Tryz.results133 (by rfl) (by rfl) ?_
    rfl
theorem i_isStart_pc (b0 : Int) (r : Bool) (h : i_isStart b0 = some r) : PC Tryz.prog 281 [int b0] (bool r) := by
  unfold i_isStart at h
  refine PC.start Tryz.func281 Tryz.ntmps281 rfl ok281 rfl ?_
  refine Run.sr ?_
  refine X.an ?_
  refine Run.sr ?_
  refine X.mv ?_
  obtain ⟨v1, hv1, h⟩ := bindE h
  refine X.callP (i_within_pc _ _ _ _ hv1) (by rfl) (by rfl) (by rfl) (by trivial) (by rfl) (by rfl) (by rfl) (by rfl) ?_
  refine X.an ?_
  cases h
  refine R.fin1 Tryz.results281 (by rfl) (by rfl) ?_
  rfl
theorem i_SetOk_pc (b0 : List Int) (r : Bool) (h : i_SetOk b0 = some r) : PC Tryz.prog 282 [.slice (b0.map int)] (bool r) := by
  unfold i_SetOk at h
  refine PC.start Tryz.func282 Tryz.ntmps282 rfl ok282 rfl ?_
  refine Run.sr ?_
  refine X.an ?_
  refine Run.seq ?_
  refine Run.sr ?_
  refine X.an ?_
  obtain ⟨o1, ho1, h⟩ := bindE h
  refine R.join2 (β := Unit) [] [] (fun p13 S => S) (fun p13 M => M) (fun p13 => (Sum.inl p13) = o1) ?_ ?_
  · intro JJ4 hmeet3
    have hup2 := h; clear h; have h := ho1; clear ho1
    refine Run.block ?_
    refine R.loop2 (β := Int) [(0, .slice (b0.map int))] [] (fun bb S => (3, int bb) :: S) (fun bb M => M) (fun n bb => i_SetOk_L1 b0 n bb = some o1) F0 1 (by repeat (first | trivial | refine ⟨by first | rfl | simp [setL], ?_⟩)) (by repeat (first | trivial | refine ⟨by first | rfl | simp [setL], ?_⟩)) (by rfl) (by rfl) h ?_
    clear h
    rintro JJ4 n4 a6 hag4 h
    obtain _ | n4 := n4
    · exact absurd h (by simp [i_SetOk_L1])
    rw [i_SetOk_L1] at h
    refine Run.seq ?_
    refine Run.sr ?_
    refine X.mv ?_
    refine X.mv ?_
    refine X.len_s elt26 (by rfl) (by exact List.length_map ..) (by rfl) ?_
    refine X.bi ?_
    refine X.nil ?_
    refine R.cond (by rfl) (fun hc9 => ?_) (fun hc9 => ?_)
    · replace h := condT hc9 h
      refine Run.skip ?_
      refine Run.seq ?_
      refine Run.block ?_
      refine Run.seq ?_
      refine Run.draw (footOf []) mixed (by kernel_rfl) (by kernel_rfl) ?_
      refine X.mv ?_
      refine X.mv ?_
      obtain ⟨v10, hv10, h⟩ := bindE h
      refine X.index_s elt26 (by rfl) (by rfl) (idxL_spec hv10).1 (idxL_map int hv10) (by rfl) (by rfl) (by rfl) ?_
      refine X.load_c shp3 (by rfl) (by rfl) (by rfl) (by rfl) ?_
      refine X.mv ?_
      refine X.mv ?_
      refine X.subW (by rfl) (by rfl) (by rfl) ?_
      obtain ⟨v11, hv11, h⟩ := bindE h
      refine X.index_s elt26 (by rfl) (by rfl) (idxL_spec hv11).1 (idxL_map int hv11) (by rfl) (by rfl) (by rfl) ?_
      refine X.load_c shp3 (by rfl) (by rfl) (by rfl) (by rfl) ?_
      refine X.bi ?_
      refine X.nil ?_
      refine R.cond (by rfl) (fun hc12 => ?_) (fun hc12 => ?_)
      · replace h := condT hc12 h
        refine Run.sr ?_
        refine X.an ?_
        cases h
        have h := hup2
        replace h := elimR h
        cases h
        refine R.fin1 Tryz.results282 (by rfl) (by rfl) ?_
        rfl
      · replace h := condF hc12 h
        refine Run.skip ?_
        refine Run.blk ?_
        refine Run.reg ?_
        refine X.mv ?_
        refine X.addW (by rfl) (by rfl) (by rfl) ?_
        refine X.an ?_
        exact hag4 n4 (W (a6 + 1)) _ _ (by omega) h (by trivial) (by trivial) (by rfl) (by rfl)
    · replace h := condF hc9 h
      refine Run.exit (by rfl) ?_
      exact hmeet3 () _ _ (Option.some.inj h) (by trivial) (by trivial) (by rfl) (by rfl)
  rintro p13 rfl
  replace h := elimL h
  refine Run.sr ?_
  refine X.an ?_
  cases h
  refine R.fin1 Tryz.results282 (by rfl) (by rfl) ?_
  rfl
theorem i_IntRange_pc (b0 : Int) (r : List Int) (h : i_IntRange b0 = some r) : PC Tryz.prog 175 [int b0] (.fresh false 3 1 (r.map int)) := by
  unfold i_IntRange at h
  refine PC.start Tryz.func175 Tryz.ntmps175 rfl ok175 rfl ?_
  refine Run.sr ?_
  refine X.an ?_
  refine Run.seq ?_
  refine Run.sr ?_
  refine X.mv ?_
  obtain ⟨v1, hv1, h⟩ := bindE h
  refine X.callP (i_within_pc _ _ _ _ hv1) (by rfl) (by rfl) (by rfl) (by trivial) (by rfl) (by rfl) (by rfl) (by rfl) ?_
  refine X.un (by rfl) (by rfl) (by rfl) ?_
  refine X.nil ?_
  refine R.cond (by rfl) (fun hc2 => ?_) (fun hc2 => ?_)
  · replace h := condT hc2 h
    refine Run.sr ?_
    refine X.an ?_
    cases h
    refine R.fin1n (x := false) (e := 3) (sz := 1) Tryz.results175 (by rfl) (by decide) ?_
    rfl
  · replace h := condF hc2 h
    refine Run.skip ?_
    refine Run.sr ?_
    refine X.buildSlice false elt26 zer3 (by rfl) (by rfl) (by rfl) (by rfl) (by rfl) (by rfl) (by repeat (first | trivial | refine ⟨by first | rfl | simp [setL], ?_⟩)) (allSz_spec (by rfl)) (by rfl) (by rfl) (by rfl) ?_
    refine X.an ?_
    refine Run.seq ?_
    refine Run.sr ?_
    refine X.mv ?_
    refine X.mn ?_
    obtain ⟨o3, ho3, h⟩ := bindE h
    refine R.join2 (β := (List Int)) [] [] (fun p15 S => (3, .own 512 (p15.map int).length) :: S) (fun p15 M => (512, .obj false 3 1 (p15.map int)) :: M) (fun p15 => p15 = o3) ?_ ?_
    · intro JJ6 hmeet5
      have hup4 := h; clear h; have h := ho3; clear ho3
      refine Run.block ?_
      refine R.loop2 (β := Int × (List Int)) [(9, int b0)] [] (fun bb S => (3, .own 512 (bb.2.map int).length) :: (10, int bb.1) :: S) (fun bb M => (512, .obj false 3 1 (bb.2.map int)) :: M) (fun n bb => i_IntRange_L1 b0 n bb.1 bb.2 = some o3) F0 (0, ([] : List Int)) (by repeat (first | trivial | refine ⟨by first | rfl | simp [setL], ?_⟩)) (by repeat (first | trivial | refine ⟨by first | rfl | simp [setL], ?_⟩)) (by rfl) (by rfl) h ?_
      clear h
      rintro JJ7 n7 ⟨a9, a10⟩ hag7 h
      dsimp only at h
      obtain _ | n7 := n7
      · exact absurd h (by simp [i_IntRange_L1])
      rw [i_IntRange_L1] at h
      refine Run.sr ?_
      refine X.bi ?_
      refine X.nil ?_
      refine Run.seq ?_
      refine R.cond (by rfl) (fun hc13 => ?_) (fun hc13 => ?_)
      · replace h := condT hc13 h
        refine Run.skip ?_
        refine Run.seq ?_
        refine Run.block ?_
        refine Run.sr ?_
        refine X.mv ?_
        refine X.an ?_
        refine Run.reg ?_
        refine X.mv ?_
        refine X.mv ?_
        refine X.buildSlice false elt26 zer3 (by rfl) (by rfl) (by rfl) (by rfl) (by rfl) (by rfl) (by repeat (first | trivial | refine ⟨by first | rfl | simp [setL], ?_⟩)) (allSz_spec (by rfl)) (by rfl) (by rfl) (by rfl) ?_
        obtain ⟨v14, hv14, h⟩ := bindE h
        refine X.append elt26 zer3 (by rfl) (by rfl) (by first | rfl | simp [setL] | omega) (by rfl) (.own _ _ _ _ _ _ (look_mem (by rfl)) (by first | rfl | simp [setL] | omega)) (allSz_spec (by rfl)) (appL_len int hv14) (appL_map int hv14) (by rfl) (by rfl) (by rfl) (by rfl) ?_
        refine X.an ?_
        refine Run.blk ?_
        refine Run.reg ?_
        refine X.addW (by rfl) (by rfl) (by rfl) ?_
        refine X.mn ?_
        exact hag7 n7 ((W (a9 + 1)), v14) _ _ (by omega) h (by repeat (first | trivial | refine ⟨by first | rfl | simp [setL], ?_⟩)) (by repeat (first | trivial | refine ⟨by first | rfl | simp [setL], ?_⟩)) (by rfl) (by rfl)
      · replace h := condF hc13 h
        refine Run.exit (by rfl) ?_
        exact hmeet5 a10 _ _ (Option.some.inj h) (by repeat (first | trivial | refine ⟨by first | rfl | simp [setL], ?_⟩)) (by repeat (first | trivial | refine ⟨by first | rfl | simp [setL], ?_⟩)) (by rfl) (by rfl)
    rintro p15 rfl
    refine Run.sr ?_
    refine X.mv ?_
    refine X.an ?_
    cases h
    refine R.fin1o Tryz.results175 (by rfl) (by rfl) (by first | rfl | simp [setL] | omega) ?_
    rfl
theorem i_ModeIndexes_pc (b0 : TActivity) (r : List Int) (h : i_ModeIndexes b0 = some r) : PC Tryz.prog 166 [eTActivity b0] (.fresh false 3 1 (r.map int)) := by
  unfold i_ModeIndexes at h
  refine PC.start Tryz.func166 Tryz.ntmps166 rfl ok166 rfl ?_
  refine Run.sr ?_
  refine X.box (by rfl) (by rfl) (by repeat (first | trivial | refine ⟨by first | rfl | simp [setL], ?_⟩)) (by rfl) (by rfl) (by rfl) (by rfl) ?_
  refine X.an ?_
  refine Run.sr ?_
  refine X.fieldAddr_l fld50_2 (by rfl) (by rfl) ?_
  refine X.ld shp48 ?_
  refine X.len_s elt48 (by rfl) (by exact List.length_map ..) (by rfl) ?_
  obtain ⟨v1, hv1, h⟩ := bindE h
  refine X.callF (i_IntRange_pc _ _ hv1) (by rfl) (by rfl) (by rfl) (by trivial) (by rfl) (by rfl) (by rfl) (by rfl) ?_
  refine X.an ?_
  cases h
  refine R.fin1o Tryz.results166 (by rfl) (by rfl) (by first | rfl | simp [setL] | omega) ?_
  rfl
theorem slices_Index_int_pc (b0 : List Int) (b1 : Int) (r : Int) (h : slices_Index_int b0 b1 = some r) : PC Tryz.prog 232 [.slice (b0.map int), int b1] (int r) := by
  unfold slices_Index_int at h
  refine PC.start Tryz.func232 Tryz.ntmps232 rfl ok232 rfl ?_
  refine Run.sr ?_
  refine X.an ?_
  refine Run.seq ?_
  refine Run.sr ?_
  refine X.mv ?_
  refine X.len_s elt26 (by rfl) (by exact List.length_map ..) (by rfl) ?_
  refine X.mn ?_
  obtain ⟨o1, ho1, h⟩ := bindE h
  refine R.join2 (β := Unit) [] [] (fun p13 S => S) (fun p13 M => M) (fun p13 => (Sum.inl p13) = o1) ?_ ?_
  · intro JJ4 hmeet3
    have hup2 := h; clear h; have h := ho1; clear ho1
    refine Run.block ?_
    refine R.bndS (t := 0) (by rfl) (fun hbd7 => ?_)
    replace hbd7 : b0.length ≤ 9223372036854775807 := by first | (rw [List.length_map] at hbd7; exact hbd7) | simp
    refine R.loop2 (β := Int) [(0, .slice (b0.map int)), (1, int b1), (7, int (b0.length : Int))] [] (fun bb S => (8, int bb) :: S) (fun bb M => M) (fun n bb => 0 ≤ bb ∧ bb + n = (b0.length : Int) ∧ slices_Index_int_L1 b1 (b0.drop bb.toNat) bb = some o1) b0.length (0 : Int) (by repeat (first | trivial | refine ⟨by first | rfl | simp [setL], ?_⟩)) (by repeat (first | trivial | refine ⟨by first | rfl | simp [setL], ?_⟩)) (by rfl) (by rfl) ⟨Int.le_refl _, by simp, h⟩ ?_
    clear h
    rintro JJ7 n7 z8 hag7 ⟨hza7, hzb7, h⟩
    refine Run.sr ?_
    refine X.bi ?_
    refine X.nil ?_
    refine Run.seq ?_
    refine R.cond (by rfl) (fun hc11 => ?_) (fun hc11 => ?_)
    · obtain ⟨x9, xs10, hd7, hx7, hds7, hlt7⟩ := drop_atI hza7 hc11
      rw [hd7] at h
      rw [slices_Index_int_L1] at h
      refine Run.skip ?_
      refine Run.seq ?_
      refine Run.block ?_
      refine Run.sr ?_
      refine X.mv ?_
      refine X.an ?_
      refine Run.sr ?_
      refine X.mv ?_
      refine X.mv ?_
      refine X.mv ?_
      refine X.index_s elt26 (by rfl) (by rfl) (idxL_spec hx7).1 (idxL_map int hx7) (by rfl) (by rfl) (by rfl) ?_
      refine X.load_c shp3 (by rfl) (by rfl) (by rfl) (by rfl) ?_
      refine X.bi ?_
      refine X.nil ?_
      refine R.cond (by rfl) (fun hc12 => ?_) (fun hc12 => ?_)
      · replace h := condT hc12 h
        refine Run.sr ?_
        refine X.mv ?_
        refine X.an ?_
        cases h
        have h := hup2
        replace h := elimR h
        cases h
        refine R.fin1 Tryz.results232 (by rfl) (by rfl) ?_
        rfl
      · replace h := condF hc12 h
        refine Run.skip ?_
        refine Run.blk ?_
        refine Run.reg ?_
        refine X.add (by rfl) (by rfl) (by omega) (by rfl) ?_
        refine X.mn ?_
        exact hag7 (n7 - 1) (z8 + 1) _ _ (by omega) ⟨by first | omega | (dsimp only; omega), by first | omega | (dsimp only; omega), by first | (rw [hds7]; exact h) | (dsimp only; rw [hds7]; exact h)⟩ (by trivial) (by trivial) (by rfl) (by rfl)
    · rw [drop_endI hza7 hc11] at h
      rw [slices_Index_int_L1] at h
      refine Run.exit (by rfl) ?_
      exact hmeet3 () _ _ (Option.some.inj h) (by trivial) (by trivial) (by rfl) (by rfl)
  rintro p13 rfl
  replace h := elimL h
  refine Run.sr ?_
  refine X.an ?_
  cases h
  refine R.fin1 Tryz.results232 (by rfl) (by rfl) ?_
  rfl
theorem slices_Contains_int_pc (b0 : List Int) (b1 : Int) (r : Bool) (h : slices_Contains_int b0 b1 = some r) : PC Tryz.prog 121 [.slice (b0.map int), int b1] (bool r) := by
  unfold slices_Contains_int at h
  refine PC.start Tryz.func121 Tryz.ntmps121 rfl ok121 rfl ?_
  refine Run.sr ?_
  refine X.an ?_
  refine Run.sr ?_
  refine X.mv ?_
  refine X.mv ?_
  obtain ⟨v1, hv1, h⟩ := bindE h
  refine X.callP (slices_Index_int_pc _ _ _ hv1) (by rfl) (by rfl) (by rfl) (by trivial) (by rfl) (by rfl) (by rfl) (by rfl) ?_
  refine X.bi ?_
  refine X.an ?_
  cases h
  refine R.fin1 Tryz.results121 (by rfl) (by rfl) ?_
  rfl
theorem i_SetHas_pc (b0 : List Int) (b1 : Int) (r : Bool) (h : i_SetHas b0 b1 = some r) : PC Tryz.prog 33 [.slice (b0.map int), int b1] (bool r) := by
  unfold i_SetHas at h
  refine PC.start Tryz.func33 Tryz.ntmps33 rfl ok33 rfl ?_
  refine Run.sr ?_
  refine X.an ?_
  refine Run.sr ?_
  refine X.mv ?_
  refine X.mv ?_
  obtain ⟨v1, hv1, h⟩ := bindE h
  refine X.callP (slices_Contains_int_pc _ _ _ hv1) (by rfl) (by rfl) (by rfl) (by trivial) (by rfl) (by rfl) (by rfl) (by rfl) ?_
  refine X.an ?_
  cases h
  refine R.fin1 Tryz.results33 (by rfl) (by rfl) ?_
  rfl
theorem i_SetSubset_pc (b0 : List Int) (b1 : List Int) (r : Bool) (h : i_SetSubset b0 b1 = some r) : PC Tryz.prog 283 [.slice (b0.map int), .slice (b1.map int)] (bool r) := by
  unfold i_SetSubset at h
  refine PC.start Tryz.func283 Tryz.ntmps283 rfl ok283 rfl ?_
  refine Run.sr ?_
  refine X.an ?_
  refine Run.seq ?_
  refine Run.sr ?_
  refine X.mv ?_
  refine X.len_s elt26 (by rfl) (by exact List.length_map ..) (by rfl) ?_
  refine X.mn ?_
  obtain ⟨o1, ho1, h⟩ := bindE h
  refine R.join2 (β := Unit) [] [] (fun p14 S => S) (fun p14 M => M) (fun p14 => (Sum.inl p14) = o1) ?_ ?_
  · intro JJ4 hmeet3
    have hup2 := h; clear h; have h := ho1; clear ho1
    refine Run.block ?_
    refine R.bndS (t := 0) (by rfl) (fun hbd7 => ?_)
    replace hbd7 : b0.length ≤ 9223372036854775807 := by first | (rw [List.length_map] at hbd7; exact hbd7) | simp
    refine R.loop2 (β := Int) [(1, .slice (b1.map int)), (7, .slice (b0.map int)), (8, int (b0.length : Int))] [] (fun bb S => (9, int bb) :: S) (fun bb M => M) (fun n bb => 0 ≤ bb ∧ bb + n = (b0.length : Int) ∧ i_SetSubset_L1 b1 (b0.drop bb.toNat) bb = some o1) b0.length (0 : Int) (by repeat (first | trivial | refine ⟨by first | rfl | simp [setL], ?_⟩)) (by repeat (first | trivial | refine ⟨by first | rfl | simp [setL], ?_⟩)) (by rfl) (by rfl) ⟨Int.le_refl _, by simp, h⟩ ?_
    clear h
    rintro JJ7 n7 z8 hag7 ⟨hza7, hzb7, h⟩
    refine Run.sr ?_
    refine X.bi ?_
    refine X.nil ?_
    refine Run.seq ?_
    refine R.cond (by rfl) (fun hc11 => ?_) (fun hc11 => ?_)
    · obtain ⟨x9, xs10, hd7, hx7, hds7, hlt7⟩ := drop_atI hza7 hc11
      rw [hd7] at h
      rw [i_SetSubset_L1] at h
      refine Run.skip ?_
      refine Run.seq ?_
      refine Run.block ?_
      refine Run.sr ?_
      refine X.index_s elt26 (by rfl) (by rfl) (idxL_spec hx7).1 (idxL_map int hx7) (by rfl) (by rfl) (by rfl) ?_
      refine X.load_c shp3 (by rfl) (by rfl) (by rfl) (by rfl) ?_
      refine X.an ?_
      refine Run.sr ?_
      refine X.mv ?_
      refine X.mv ?_
      obtain ⟨v12, hv12, h⟩ := bindE h
      refine X.callP (i_SetHas_pc _ _ _ hv12) (by rfl) (by rfl) (by rfl) (by trivial) (by rfl) (by rfl) (by rfl) (by rfl) ?_
      refine X.un (by rfl) (by rfl) (by rfl) ?_
      refine X.nil ?_
      refine R.cond (by rfl) (fun hc13 => ?_) (fun hc13 => ?_)
      · replace h := condT hc13 h
        refine Run.sr ?_
        refine X.an ?_
        cases h
        have h := hup2
        replace h := elimR h
        cases h
        refine R.fin1 Tryz.results283 (by rfl) (by rfl) ?_
        rfl
      · replace h := condF hc13 h
        refine Run.skip ?_
        refine Run.blk ?_
        refine Run.reg ?_
        refine X.add (by rfl) (by rfl) (by omega) (by rfl) ?_
        refine X.mn ?_
        exact hag7 (n7 - 1) (z8 + 1) _ _ (by omega) ⟨by first | omega | (dsimp only; omega), by first | omega | (dsimp only; omega), by first | (rw [hds7]; exact h) | (dsimp only; rw [hds7]; exact h)⟩ (by trivial) (by trivial) (by rfl) (by rfl)
    · rw [drop_endI hza7 hc11] at h
      rw [i_SetSubset_L1] at h
      refine Run.exit (by rfl) ?_
      exact hmeet3 () _ _ (Option.some.inj h) (by trivial) (by trivial) (by rfl) (by rfl)
  rintro p14 rfl
  replace h := elimL h
  refine Run.sr ?_
  refine X.an ?_
  cases h
  refine R.fin1 Tryz.results283 (by rfl) (by rfl) ?_
  rfl
theorem i_DomainForm_pc (b0 : TProject) (b1 : TDomain) (r : Bool) (h : i_DomainForm b0 b1 = some r) : PC Tryz.prog 186 [eTProject b0, eTDomain b1] (bool r) := by
  unfold i_DomainForm at h
  refine PC.start Tryz.func186 Tryz.ntmps186 rfl ok186 rfl ?_
  refine Run.sr ?_
  refine X.box (by rfl) (by rfl) (by repeat (first | trivial | refine ⟨by first | rfl | simp [setL], ?_⟩)) (by rfl) (by rfl) (by rfl) (by rfl) ?_
  refine X.box (by rfl) (by rfl) (by repeat (first | trivial | refine ⟨by first | rfl | simp [setL], ?_⟩)) (by rfl) (by rfl) (by rfl) (by rfl) ?_
  refine X.an ?_
  refine Run.sr ?_
  refine X.fieldAddr_l fld28_1 (by rfl) (by rfl) ?_
  refine X.ld shp23 ?_
  refine X.len_s elt23 (by rfl) (by exact List.length_map ..) (by rfl) ?_
  refine X.an ?_
  refine Run.seq ?_
  refine Run.seq ?_
  obtain ⟨v1, hv1, h⟩ := bindE h
  obtain ⟨e2, he2, h2⟩ := bindE h
  refine R.regG [(2, .lptr 128 0), (3, .lptr 192 0), (34, bool e2)] [(128, .blk true [int b0.Deadline, .slice (b0.Activities.map eTActivity), .slice (b0.Links.map eTLink), .slice (b0.Resources.map eTResource), .slice (b0.Stocks.map int)]), (192, .blk true [.slice (b1.MinStart.map int), .slice (b1.MaxStart.map int), .slice (b1.Modes.map l_int)])] ?_ ?_
  · clear h; have h := he2; clear he2 h2
    refine X.ld shp28 ?_
    refine X.callP (i_ProjectOk_pc _ _ hv1) (by rfl) (by rfl) (by rfl) (by trivial) (by rfl) (by rfl) (by rfl) (by rfl) ?_
    refine X.un (by rfl) (by rfl) (by rfl) ?_
    refine X.mv ?_
    refine X.ifG (by rfl) (by rfl) (by rfl) (fun hb3 => ?_) (fun hb3 => ?_)
    · replace h := condF hb3 h
      refine X.fieldAddr_l fld32_0 (by rfl) (by rfl) ?_
      refine X.gy ?_
      refine X.ld shp26 ?_
      refine X.gy ?_
      refine X.len_s elt26 (by rfl) (by exact List.length_map ..) (by rfl) ?_
      refine X.gy ?_
      refine X.mv ?_
      refine X.gy ?_
      refine X.bi ?_
      refine X.pickF (by rfl) (by first | rfl | assumption) (by rfl) (by rfl) ?_
      refine X.mv ?_
      refine X.ifG (by rfl) (by rfl) (by rfl) (fun hb4 => ?_) (fun hb4 => ?_)
      · replace h := condF hb4 h
        refine X.fieldAddr_l fld32_1 (by rfl) (by rfl) ?_
        refine X.gy ?_
        refine X.ld shp26 ?_
        refine X.gy ?_
        refine X.len_s elt26 (by rfl) (by exact List.length_map ..) (by rfl) ?_
        refine X.gy ?_
        refine X.mv ?_
        refine X.gy ?_
        refine X.bi ?_
        refine X.pickF (by rfl) (by first | rfl | assumption) (by rfl) (by rfl) ?_
        refine X.mv ?_
        refine X.ifG (by rfl) (by rfl) (by rfl) (fun hb5 => ?_) (fun hb5 => ?_)
        · replace h := condF hb5 h
          refine X.fieldAddr_l fld32_2 (by rfl) (by rfl) ?_
          refine X.gy ?_
          refine X.ld shp30 ?_
          refine X.gy ?_
          refine X.len_s elt30 (by rfl) (by exact List.length_map ..) (by rfl) ?_
          refine X.gy ?_
          refine X.mv ?_
          refine X.gy ?_
          refine X.bi ?_
          refine X.pickF (by rfl) (by first | rfl | assumption) (by rfl) (by rfl) ?_
          cases h
          exact X.endG (by trivial) (by trivial) (by rfl) (by rfl)
        · replace h := condT hb5 h
          refine X.gn ?_
          refine X.gn ?_
          refine X.gn ?_
          refine X.gn ?_
          refine X.pickT (by rfl) (by first | rfl | assumption) (by rfl) (by rfl) ?_
          cases h
          exact X.endG (by trivial) (by trivial) (by rfl) (by rfl)
      · replace h := condT hb4 h
        refine X.gn ?_
        refine X.gn ?_
        refine X.gn ?_
        refine X.gn ?_
        refine X.pickT (by rfl) (by first | rfl | assumption) (by rfl) (by rfl) ?_
        refine X.mv ?_
        refine X.gn ?_
        refine X.gn ?_
        refine X.gn ?_
        refine X.gn ?_
        refine X.gn ?_
        refine X.pickT (by rfl) (by first | rfl | assumption) (by rfl) (by rfl) ?_
        cases h
        exact X.endG (by trivial) (by trivial) (by rfl) (by rfl)
    · replace h := condT hb3 h
      refine X.gn ?_
      refine X.gn ?_
      refine X.gn ?_
      refine X.gn ?_
      refine X.pickT (by rfl) (by first | rfl | assumption) (by rfl) (by rfl) ?_
      refine X.mv ?_
      refine X.gn ?_
      refine X.gn ?_
      refine X.gn ?_
      refine X.gn ?_
      refine X.gn ?_
      refine X.pickT (by rfl) (by first | rfl | assumption) (by rfl) (by rfl) ?_
      refine X.mv ?_
      refine X.gn ?_
      refine X.gn ?_
      refine X.gn ?_
      refine X.gn ?_
      refine X.gn ?_
      refine X.pickT (by rfl) (by first | rfl | assumption) (by rfl) (by rfl) ?_
      cases h
      exact X.endG (by trivial) (by trivial) (by rfl) (by rfl)
  replace h := h2; clear h2
  refine R.cond (by rfl) (fun hc6 => ?_) (fun hc6 => ?_)
  · replace h := condT hc6 h
    refine Run.sr ?_
    refine X.an ?_
    cases h
    refine R.fin1 Tryz.results186 (by rfl) (by rfl) ?_
    rfl
  · replace h := condF hc6 h
    refine Run.skip ?_
    refine Run.seq ?_
    refine Run.sr ?_
    refine X.fieldAddr_l fld32_2 (by rfl) (by rfl) ?_
    refine X.ld shp30 ?_
    refine X.len_s elt30 (by rfl) (by exact List.length_map ..) (by rfl) ?_
    refine X.mn ?_
    obtain ⟨o7, ho7, h⟩ := bindE h
    refine R.join2 (β := Unit) [] [] (fun p31 S => S) (fun p31 M => M) (fun p31 => (Sum.inl p31) = o7) ?_ ?_
    · intro JJ10 hmeet9
      have hup8 := h; clear h; have h := ho7; clear ho7
      refine Run.block ?_
      refine R.bndS (t := 36) (by rfl) (fun hbd13 => ?_)
      replace hbd13 : b1.Modes.length ≤ 9223372036854775807 := by first | (rw [List.length_map] at hbd13; exact hbd13) | simp
      refine R.loop2 (β := Int) [(2, .lptr 128 0), (3, .lptr 192 0), (36, .slice (b1.Modes.map l_int)), (37, int (b1.Modes.length : Int))] [(128, .blk true [int b0.Deadline, .slice (b0.Activities.map eTActivity), .slice (b0.Links.map eTLink), .slice (b0.Resources.map eTResource), .slice (b0.Stocks.map int)]), (192, .blk true [.slice (b1.MinStart.map int), .slice (b1.MaxStart.map int), .slice (b1.Modes.map l_int)])] (fun bb S => (38, int bb) :: S) (fun bb M => M) (fun n bb => 0 ≤ bb ∧ bb + n = (b1.Modes.length : Int) ∧ i_DomainForm_L1 b0 b1 (b1.Modes.drop bb.toNat) bb = some o7) b1.Modes.length (0 : Int) (by repeat (first | trivial | refine ⟨by first | rfl | simp [setL], ?_⟩)) (by repeat (first | trivial | refine ⟨by first | rfl | simp [setL], ?_⟩)) (by rfl) (by rfl) ⟨Int.le_refl _, by simp, h⟩ ?_
      clear h
      rintro JJ13 n13 z14 hag13 ⟨hza13, hzb13, h⟩
      refine Run.sr ?_
      refine X.bi ?_
      refine X.nil ?_
      refine Run.seq ?_
      refine R.cond (by rfl) (fun hc17 => ?_) (fun hc17 => ?_)
      · obtain ⟨x15, xs16, hd13, hx13, hds13, hlt13⟩ := drop_atI hza13 hc17
        rw [hd13] at h
        rw [i_DomainForm_L1] at h
        refine Run.skip ?_
        refine Run.seq ?_
        refine Run.block ?_
        refine Run.sr ?_
        refine X.mv ?_
        refine X.index_s elt30 (by rfl) (by rfl) (idxL_spec hx13).1 (idxL_map l_int hx13) (by rfl) (by rfl) (by rfl) ?_
        refine X.load_c shp26 (by rfl) (by rfl) (by rfl) (by rfl) ?_
        refine X.as ?_
        refine X.an ?_
        refine Run.seq ?_
        obtain ⟨v18, hv18, h⟩ := bindE h
        obtain ⟨v19, hv19, h⟩ := bindE h
        obtain ⟨e20, he20, h2⟩ := bindE h
        refine R.regG [(2, .lptr 128 0), (3, .lptr 192 0), (36, .slice (b1.Modes.map l_int)), (37, int (b1.Modes.length : Int)), (38, int z14), (74, bool e20)] [(128, .blk true [int b0.Deadline, .slice (b0.Activities.map eTActivity), .slice (b0.Links.map eTLink), .slice (b0.Resources.map eTResource), .slice (b0.Stocks.map int)]), (192, .blk true [.slice (b1.MinStart.map int), .slice (b1.MaxStart.map int), .slice (b1.Modes.map l_int)])] ?_ ?_
        · clear h; have h := he20; clear he20 h2
          refine X.fieldAddr_l fld32_0 (by rfl) (by rfl) ?_
          refine X.ld shp26 ?_
          refine X.mv ?_
          refine X.index_s elt26 (by rfl) (by rfl) (idxL_spec hv18).1 (idxL_map int hv18) (by rfl) (by rfl) (by rfl) ?_
          refine X.load_c shp3 (by rfl) (by rfl) (by rfl) (by rfl) ?_
          refine X.callP (i_isStart_pc _ _ hv19) (by rfl) (by rfl) (by rfl) (by trivial) (by rfl) (by rfl) (by rfl) (by rfl) ?_
          refine X.un (by rfl) (by rfl) (by rfl) ?_
          refine X.mv ?_
          refine X.ifG (by rfl) (by rfl) (by rfl) (fun hb21 => ?_) (fun hb21 => ?_)
          · replace h := condF hb21 h
            refine X.fieldAddr_l fld32_1 (by rfl) (by rfl) ?_
            refine X.gy ?_
            refine X.ld shp26 ?_
            refine X.gy ?_
            refine X.mv ?_
            refine X.gy ?_
            obtain ⟨v22, hv22, h⟩ := bindE h
            refine X.index_s elt26 (by rfl) (by rfl) (idxL_spec hv22).1 (idxL_map int hv22) (by rfl) (by rfl) (by rfl) ?_
            refine X.gy ?_
            refine X.load_c shp3 (by rfl) (by rfl) (by rfl) (by rfl) ?_
            refine X.gy ?_
            obtain ⟨v23, hv23, h⟩ := bindE h
            refine X.callP (i_isStart_pc _ _ hv23) (by rfl) (by rfl) (by rfl) (by trivial) (by rfl) (by rfl) (by rfl) (by rfl) ?_
            refine X.gy ?_
            refine X.un (by rfl) (by rfl) (by rfl) ?_
            refine X.pickF (by rfl) (by first | rfl | assumption) (by rfl) (by rfl) ?_
            refine X.mv ?_
            refine X.ifG (by rfl) (by rfl) (by rfl) (fun hb24 => ?_) (fun hb24 => ?_)
            · replace h := condF hb24 h
              refine X.mv ?_
              refine X.gy ?_
              obtain ⟨v25, hv25, h⟩ := bindE h
              refine X.callP (i_SetOk_pc _ _ hv25) (by rfl) (by rfl) (by rfl) (by trivial) (by rfl) (by rfl) (by rfl) (by rfl) ?_
              refine X.gy ?_
              refine X.un (by rfl) (by rfl) (by rfl) ?_
              refine X.pickF (by rfl) (by first | rfl | assumption) (by rfl) (by rfl) ?_
              refine X.mv ?_
              refine X.ifG (by rfl) (by rfl) (by rfl) (fun hb26 => ?_) (fun hb26 => ?_)
              · replace h := condF hb26 h
                refine X.mv ?_
                refine X.gy ?_
                refine X.fieldAddr_l fld28_1 (by rfl) (by rfl) ?_
                refine X.gy ?_
                refine X.ld shp23 ?_
                refine X.gy ?_
                refine X.mv ?_
                refine X.gy ?_
                obtain ⟨v27, hv27, h⟩ := bindE h
                refine X.index_s elt23 (by rfl) (by rfl) (idxL_spec hv27).1 (idxL_map eTActivity hv27) (by rfl) (by rfl) (by rfl) ?_
                refine X.gy ?_
                refine X.load_c shp50 (by rfl) (by rfl) (by rfl) (by rfl) ?_
                refine X.gy ?_
                obtain ⟨v28, hv28, h⟩ := bindE h
                refine X.callF (i_ModeIndexes_pc _ _ hv28) (by rfl) (by rfl) (by rfl) (by trivial) (by rfl) (by rfl) (by rfl) (by rfl) ?_
                refine X.gy ?_
                obtain ⟨v29, hv29, h⟩ := bindE h
                refine X.callP (i_SetSubset_pc _ _ _ hv29) (by rfl) (by rfl) (by rfl) (by repeat (first | trivial | refine ⟨by first | rfl | simp [setL], ?_⟩)) (by rfl) (by rfl) (by rfl) (by rfl) ?_
                refine X.gy ?_
                refine X.un (by rfl) (by rfl) (by rfl) ?_
                refine X.pickF (by rfl) (by first | rfl | assumption) (by rfl) (by rfl) ?_
                cases h
                exact X.endG (by repeat (first | trivial | refine ⟨by first | rfl | simp [setL], ?_⟩)) (by repeat (first | trivial | refine ⟨by first | rfl | simp [setL], ?_⟩)) (by rfl) (by rfl)
              · replace h := condT hb26 h
                refine X.gn ?_
                refine X.gn ?_
                refine X.gn ?_
                refine X.gn ?_
                refine X.gn ?_
                refine X.gn ?_
                refine X.gn ?_
                refine X.gn ?_
                refine X.pickT (by rfl) (by first | rfl | assumption) (by rfl) (by rfl) ?_
                cases h
                exact X.endG (by trivial) (by trivial) (by rfl) (by rfl)
            · replace h := condT hb24 h
              refine X.gn ?_
              refine X.gn ?_
              refine X.pickT (by rfl) (by first | rfl | assumption) (by rfl) (by rfl) ?_
              refine X.mv ?_
              refine X.gn ?_
              refine X.gn ?_
              refine X.gn ?_
              refine X.gn ?_
              refine X.gn ?_
              refine X.gn ?_
              refine X.gn ?_
              refine X.gn ?_
              refine X.gn ?_
              refine X.pickT (by rfl) (by first | rfl | assumption) (by rfl) (by rfl) ?_
              cases h
              exact X.endG (by trivial) (by trivial) (by rfl) (by rfl)
          · replace h := condT hb21 h
            refine X.gn ?_
            refine X.gn ?_
            refine X.gn ?_
            refine X.gn ?_
            refine X.gn ?_
            refine X.gn ?_
            refine X.pickT (by rfl) (by first | rfl | assumption) (by rfl) (by rfl) ?_
            refine X.mv ?_
            refine X.gn ?_
            refine X.gn ?_
            refine X.gn ?_
            refine X.pickT (by rfl) (by first | rfl | assumption) (by rfl) (by rfl) ?_
            refine X.mv ?_
            refine X.gn ?_
            refine X.gn ?_
            refine X.gn ?_
            refine X.gn ?_
            refine X.gn ?_
            refine X.gn ?_
            refine X.gn ?_
            refine X.gn ?_
            refine X.gn ?_
            refine X.pickT (by rfl) (by first | rfl | assumption) (by rfl) (by rfl) ?_
            cases h
            exact X.endG (by trivial) (by trivial) (by rfl) (by rfl)
        replace h := h2; clear h2
        refine R.cond (by rfl) (fun hc30 => ?_) (fun hc30 => ?_)
        · replace h := condT hc30 h
          refine Run.sr ?_
          refine X.an ?_
          cases h
          have h := hup8
          replace h := elimR h
          cases h
          refine R.fin1 Tryz.results186 (by rfl) (by rfl) ?_
          rfl
        · replace h := condF hc30 h
          refine Run.skip ?_
          refine Run.blk ?_
          refine Run.reg ?_
          refine X.add (by rfl) (by rfl) (by omega) (by rfl) ?_
          refine X.mn ?_
          exact hag13 (n13 - 1) (z14 + 1) _ _ (by omega) ⟨by first | omega | (dsimp only; omega), by first | omega | (dsimp only; omega), by first | (rw [hds13]; exact h) | (dsimp only; rw [hds13]; exact h)⟩ (by trivial) (by trivial) (by rfl) (by rfl)
      · rw [drop_endI hza13 hc17] at h
        rw [i_DomainForm_L1] at h
        refine Run.exit (by rfl) ?_
        exact hmeet9 () _ _ (Option.some.inj h) (by trivial) (by trivial) (by rfl) (by rfl)
    rintro p31 rfl
    replace h := elimL h
    refine Run.sr ?_
    refine X.an ?_
    cases h
    refine R.fin1 Tryz.results186 (by rfl) (by rfl) ?_
    rfl
theorem slices_IndexFunc__int_pc (b0 : List (List Int)) (g1 : (List Int) → Option Bool) (g1id : Nat) (g1c : List PV) (hg1 : ∀ (x0 : List Int) v, g1 x0 = some v → PC Tryz.prog g1id ([.slice (x0.map int)] ++ g1c) (bool v)) (r : Int) (h : slices_IndexFunc__int b0 g1 = some r) : PC Tryz.prog 322 [.slice (b0.map l_int), .fn g1id g1c] (int r) := by
  unfold slices_IndexFunc__int at h
  refine PC.start Tryz.func322 Tryz.ntmps322 rfl ok322 rfl ?_
  refine Run.sr ?_
  refine X.an ?_
  refine Run.seq ?_
  refine Run.sr ?_
  refine X.mv ?_
  refine X.len_s elt30 (by rfl) (by exact List.length_map ..) (by rfl) ?_
  refine X.mn ?_
  obtain ⟨o1, ho1, h⟩ := bindE h
  refine R.join2 (β := Unit) [] [] (fun p14 S => S) (fun p14 M => M) (fun p14 => (Sum.inl p14) = o1) ?_ ?_
  · intro JJ4 hmeet3
    have hup2 := h; clear h; have h := ho1; clear ho1
    refine Run.block ?_
    refine R.bndS (t := 0) (by rfl) (fun hbd7 => ?_)
    replace hbd7 : b0.length ≤ 9223372036854775807 := by first | (rw [List.length_map] at hbd7; exact hbd7) | simp
    refine R.loop2 (β := Int) [(0, .slice (b0.map l_int)), (1, .fn g1id g1c), (7, int (b0.length : Int))] [] (fun bb S => (8, int bb) :: S) (fun bb M => M) (fun n bb => 0 ≤ bb ∧ bb + n = (b0.length : Int) ∧ slices_IndexFunc__int_L1 g1 (b0.drop bb.toNat) bb = some o1) b0.length (0 : Int) (by repeat (first | trivial | refine ⟨by first | rfl | simp [setL], ?_⟩)) (by repeat (first | trivial | refine ⟨by first | rfl | simp [setL], ?_⟩)) (by rfl) (by rfl) ⟨Int.le_refl _, by simp, h⟩ ?_
    clear h
    rintro JJ7 n7 z8 hag7 ⟨hza7, hzb7, h⟩
    refine Run.sr ?_
    refine X.bi ?_
    refine X.nil ?_
    refine Run.seq ?_
    refine R.cond (by rfl) (fun hc11 => ?_) (fun hc11 => ?_)
    · obtain ⟨x9, xs10, hd7, hx7, hds7, hlt7⟩ := drop_atI hza7 hc11
      rw [hd7] at h
      rw [slices_IndexFunc__int_L1] at h
      refine Run.skip ?_
      refine Run.seq ?_
      refine Run.block ?_
      refine Run.sr ?_
      refine X.mv ?_
      refine X.an ?_
      refine Run.sr ?_
      refine X.mv ?_
      refine X.mv ?_
      refine X.mv ?_
      refine X.index_s elt30 (by rfl) (by rfl) (idxL_spec hx7).1 (idxL_map l_int hx7) (by rfl) (by rfl) (by rfl) ?_
      refine X.load_c shp26 (by rfl) (by rfl) (by rfl) (by rfl) ?_
      obtain ⟨v12, hv12, h⟩ := bindE h
      refine X.callP (hg1 _ _ hv12) (by rfl) (by rfl) (by rfl) (by trivial) (by rfl) (by rfl) (by rfl) (by rfl) ?_
      refine X.nil ?_
      refine R.cond (by rfl) (fun hc13 => ?_) (fun hc13 => ?_)
      · replace h := condT hc13 h
        refine Run.sr ?_
        refine X.mv ?_
        refine X.an ?_
        cases h
        have h := hup2
        replace h := elimR h
        cases h
        refine R.fin1 Tryz.results322 (by rfl) (by rfl) ?_
        rfl
      · replace h := condF hc13 h
        refine Run.skip ?_
        refine Run.blk ?_
        refine Run.reg ?_
        refine X.add (by rfl) (by rfl) (by omega) (by rfl) ?_
        refine X.mn ?_
        exact hag7 (n7 - 1) (z8 + 1) _ _ (by omega) ⟨by first | omega | (dsimp only; omega), by first | omega | (dsimp only; omega), by first | (rw [hds7]; exact h) | (dsimp only; rw [hds7]; exact h)⟩ (by trivial) (by trivial) (by rfl) (by rfl)
    · rw [drop_endI hza7 hc11] at h
      rw [slices_IndexFunc__int_L1] at h
      refine Run.exit (by rfl) ?_
      exact hmeet3 () _ _ (Option.some.inj h) (by trivial) (by trivial) (by rfl) (by rfl)
  rintro p14 rfl
  replace h := elimL h
  refine Run.sr ?_
  refine X.an ?_
  cases h
  refine R.fin1 Tryz.results322 (by rfl) (by rfl) ?_
  rfl
theorem slices_ContainsFunc__int_pc (b0 : List (List Int)) (g1 : (List Int) → Option Bool) (g1id : Nat) (g1c : List PV) (hg1 : ∀ (x0 : List Int) v, g1 x0 = some v → PC Tryz.prog g1id ([.slice (x0.map int)] ++ g1c) (bool v)) (r : Bool) (h : slices_ContainsFunc__int b0 g1 = some r) : PC Tryz.prog 284 [.slice (b0.map l_int), .fn g1id g1c] (bool r) := by
  unfold slices_ContainsFunc__int at h
  refine PC.start Tryz.func284 Tryz.ntmps284 rfl ok284 rfl ?_
  refine Run.sr ?_
  refine X.an ?_
  refine Run.sr ?_
  refine X.mv ?_
  refine X.mv ?_
  obtain ⟨v1, hv1, h⟩ := bindE h
  refine X.callP (slices_IndexFunc__int_pc _ g1 _ _ hg1 _ hv1) (by rfl) (by rfl) (by rfl) (by trivial) (by rfl) (by rfl) (by rfl) (by rfl) ?_
  refine X.bi ?_
  refine X.an ?_
  cases h
  refine R.fin1 Tryz.results284 (by rfl) (by rfl) ?_
  rfl
theorem i_DomainEmpty_c1_pc (b0 : List Int) (r : Bool) (h : i_DomainEmpty_c1 b0 = some r) : PC Tryz.prog 285 [.slice (b0.map int)] (bool r) := by
  unfold i_DomainEmpty_c1 at h
  refine PC.start Tryz.func285 Tryz.ntmps285 rfl ok285 rfl ?_
  refine Run.sr ?_
  refine X.an ?_
  refine Run.sr ?_
  refine X.mv ?_
  refine X.len_s elt26 (by rfl) (by exact List.length_map ..) (by rfl) ?_
  refine X.bi ?_
  refine X.an ?_
  cases h
  refine R.fin1 Tryz.results285 (by rfl) (by rfl) ?_
  rfl
theorem i_DomainEmpty_pc (b0 : TDomain) (r : Bool) (h : i_DomainEmpty b0 = some r) : PC Tryz.prog 187 [eTDomain b0] (bool r) := by
  unfold i_DomainEmpty at h
  refine PC.start Tryz.func187 Tryz.ntmps187 rfl ok187 rfl ?_
  refine Run.sr ?_
  refine X.box (by rfl) (by rfl) (by repeat (first | trivial | refine ⟨by first | rfl | simp [setL], ?_⟩)) (by rfl) (by rfl) (by rfl) (by rfl) ?_
  refine X.an ?_
  refine Run.seq ?_
  refine Run.sr ?_
  refine X.fieldAddr_l fld32_0 (by rfl) (by rfl) ?_
  refine X.ld shp26 ?_
  refine X.len_s elt26 (by rfl) (by exact List.length_map ..) (by rfl) ?_
  refine X.mn ?_
  obtain ⟨o1, ho1, h⟩ := bindE h
  refine R.join2 (β := Unit) [(1, .lptr 64 0)] [(64, .blk true [.slice (b0.MinStart.map int), .slice (b0.MaxStart.map int), .slice (b0.Modes.map l_int)])] (fun p16 S => S) (fun p16 M => M) (fun p16 => (Sum.inl p16) = o1) ?_ ?_
  · intro JJ4 hmeet3
    have hup2 := h; clear h; have h := ho1; clear ho1
    refine Run.block ?_
    refine R.bndS (t := 6) (by rfl) (fun hbd7 => ?_)
    replace hbd7 : b0.MinStart.length ≤ 9223372036854775807 := by first | (rw [List.length_map] at hbd7; exact hbd7) | simp
    refine R.loop2 (β := Int) [(1, .lptr 64 0), (6, .slice (b0.MinStart.map int)), (7, int (b0.MinStart.length : Int))] [(64, .blk true [.slice (b0.MinStart.map int), .slice (b0.MaxStart.map int), .slice (b0.Modes.map l_int)])] (fun bb S => (8, int bb) :: S) (fun bb M => M) (fun n bb => 0 ≤ bb ∧ bb + n = (b0.MinStart.length : Int) ∧ i_DomainEmpty_L1 b0 (b0.MinStart.drop bb.toNat) bb = some o1) b0.MinStart.length (0 : Int) (by repeat (first | trivial | refine ⟨by first | rfl | simp [setL], ?_⟩)) (by repeat (first | trivial | refine ⟨by first | rfl | simp [setL], ?_⟩)) (by rfl) (by rfl) ⟨Int.le_refl _, by simp, h⟩ ?_
    clear h
    rintro JJ7 n7 z8 hag7 ⟨hza7, hzb7, h⟩
    refine Run.sr ?_
    refine X.bi ?_
    refine X.nil ?_
    refine Run.seq ?_
    refine R.cond (by rfl) (fun hc11 => ?_) (fun hc11 => ?_)
    · obtain ⟨x9, xs10, hd7, hx7, hds7, hlt7⟩ := drop_atI hza7 hc11
      rw [hd7] at h
      rw [i_DomainEmpty_L1] at h
      refine Run.skip ?_
      refine Run.seq ?_
      refine Run.block ?_
      refine Run.sr ?_
      refine X.mv ?_
      refine X.index_s elt26 (by rfl) (by rfl) (idxL_spec hx7).1 (idxL_map int hx7) (by rfl) (by rfl) (by rfl) ?_
      refine X.load_c shp3 (by rfl) (by rfl) (by rfl) (by rfl) ?_
      refine X.as ?_
      refine X.an ?_
      refine Run.seq ?_
      obtain ⟨e12, he12, h2⟩ := bindE h
      refine R.regG [(1, .lptr 64 0), (6, .slice (b0.MinStart.map int)), (7, int (b0.MinStart.length : Int)), (8, int z8), (26, bool e12)] [(64, .blk true [.slice (b0.MinStart.map int), .slice (b0.MaxStart.map int), .slice (b0.Modes.map l_int)])] ?_ ?_
      · clear h; have h := he12; clear he12 h2
        refine X.mv ?_
        refine X.fieldAddr_l fld32_1 (by rfl) (by rfl) ?_
        refine X.ld shp26 ?_
        refine X.len_s elt26 (by rfl) (by exact List.length_map ..) (by rfl) ?_
        refine X.bi ?_
        refine X.mv ?_
        refine X.ifG (by rfl) (by rfl) (by rfl) (fun hb13 => ?_) (fun hb13 => ?_)
        · replace h := condT hb13 h
          refine X.mv ?_
          refine X.gy ?_
          refine X.fieldAddr_l fld32_1 (by rfl) (by rfl) ?_
          refine X.gy ?_
          refine X.ld shp26 ?_
          refine X.gy ?_
          refine X.mv ?_
          refine X.gy ?_
          obtain ⟨v14, hv14, h⟩ := bindE h
          refine X.index_s elt26 (by rfl) (by rfl) (idxL_spec hv14).1 (idxL_map int hv14) (by rfl) (by rfl) (by rfl) ?_
          refine X.gy ?_
          refine X.load_c shp3 (by rfl) (by rfl) (by rfl) (by rfl) ?_
          refine X.gy ?_
          refine X.bi ?_
          refine X.pickT (by rfl) (by first | rfl | assumption) (by rfl) (by rfl) ?_
          cases h
          exact X.endG (by trivial) (by trivial) (by rfl) (by rfl)
        · replace h := condF hb13 h
          refine X.gn ?_
          refine X.gn ?_
          refine X.gn ?_
          refine X.gn ?_
          refine X.gn ?_
          refine X.gn ?_
          refine X.pickF (by rfl) (by first | rfl | assumption) (by rfl) (by rfl) ?_
          cases h
          exact X.endG (by trivial) (by trivial) (by rfl) (by rfl)
      replace h := h2; clear h2
      refine R.cond (by rfl) (fun hc15 => ?_) (fun hc15 => ?_)
      · replace h := condT hc15 h
        refine Run.sr ?_
        refine X.an ?_
        cases h
        have h := hup2
        replace h := elimR h
        cases h
        refine R.fin1 Tryz.results187 (by rfl) (by rfl) ?_
        rfl
      · replace h := condF hc15 h
        refine Run.skip ?_
        refine Run.blk ?_
        refine Run.reg ?_
        refine X.add (by rfl) (by rfl) (by omega) (by rfl) ?_
        refine X.mn ?_
        exact hag7 (n7 - 1) (z8 + 1) _ _ (by omega) ⟨by first | omega | (dsimp only; omega), by first | omega | (dsimp only; omega), by first | (rw [hds7]; exact h) | (dsimp only; rw [hds7]; exact h)⟩ (by trivial) (by trivial) (by rfl) (by rfl)
    · rw [drop_endI hza7 hc11] at h
      rw [i_DomainEmpty_L1] at h
      refine Run.exit (by rfl) ?_
      exact hmeet3 () _ _ (Option.some.inj h) (by trivial) (by trivial) (by rfl) (by rfl)
  rintro p16 rfl
  replace h := elimL h
  refine Run.sr ?_
  refine X.fieldAddr_l fld32_2 (by rfl) (by rfl) ?_
  refine X.ld shp30 ?_
  obtain ⟨v18, hv18, h⟩ := bindE h
  refine X.callP (slices_ContainsFunc__int_pc _ (fun x0 => i_DomainEmpty_c1 x0) _ _ (fun x0 v hv => i_DomainEmpty_c1_pc _ _ hv) _ hv18) (by rfl) (by rfl) (by rfl) (by trivial) (by rfl) (by rfl) (by rfl) (by rfl) ?_
  refine X.an ?_
  cases h
  refine R.fin1 Tryz.results187 (by rfl) (by rfl) ?_
  rfl
theorem i_isUsable_pc (b0 : TProject) (b1 : TDomain) (r : Bool) (h : i_isUsable b0 b1 = some r) : PC Tryz.prog 114 [eTProject b0, eTDomain b1] (bool r) := by
  unfold i_isUsable at h
  refine PC.start Tryz.func114 Tryz.ntmps114 rfl ok114 rfl ?_
  refine Run.sr ?_
  refine X.box (by rfl) (by rfl) (by repeat (first | trivial | refine ⟨by first | rfl | simp [setL], ?_⟩)) (by rfl) (by rfl) (by rfl) (by rfl) ?_
  refine X.box (by rfl) (by rfl) (by repeat (first | trivial | refine ⟨by first | rfl | simp [setL], ?_⟩)) (by rfl) (by rfl) (by rfl) (by rfl) ?_
  refine X.an ?_
  refine Run.seq ?_
  obtain ⟨v1, hv1, h⟩ := bindE h
  obtain ⟨e2, he2, h2⟩ := bindE h
  refine R.regG [(4, bool e2)] [] ?_ ?_
  · clear h; have h := he2; clear he2 h2
    refine X.ld shp28 ?_
    refine X.ld shp32 ?_
    refine X.callP (i_DomainForm_pc _ _ _ hv1) (by rfl) (by rfl) (by rfl) (by trivial) (by rfl) (by rfl) (by rfl) (by rfl) ?_
    refine X.mv ?_
    refine X.ifG (by rfl) (by rfl) (by rfl) (fun hb3 => ?_) (fun hb3 => ?_)
    · replace h := condT hb3 h
      refine X.ld shp32 ?_
      refine X.gy ?_
      obtain ⟨v4, hv4, h⟩ := bindE h
      refine X.callP (i_DomainEmpty_pc _ _ hv4) (by rfl) (by rfl) (by rfl) (by trivial) (by rfl) (by rfl) (by rfl) (by rfl) ?_
      refine X.gy ?_
      refine X.un (by rfl) (by rfl) (by rfl) ?_
      refine X.pickT (by rfl) (by first | rfl | assumption) (by rfl) (by rfl) ?_
      refine X.as ?_
      cases h
      exact X.endG (by trivial) (by trivial) (by rfl) (by rfl)
    · replace h := condF hb3 h
      refine X.gn ?_
      refine X.gn ?_
      refine X.pickF (by rfl) (by first | rfl | assumption) (by rfl) (by rfl) ?_
      refine X.as ?_
      cases h
      exact X.endG (by trivial) (by trivial) (by rfl) (by rfl)
  replace h := h2; clear h2
  cases h
  refine R.fin1 Tryz.results114 (by rfl) (by rfl) ?_
  rfl
theorem i_Project_hasResource_pc (b0 : TProject) (b1 : Int) (r : Bool) (h : i_Project_hasResource b0 b1 = some r) : PC Tryz.prog 115 [eTProject b0, int b1] (bool r) := by
  unfold i_Project_hasResource at h
  refine PC.start Tryz.func115 Tryz.ntmps115 rfl ok115 rfl ?_
  refine Run.sr ?_
  refine X.box (by rfl) (by rfl) (by repeat (first | trivial | refine ⟨by first | rfl | simp [setL], ?_⟩)) (by rfl) (by rfl) (by rfl) (by rfl) ?_
  refine X.an ?_
  refine Run.sr ?_
  refine X.mv ?_
  refine X.fieldAddr_l fld28_3 (by rfl) (by rfl) ?_
  refine X.ld shp25 ?_
  refine X.len_s elt25 (by rfl) (by exact List.length_map ..) (by rfl) ?_
  refine X.subW (by rfl) (by rfl) (by rfl) ?_
  obtain ⟨v1, hv1, h⟩ := bindE h
  refine X.callP (i_within_pc _ _ _ _ hv1) (by rfl) (by rfl) (by rfl) (by trivial) (by rfl) (by rfl) (by rfl) (by rfl) ?_
  refine X.an ?_
  cases h
  refine R.fin1 Tryz.results115 (by rfl) (by rfl) ?_
  rfl
theorem i_IsMachine_pc (b0 : TProject) (b1 : Int) (r : Bool) (h : i_IsMachine b0 b1 = some r) : PC Tryz.prog 239 [eTProject b0, int b1] (bool r) := by
  unfold i_IsMachine at h
  refine PC.start Tryz.func239 Tryz.ntmps239 rfl ok239 rfl ?_
  refine Run.sr ?_
  refine X.box (by rfl) (by rfl) (by repeat (first | trivial | refine ⟨by first | rfl | simp [setL], ?_⟩)) (by rfl) (by rfl) (by rfl) (by rfl) ?_
  refine X.an ?_
  refine Run.seq ?_
  obtain ⟨v1, hv1, h⟩ := bindE h
  obtain ⟨e2, he2, h2⟩ := bindE h
  refine R.regG [(4, bool e2)] [] ?_ ?_
  · clear h; have h := he2; clear he2 h2
    refine X.ld shp28 ?_
    refine X.mv ?_
    refine X.callP (i_Project_hasResource_pc _ _ _ hv1) (by rfl) (by rfl) (by rfl) (by trivial) (by rfl) (by rfl) (by rfl) (by rfl) ?_
    refine X.mv ?_
    refine X.ifG (by rfl) (by rfl) (by rfl) (fun hb3 => ?_) (fun hb3 => ?_)
    · replace h := condT hb3 h
      refine X.fieldAddr_l fld28_3 (by rfl) (by rfl) ?_
      refine X.gy ?_
      refine X.ld shp25 ?_
      refine X.gy ?_
      refine X.mv ?_
      refine X.gy ?_
      obtain ⟨v4, hv4, h⟩ := bindE h
      refine X.index_s elt25 (by rfl) (by rfl) (idxL_spec hv4).1 (idxL_map eTResource hv4) (by rfl) (by rfl) (by rfl) ?_
      refine X.gy ?_
      refine X.fieldAddr_c fld64_1 (by rfl) (by rfl) ?_
      refine X.gy ?_
      refine X.load_c shp30 (by rfl) (by rfl) (by rfl) (by rfl) ?_
      refine X.gy ?_
      refine X.len_s elt30 (by rfl) (by exact List.length_map ..) (by rfl) ?_
      refine X.gy ?_
      refine X.bi ?_
      refine X.pickT (by rfl) (by first | rfl | assumption) (by rfl) (by rfl) ?_
      refine X.as ?_
      cases h
      exact X.endG (by trivial) (by trivial) (by rfl) (by rfl)
    · replace h := condF hb3 h
      refine X.gn ?_
      refine X.gn ?_
      refine X.gn ?_
      refine X.gn ?_
      refine X.gn ?_
      refine X.gn ?_
      refine X.gn ?_
      refine X.pickF (by rfl) (by first | rfl | assumption) (by rfl) (by rfl) ?_
      refine X.as ?_
      cases h
      exact X.endG (by trivial) (by trivial) (by rfl) (by rfl)
  replace h := h2; clear h2
  cases h
  refine R.fin1 Tryz.results239 (by rfl) (by rfl) ?_
  rfl
theorem i_onMachine_pc (b0 : TProject) (b1 : TDomain) (b2 : Int) (r : Bool) (h : i_onMachine b0 b1 b2 = some r) : PC Tryz.prog 173 [eTProject b0, eTDomain b1, int b2] (bool r) := by
  unfold i_onMachine at h
  refine PC.start Tryz.func173 Tryz.ntmps173 rfl ok173 rfl ?_
  refine Run.sr ?_
  refine X.box (by rfl) (by rfl) (by repeat (first | trivial | refine ⟨by first | rfl | simp [setL], ?_⟩)) (by rfl) (by rfl) (by rfl) (by rfl) ?_
  refine X.box (by rfl) (by rfl) (by repeat (first | trivial | refine ⟨by first | rfl | simp [setL], ?_⟩)) (by rfl) (by rfl) (by rfl) (by rfl) ?_
  refine X.an ?_
  refine Run.seq ?_
  obtain ⟨v1, hv1, h⟩ := bindE h
  obtain ⟨e2, he2, h2⟩ := bindE h
  refine R.regG [(6, bool e2)] [] ?_ ?_
  · clear h; have h := he2; clear he2 h2
    refine X.ld shp28 ?_
    refine X.ld shp32 ?_
    refine X.callP (i_isUsable_pc _ _ _ hv1) (by rfl) (by rfl) (by rfl) (by trivial) (by rfl) (by rfl) (by rfl) (by rfl) ?_
    refine X.mv ?_
    refine X.ifG (by rfl) (by rfl) (by rfl) (fun hb3 => ?_) (fun hb3 => ?_)
    · replace h := condT hb3 h
      refine X.ld shp28 ?_
      refine X.gy ?_
      refine X.mv ?_
      refine X.gy ?_
      obtain ⟨v4, hv4, h⟩ := bindE h
      refine X.callP (i_IsMachine_pc _ _ _ hv4) (by rfl) (by rfl) (by rfl) (by trivial) (by rfl) (by rfl) (by rfl) (by rfl) ?_
      refine X.pickT (by rfl) (by first | rfl | assumption) (by rfl) (by rfl) ?_
      refine X.as ?_
      cases h
      exact X.endG (by trivial) (by trivial) (by rfl) (by rfl)
    · replace h := condF hb3 h
      refine X.gn ?_
      refine X.gn ?_
      refine X.pickF (by rfl) (by first | rfl | assumption) (by rfl) (by rfl) ?_
      refine X.as ?_
      cases h
      exact X.endG (by trivial) (by trivial) (by rfl) (by rfl)
  replace h := h2; clear h2
  cases h
  refine R.fin1 Tryz.results173 (by rfl) (by rfl) ?_
  rfl
theorem i_chosen_pc (b0 : TActivity) (b1 : List Int) (r : List TMode) (h : i_chosen b0 b1 = some r) : PC Tryz.prog 236 [eTActivity b0, .slice (b1.map int)] (.fresh false 47 3 (r.map eTMode)) := by
  unfold i_chosen at h
  refine PC.start Tryz.func236 Tryz.ntmps236 rfl ok236 rfl ?_
  refine Run.sr ?_
  refine X.box (by rfl) (by rfl) (by repeat (first | trivial | refine ⟨by first | rfl | simp [setL], ?_⟩)) (by rfl) (by rfl) (by rfl) (by rfl) ?_
  refine X.an ?_
  refine Run.sr ?_
  refine X.buildSlice false elt48 zer47 (by rfl) (by rfl) (by rfl) (by rfl) (by rfl) (by rfl) (by repeat (first | trivial | refine ⟨by first | rfl | simp [setL], ?_⟩)) (allSz_spec (by rfl)) (by rfl) (by rfl) (by rfl) ?_
  refine X.an ?_
  refine Run.seq ?_
  refine Run.sr ?_
  refine X.fieldAddr_l fld50_2 (by rfl) (by rfl) ?_
  refine X.ld shp48 ?_
  refine X.len_s elt48 (by rfl) (by exact List.length_map ..) (by rfl) ?_
  refine X.mn ?_
  obtain ⟨o1, ho1, h⟩ := bindE h
  refine R.join2 (β := (List TMode)) [] [] (fun p16 S => (5, .own 512 (p16.map eTMode).length) :: S) (fun p16 M => (512, .obj false 47 3 (p16.map eTMode)) :: M) (fun p16 => p16 = o1) ?_ ?_
  · intro JJ4 hmeet3
    have hup2 := h; clear h; have h := ho1; clear ho1
    refine Run.block ?_
    refine R.bndS (t := 10) (by rfl) (fun hbd7 => ?_)
    replace hbd7 : b0.Modes.length ≤ 9223372036854775807 := by first | (rw [List.length_map] at hbd7; exact hbd7) | simp
    refine R.loop2 (β := Int × (List TMode)) [(1, .slice (b1.map int)), (10, .slice (b0.Modes.map eTMode)), (11, int (b0.Modes.length : Int))] [] (fun bb S => (5, .own 512 (bb.2.map eTMode).length) :: (12, int bb.1) :: S) (fun bb M => (512, .obj false 47 3 (bb.2.map eTMode)) :: M) (fun n bb => 0 ≤ bb.1 ∧ bb.1 + n = (b0.Modes.length : Int) ∧ i_chosen_L1 b1 (b0.Modes.drop bb.1.toNat) bb.1 bb.2 = some o1) b0.Modes.length (0, ([] : List TMode)) (by repeat (first | trivial | refine ⟨by first | rfl | simp [setL], ?_⟩)) (by repeat (first | trivial | refine ⟨by first | rfl | simp [setL], ?_⟩)) (by rfl) (by rfl) ⟨Int.le_refl _, by simp, h⟩ ?_
    clear h
    rintro JJ7 n7 ⟨z8, a9⟩ hag7 ⟨hza7, hzb7, h⟩
    dsimp only at hza7 hzb7 h
    refine Run.sr ?_
    refine X.bi ?_
    refine X.nil ?_
    refine Run.seq ?_
    refine R.cond (by rfl) (fun hc12 => ?_) (fun hc12 => ?_)
    · obtain ⟨x10, xs11, hd7, hx7, hds7, hlt7⟩ := drop_atI hza7 hc12
      rw [hd7] at h
      rw [i_chosen_L1] at h
      refine Run.skip ?_
      refine Run.seq ?_
      refine Run.block ?_
      refine Run.sr ?_
      refine X.mv ?_
      refine X.index_s elt48 (by rfl) (by rfl) (idxL_spec hx7).1 (idxL_map eTMode hx7) (by rfl) (by rfl) (by rfl) ?_
      refine X.load_c shp47 (by rfl) (by rfl) (by rfl) (by rfl) ?_
      refine X.alloc zer47 (by rfl) (by rfl) (by rfl) ?_
      refine X.as ?_
      refine X.store_l shp47 (by rfl) (by rfl) (by rfl) (by rfl) (by repeat (first | trivial | refine ⟨by first | rfl | simp [setL], ?_⟩)) (by rfl) (by rfl) (by rfl) ?_
      refine X.nil ?_
      refine Run.sr ?_
      refine X.mv ?_
      refine X.mv ?_
      obtain ⟨v13, hv13, h⟩ := bindE h
      refine X.callP (i_SetHas_pc _ _ _ hv13) (by rfl) (by rfl) (by rfl) (by trivial) (by rfl) (by rfl) (by rfl) (by rfl) ?_
      refine X.nil ?_
      refine R.cond (by rfl) (fun hc14 => ?_) (fun hc14 => ?_)
      · replace h := condT hc14 h
        refine Run.reg ?_
        refine X.mv ?_
        refine X.ld shp47 ?_
        refine X.buildSlice false elt48 zer47 (by rfl) (by rfl) (by rfl) (by rfl) (by rfl) (by rfl) (by repeat (first | trivial | refine ⟨by first | rfl | simp [setL], ?_⟩)) (allSz_spec (by rfl)) (by rfl) (by rfl) (by rfl) ?_
        obtain ⟨v15, hv15, h⟩ := bindE h
        refine X.append elt48 zer47 (by rfl) (by rfl) (by first | rfl | simp [setL] | omega) (by rfl) (.own _ _ _ _ _ _ (look_mem (by rfl)) (by first | rfl | simp [setL] | omega)) (allSz_spec (by rfl)) (appL_len eTMode hv15) (appL_map eTMode hv15) (by rfl) (by rfl) (by rfl) (by rfl) ?_
        refine X.an ?_
        refine Run.blk ?_
        refine Run.reg ?_
        refine X.add (by rfl) (by rfl) (by omega) (by rfl) ?_
        refine X.mn ?_
        exact hag7 (n7 - 1) (z8 + 1, v15) _ _ (by omega) ⟨by first | omega | (dsimp only; omega), by first | omega | (dsimp only; omega), by first | (rw [hds7]; exact h) | (dsimp only; rw [hds7]; exact h)⟩ (by repeat (first | trivial | refine ⟨by first | rfl | simp [setL], ?_⟩)) (by repeat (first | trivial | refine ⟨by first | rfl | simp [setL], ?_⟩)) (by rfl) (by rfl)
      · replace h := condF hc14 h
        refine Run.skip ?_
        refine Run.blk ?_
        refine Run.reg ?_
        refine X.add (by rfl) (by rfl) (by omega) (by rfl) ?_
        refine X.mn ?_
        exact hag7 (n7 - 1) (z8 + 1, a9) _ _ (by omega) ⟨by first | omega | (dsimp only; omega), by first | omega | (dsimp only; omega), by first | (rw [hds7]; exact h) | (dsimp only; rw [hds7]; exact h)⟩ (by repeat (first | trivial | refine ⟨by first | rfl | simp [setL], ?_⟩)) (by repeat (first | trivial | refine ⟨by first | rfl | simp [setL], ?_⟩)) (by rfl) (by rfl)
    · rw [drop_endI hza7 hc12] at h
      rw [i_chosen_L1] at h
      refine Run.exit (by rfl) ?_
      exact hmeet3 a9 _ _ (Option.some.inj h) (by repeat (first | trivial | refine ⟨by first | rfl | simp [setL], ?_⟩)) (by repeat (first | trivial | refine ⟨by first | rfl | simp [setL], ?_⟩)) (by rfl) (by rfl)
  rintro p16 rfl
  refine Run.sr ?_
  refine X.mv ?_
  refine X.an ?_
  cases h
  refine R.fin1o Tryz.results236 (by rfl) (by rfl) (by first | rfl | simp [setL] | omega) ?_
  rfl
theorem w_eqIntS_pc (b0 : List Int) (b1 : List Int) (r : Bool) (h : w_eqIntS b0 b1 = some r) : PC Tryz.prog 77 [.slice (b0.map int), .slice (b1.map int)] (bool r) := by
  unfold w_eqIntS at h
  refine PC.start Tryz.func77 Tryz.ntmps77 rfl ok77 rfl ?_
  refine Run.sr ?_
  refine X.an ?_
  refine Run.seq ?_
  refine Run.sr ?_
  refine X.mv ?_
  refine X.len_s elt26 (by rfl) (by exact List.length_map ..) (by rfl) ?_
  refine X.mv ?_
  refine X.len_s elt26 (by rfl) (by exact List.length_map ..) (by rfl) ?_
  refine X.bi ?_
  refine X.nil ?_
  refine R.cond (by rfl) (fun hc1 => ?_) (fun hc1 => ?_)
  · replace h := condT hc1 h
    refine Run.sr ?_
    refine X.an ?_
    cases h
    refine R.fin1 Tryz.results77 (by rfl) (by rfl) ?_
    rfl
  · replace h := condF hc1 h
    refine Run.skip ?_
    refine Run.seq ?_
    refine Run.sr ?_
    refine X.an ?_
    obtain ⟨o2, ho2, h⟩ := bindE h
    refine R.join2 (β := Unit) [] [] (fun p15 S => S) (fun p15 M => M) (fun p15 => (Sum.inl p15) = o2) ?_ ?_
    · intro JJ5 hmeet4
      have hup3 := h; clear h; have h := ho2; clear ho2
      refine Run.block ?_
      refine R.bndS (t := 0) (by rfl) (fun hbd8 => ?_)
      replace hbd8 : b0.length ≤ 9223372036854775807 := by first | (rw [List.length_map] at hbd8; exact hbd8) | simp
      refine R.loop2 (β := Int) [(0, .slice (b0.map int)), (1, .slice (b1.map int))] [] (fun bb S => (5, int bb) :: S) (fun bb M => M) (fun n bb => 0 ≤ bb ∧ bb + n = (b0.length : Int) ∧ w_eqIntS_L1 b1 (b0.drop bb.toNat) bb = some o2) b0.length (0 : Int) (by repeat (first | trivial | refine ⟨by first | rfl | simp [setL], ?_⟩)) (by repeat (first | trivial | refine ⟨by first | rfl | simp [setL], ?_⟩)) (by rfl) (by rfl) ⟨Int.le_refl _, by simp, h⟩ ?_
      clear h
      rintro JJ8 n8 z9 hag8 ⟨hza8, hzb8, h⟩
      refine Run.seq ?_
      refine Run.sr ?_
      refine X.mv ?_
      refine X.mv ?_
      refine X.len_s elt26 (by rfl) (by exact List.length_map ..) (by rfl) ?_
      refine X.bi ?_
      refine X.nil ?_
      refine R.cond (by rfl) (fun hc12 => ?_) (fun hc12 => ?_)
      · obtain ⟨x10, xs11, hd8, hx8, hds8, hlt8⟩ := drop_atI hza8 hc12
        rw [hd8] at h
        rw [w_eqIntS_L1] at h
        refine Run.skip ?_
        refine Run.seq ?_
        refine Run.block ?_
        refine Run.seq ?_
        refine Run.draw (footOf []) mixed (by kernel_rfl) (by kernel_rfl) ?_
        refine X.mv ?_
        refine X.mv ?_
        refine X.index_s elt26 (by rfl) (by rfl) (idxL_spec hx8).1 (idxL_map int hx8) (by rfl) (by rfl) (by rfl) ?_
        refine X.load_c shp3 (by rfl) (by rfl) (by rfl) (by rfl) ?_
        refine X.mv ?_
        refine X.mv ?_
        obtain ⟨v13, hv13, h⟩ := bindE h
        refine X.index_s elt26 (by rfl) (by rfl) (idxL_spec hv13).1 (idxL_map int hv13) (by rfl) (by rfl) (by rfl) ?_
        refine X.load_c shp3 (by rfl) (by rfl) (by rfl) (by rfl) ?_
        refine X.bi ?_
        refine X.nil ?_
        refine R.cond (by rfl) (fun hc14 => ?_) (fun hc14 => ?_)
        · replace h := condT hc14 h
          refine Run.sr ?_
          refine X.an ?_
          cases h
          have h := hup3
          replace h := elimR h
          cases h
          refine R.fin1 Tryz.results77 (by rfl) (by rfl) ?_
          rfl
        · replace h := condF hc14 h
          refine Run.skip ?_
          refine Run.blk ?_
          refine Run.reg ?_
          refine X.mv ?_
          refine X.add (by rfl) (by rfl) (by omega) (by rfl) ?_
          refine X.an ?_
          exact hag8 (n8 - 1) (z9 + 1) _ _ (by omega) ⟨by first | omega | (dsimp only; omega), by first | omega | (dsimp only; omega), by first | (rw [hds8]; exact h) | (dsimp only; rw [hds8]; exact h)⟩ (by trivial) (by trivial) (by rfl) (by rfl)
      · rw [drop_endI hza8 hc12] at h
        rw [w_eqIntS_L1] at h
        refine Run.exit (by rfl) ?_
        exact hmeet4 () _ _ (Option.some.inj h) (by trivial) (by trivial) (by rfl) (by rfl)
    rintro p15 rfl
    replace h := elimL h
    refine Run.sr ?_
    refine X.an ?_
    cases h
    refine R.fin1 Tryz.results77 (by rfl) (by rfl) ?_
    rfl
theorem w_eqMode_pc (b0 : TMode) (b1 : TMode) (r : Bool) (h : w_eqMode b0 b1 = some r) : PC Tryz.prog 335 [eTMode b0, eTMode b1] (bool r) := by
  unfold w_eqMode at h
  refine PC.start Tryz.func335 Tryz.ntmps335 rfl ok335 rfl ?_
  refine Run.sr ?_
  refine X.box (by rfl) (by rfl) (by repeat (first | trivial | refine ⟨by first | rfl | simp [setL], ?_⟩)) (by rfl) (by rfl) (by rfl) (by rfl) ?_
  refine X.box (by rfl) (by rfl) (by repeat (first | trivial | refine ⟨by first | rfl | simp [setL], ?_⟩)) (by rfl) (by rfl) (by rfl) (by rfl) ?_
  refine X.an ?_
  refine Run.seq ?_
  refine Run.sr ?_
  refine X.fieldAddr_l fld47_0 (by rfl) (by rfl) ?_
  refine X.ld shp3 ?_
  refine X.fieldAddr_l fld47_0 (by rfl) (by rfl) ?_
  refine X.ld shp3 ?_
  refine X.bi ?_
  refine X.nil ?_
  refine R.cond (by rfl) (fun hc1 => ?_) (fun hc1 => ?_)
  · replace h := condT hc1 h
    refine Run.sr ?_
    refine X.an ?_
    cases h
    refine R.fin1 Tryz.results335 (by rfl) (by rfl) ?_
    rfl
  · replace h := condF hc1 h
    refine Run.skip ?_
    refine Run.seq ?_
    refine Run.sr ?_
    refine X.fieldAddr_l fld47_1 (by rfl) (by rfl) ?_
    refine X.ld shp26 ?_
    refine X.fieldAddr_l fld47_1 (by rfl) (by rfl) ?_
    refine X.ld shp26 ?_
    obtain ⟨v2, hv2, h⟩ := bindE h
    refine X.callP (w_eqIntS_pc _ _ _ hv2) (by rfl) (by rfl) (by rfl) (by trivial) (by rfl) (by rfl) (by rfl) (by rfl) ?_
    refine X.un (by rfl) (by rfl) (by rfl) ?_
    refine X.nil ?_
    refine R.cond (by rfl) (fun hc3 => ?_) (fun hc3 => ?_)
    · replace h := condT hc3 h
      refine Run.sr ?_
      refine X.an ?_
      cases h
      refine R.fin1 Tryz.results335 (by rfl) (by rfl) ?_
      rfl
    · replace h := condF hc3 h
      refine Run.skip ?_
      refine Run.seq ?_
      refine Run.sr ?_
      refine X.fieldAddr_l fld47_2 (by rfl) (by rfl) ?_
      refine X.ld shp26 ?_
      refine X.fieldAddr_l fld47_2 (by rfl) (by rfl) ?_
      refine X.ld shp26 ?_
      obtain ⟨v4, hv4, h⟩ := bindE h
      refine X.callP (w_eqIntS_pc _ _ _ hv4) (by rfl) (by rfl) (by rfl) (by trivial) (by rfl) (by rfl) (by rfl) (by rfl) ?_
      refine X.un (by rfl) (by rfl) (by rfl) ?_
      refine X.nil ?_
      refine R.cond (by rfl) (fun hc5 => ?_) (fun hc5 => ?_)
      · replace h := condT hc5 h
        refine Run.sr ?_
        refine X.an ?_
        cases h
        refine R.fin1 Tryz.results335 (by rfl) (by rfl) ?_
        rfl
      · replace h := condF hc5 h
        refine Run.skip ?_
        refine Run.sr ?_
        refine X.an ?_
        cases h
        refine R.fin1 Tryz.results335 (by rfl) (by rfl) ?_
        rfl
theorem w_eqModeS_pc (b0 : List TMode) (b1 : List TMode) (r : Bool) (h : w_eqModeS b0 b1 = some r) : PC Tryz.prog 312 [.slice (b0.map eTMode), .slice (b1.map eTMode)] (bool r) := by
  unfold w_eqModeS at h
  refine PC.start Tryz.func312 Tryz.ntmps312 rfl ok312 rfl ?_
  refine Run.sr ?_
  refine X.an ?_
  refine Run.seq ?_
  refine Run.sr ?_
  refine X.mv ?_
  refine X.len_s elt48 (by rfl) (by exact List.length_map ..) (by rfl) ?_
  refine X.mv ?_
  refine X.len_s elt48 (by rfl) (by exact List.length_map ..) (by rfl) ?_
  refine X.bi ?_
  refine X.nil ?_
  refine R.cond (by rfl) (fun hc1 => ?_) (fun hc1 => ?_)
  · replace h := condT hc1 h
    refine Run.sr ?_
    refine X.an ?_
    cases h
    refine R.fin1 Tryz.results312 (by rfl) (by rfl) ?_
    rfl
  · replace h := condF hc1 h
    refine Run.skip ?_
    refine Run.seq ?_
    refine Run.sr ?_
    refine X.an ?_
    obtain ⟨o2, ho2, h⟩ := bindE h
    refine R.join2 (β := Unit) [] [] (fun p16 S => S) (fun p16 M => M) (fun p16 => (Sum.inl p16) = o2) ?_ ?_
    · intro JJ5 hmeet4
      have hup3 := h; clear h; have h := ho2; clear ho2
      refine Run.block ?_
      refine R.bndS (t := 0) (by rfl) (fun hbd8 => ?_)
      replace hbd8 : b0.length ≤ 9223372036854775807 := by first | (rw [List.length_map] at hbd8; exact hbd8) | simp
      refine R.loop2 (β := Int) [(0, .slice (b0.map eTMode)), (1, .slice (b1.map eTMode))] [] (fun bb S => (5, int bb) :: S) (fun bb M => M) (fun n bb => 0 ≤ bb ∧ bb + n = (b0.length : Int) ∧ w_eqModeS_L1 b1 (b0.drop bb.toNat) bb = some o2) b0.length (0 : Int) (by repeat (first | trivial | refine ⟨by first | rfl | simp [setL], ?_⟩)) (by repeat (first | trivial | refine ⟨by first | rfl | simp [setL], ?_⟩)) (by rfl) (by rfl) ⟨Int.le_refl _, by simp, h⟩ ?_
      clear h
      rintro JJ8 n8 z9 hag8 ⟨hza8, hzb8, h⟩
      refine Run.seq ?_
      refine Run.sr ?_
      refine X.mv ?_
      refine X.mv ?_
      refine X.len_s elt48 (by rfl) (by exact List.length_map ..) (by rfl) ?_
      refine X.bi ?_
      refine X.nil ?_
      refine R.cond (by rfl) (fun hc12 => ?_) (fun hc12 => ?_)
      · obtain ⟨x10, xs11, hd8, hx8, hds8, hlt8⟩ := drop_atI hza8 hc12
        rw [hd8] at h
        rw [w_eqModeS_L1] at h
        refine Run.skip ?_
        refine Run.seq ?_
        refine Run.block ?_
        refine Run.seq ?_
        refine Run.draw (footOf []) mixed (by kernel_rfl) (by kernel_rfl) ?_
        refine X.mv ?_
        refine X.mv ?_
        refine X.index_s elt48 (by rfl) (by rfl) (idxL_spec hx8).1 (idxL_map eTMode hx8) (by rfl) (by rfl) (by rfl) ?_
        refine X.load_c shp47 (by rfl) (by rfl) (by rfl) (by rfl) ?_
        refine X.mv ?_
        refine X.mv ?_
        obtain ⟨v13, hv13, h⟩ := bindE h
        refine X.index_s elt48 (by rfl) (by rfl) (idxL_spec hv13).1 (idxL_map eTMode hv13) (by rfl) (by rfl) (by rfl) ?_
        refine X.load_c shp47 (by rfl) (by rfl) (by rfl) (by rfl) ?_
        obtain ⟨v14, hv14, h⟩ := bindE h
        refine X.callP (w_eqMode_pc _ _ _ hv14) (by rfl) (by rfl) (by rfl) (by trivial) (by rfl) (by rfl) (by rfl) (by rfl) ?_
        refine X.un (by rfl) (by rfl) (by rfl) ?_
        refine X.nil ?_
        refine R.cond (by rfl) (fun hc15 => ?_) (fun hc15 => ?_)
        · replace h := condT hc15 h
          refine Run.sr ?_
          refine X.an ?_
          cases h
          have h := hup3
          replace h := elimR h
          cases h
          refine R.fin1 Tryz.results312 (by rfl) (by rfl) ?_
          rfl
        · replace h := condF hc15 h
          refine Run.skip ?_
          refine Run.blk ?_
          refine Run.reg ?_
          refine X.mv ?_
          refine X.add (by rfl) (by rfl) (by omega) (by rfl) ?_
          refine X.an ?_
          exact hag8 (n8 - 1) (z9 + 1) _ _ (by omega) ⟨by first | omega | (dsimp only; omega), by first | omega | (dsimp only; omega), by first | (rw [hds8]; exact h) | (dsimp only; rw [hds8]; exact h)⟩ (by trivial) (by trivial) (by rfl) (by rfl)
      · rw [drop_endI hza8 hc12] at h
        rw [w_eqModeS_L1] at h
        refine Run.exit (by rfl) ?_
        exact hmeet4 () _ _ (Option.some.inj h) (by trivial) (by trivial) (by rfl) (by rfl)
    rintro p16 rfl
    replace h := elimL h
    refine Run.sr ?_
    refine X.an ?_
    cases h
    refine R.fin1 Tryz.results312 (by rfl) (by rfl) ?_
    rfl
theorem w_eqActivity_pc (b0 : TActivity) (b1 : TActivity) (r : Bool) (h : w_eqActivity b0 b1 = some r) : PC Tryz.prog 257 [eTActivity b0, eTActivity b1] (bool r) := by
  unfold w_eqActivity at h
  refine PC.start Tryz.func257 Tryz.ntmps257 rfl ok257 rfl ?_
  refine Run.sr ?_
  refine X.box (by rfl) (by rfl) (by repeat (first | trivial | refine ⟨by first | rfl | simp [setL], ?_⟩)) (by rfl) (by rfl) (by rfl) (by rfl) ?_
  refine X.box (by rfl) (by rfl) (by repeat (first | trivial | refine ⟨by first | rfl | simp [setL], ?_⟩)) (by rfl) (by rfl) (by rfl) (by rfl) ?_
  refine X.an ?_
  refine Run.seq ?_
  refine Run.sr ?_
  refine X.fieldAddr_l fld50_0 (by rfl) (by rfl) ?_
  refine X.ld shp9 ?_
  refine X.fieldAddr_l fld50_0 (by rfl) (by rfl) ?_
  refine X.ld shp9 ?_
  refine X.bi ?_
  refine X.nil ?_
  refine R.cond (by rfl) (fun hc1 => ?_) (fun hc1 => ?_)
  · replace h := condT hc1 h
    refine Run.sr ?_
    refine X.an ?_
    cases h
    refine R.fin1 Tryz.results257 (by rfl) (by rfl) ?_
    rfl
  · replace h := condF hc1 h
    refine Run.skip ?_
    refine Run.seq ?_
    refine Run.sr ?_
    refine X.fieldAddr_l fld50_1 (by rfl) (by rfl) ?_
    refine X.ld shp3 ?_
    refine X.fieldAddr_l fld50_1 (by rfl) (by rfl) ?_
    refine X.ld shp3 ?_
    refine X.bi ?_
    refine X.nil ?_
    refine R.cond (by rfl) (fun hc2 => ?_) (fun hc2 => ?_)
    · replace h := condT hc2 h
      refine Run.sr ?_
      refine X.an ?_
      cases h
      refine R.fin1 Tryz.results257 (by rfl) (by rfl) ?_
      rfl
    · replace h := condF hc2 h
      refine Run.skip ?_
      refine Run.seq ?_
      refine Run.sr ?_
      refine X.fieldAddr_l fld50_2 (by rfl) (by rfl) ?_
      refine X.ld shp48 ?_
      refine X.fieldAddr_l fld50_2 (by rfl) (by rfl) ?_
      refine X.ld shp48 ?_
      obtain ⟨v3, hv3, h⟩ := bindE h
      refine X.callP (w_eqModeS_pc _ _ _ hv3) (by rfl) (by rfl) (by rfl) (by trivial) (by rfl) (by rfl) (by rfl) (by rfl) ?_
      refine X.un (by rfl) (by rfl) (by rfl) ?_
      refine X.nil ?_
      refine R.cond (by rfl) (fun hc4 => ?_) (fun hc4 => ?_)
      · replace h := condT hc4 h
        refine Run.sr ?_
        refine X.an ?_
        cases h
        refine R.fin1 Tryz.results257 (by rfl) (by rfl) ?_
        rfl
      · replace h := condF hc4 h
        refine Run.skip ?_
        refine Run.sr ?_
        refine X.an ?_
        cases h
        refine R.fin1 Tryz.results257 (by rfl) (by rfl) ?_
        rfl
theorem w_eqActivityS_pc (b0 : List TActivity) (b1 : List TActivity) (r : Bool) (h : w_eqActivityS b0 b1 = some r) : PC Tryz.prog 149 [.slice (b0.map eTActivity), .slice (b1.map eTActivity)] (bool r) := by
  unfold w_eqActivityS at h
  refine PC.start Tryz.func149 Tryz.ntmps149 rfl ok149 rfl ?_
  refine Run.sr ?_
  refine X.an ?_
  refine Run.seq ?_
  refine Run.sr ?_
  refine X.mv ?_
  refine X.len_s elt23 (by rfl) (by exact List.length_map ..) (by rfl) ?_
  refine X.mv ?_
  refine X.len_s elt23 (by rfl) (by exact List.length_map ..) (by rfl) ?_
  refine X.bi ?_
  refine X.nil ?_
  refine R.cond (by rfl) (fun hc1 => ?_) (fun hc1 => ?_)
  · replace h := condT hc1 h
    refine Run.sr ?_
    refine X.an ?_
    cases h
    refine R.fin1 Tryz.results149 (by rfl) (by rfl) ?_
    rfl
  · replace h := condF hc1 h
    refine Run.skip ?_
    refine Run.seq ?_
    refine Run.sr ?_
    refine X.an ?_
    obtain ⟨o2, ho2, h⟩ := bindE h
    refine R.join2 (β := Unit) [] [] (fun p16 S => S) (fun p16 M => M) (fun p16 => (Sum.inl p16) = o2) ?_ ?_
    · intro JJ5 hmeet4
      have hup3 := h; clear h; have h := ho2; clear ho2
      refine Run.block ?_
      refine R.bndS (t := 0) (by rfl) (fun hbd8 => ?_)
      replace hbd8 : b0.length ≤ 9223372036854775807 := by first | (rw [List.length_map] at hbd8; exact hbd8) | simp
      refine R.loop2 (β := Int) [(0, .slice (b0.map eTActivity)), (1, .slice (b1.map eTActivity))] [] (fun bb S => (5, int bb) :: S) (fun bb M => M) (fun n bb => 0 ≤ bb ∧ bb + n = (b0.length : Int) ∧ w_eqActivityS_L1 b1 (b0.drop bb.toNat) bb = some o2) b0.length (0 : Int) (by repeat (first | trivial | refine ⟨by first | rfl | simp [setL], ?_⟩)) (by repeat (first | trivial | refine ⟨by first | rfl | simp [setL], ?_⟩)) (by rfl) (by rfl) ⟨Int.le_refl _, by simp, h⟩ ?_
      clear h
      rintro JJ8 n8 z9 hag8 ⟨hza8, hzb8, h⟩
      refine Run.seq ?_
      refine Run.sr ?_
      refine X.mv ?_
      refine X.mv ?_
      refine X.len_s elt23 (by rfl) (by exact List.length_map ..) (by rfl) ?_
      refine X.bi ?_
      refine X.nil ?_
      refine R.cond (by rfl) (fun hc12 => ?_) (fun hc12 => ?_)
      · obtain ⟨x10, xs11, hd8, hx8, hds8, hlt8⟩ := drop_atI hza8 hc12
        rw [hd8] at h
        rw [w_eqActivityS_L1] at h
        refine Run.skip ?_
        refine Run.seq ?_
        refine Run.block ?_
        refine Run.seq ?_
        refine Run.draw (footOf []) mixed (by kernel_rfl) (by kernel_rfl) ?_
        refine X.mv ?_
        refine X.mv ?_
        refine X.index_s elt23 (by rfl) (by rfl) (idxL_spec hx8).1 (idxL_map eTActivity hx8) (by rfl) (by rfl) (by rfl) ?_
        refine X.load_c shp50 (by rfl) (by rfl) (by rfl) (by rfl) ?_
        refine X.mv ?_
        refine X.mv ?_
        obtain ⟨v13, hv13, h⟩ := bindE h
        refine X.index_s elt23 (by rfl) (by rfl) (idxL_spec hv13).1 (idxL_map eTActivity hv13) (by rfl) (by rfl) (by rfl) ?_
        refine X.load_c shp50 (by rfl) (by rfl) (by rfl) (by rfl) ?_
        obtain ⟨v14, hv14, h⟩ := bindE h
        refine X.callP (w_eqActivity_pc _ _ _ hv14) (by rfl) (by rfl) (by rfl) (by trivial) (by rfl) (by rfl) (by rfl) (by rfl) ?_
        refine X.un (by rfl) (by rfl) (by rfl) ?_
        refine X.nil ?_
        refine R.cond (by rfl) (fun hc15 => ?_) (fun hc15 => ?_)
        · replace h := condT hc15 h
          refine Run.sr ?_
          refine X.an ?_
          cases h
          have h := hup3
          replace h := elimR h
          cases h
          refine R.fin1 Tryz.results149 (by rfl) (by rfl) ?_
          rfl
        · replace h := condF hc15 h
          refine Run.skip ?_
          refine Run.blk ?_
          refine Run.reg ?_
          refine X.mv ?_
          refine X.add (by rfl) (by rfl) (by omega) (by rfl) ?_
          refine X.an ?_
          exact hag8 (n8 - 1) (z9 + 1) _ _ (by omega) ⟨by first | omega | (dsimp only; omega), by first | omega | (dsimp only; omega), by first | (rw [hds8]; exact h) | (dsimp only; rw [hds8]; exact h)⟩ (by trivial) (by trivial) (by rfl) (by rfl)
      · rw [drop_endI hza8 hc12] at h
        rw [w_eqActivityS_L1] at h
        refine Run.exit (by rfl) ?_
        exact hmeet4 () _ _ (Option.some.inj h) (by trivial) (by trivial) (by rfl) (by rfl)
    rintro p16 rfl
    replace h := elimL h
    refine Run.sr ?_
    refine X.an ?_
    cases h
    refine R.fin1 Tryz.results149 (by rfl) (by rfl) ?_
    rfl
theorem w_eqLink_pc (b0 : TLink) (b1 : TLink) (r : Bool) (h : w_eqLink b0 b1 = some r) : PC Tryz.prog 258 [eTLink b0, eTLink b1] (bool r) := by
  unfold w_eqLink at h
  refine PC.start Tryz.func258 Tryz.ntmps258 rfl ok258 rfl ?_
  refine Run.sr ?_
  refine X.box (by rfl) (by rfl) (by repeat (first | trivial | refine ⟨by first | rfl | simp [setL], ?_⟩)) (by rfl) (by rfl) (by rfl) (by rfl) ?_
  refine X.box (by rfl) (by rfl) (by repeat (first | trivial | refine ⟨by first | rfl | simp [setL], ?_⟩)) (by rfl) (by rfl) (by rfl) (by rfl) ?_
  refine X.an ?_
  refine Run.seq ?_
  refine Run.sr ?_
  refine X.fieldAddr_l fld167_0 (by rfl) (by rfl) ?_
  refine X.ld shp3 ?_
  refine X.fieldAddr_l fld167_0 (by rfl) (by rfl) ?_
  refine X.ld shp3 ?_
  refine X.bi ?_
  refine X.nil ?_
  refine R.cond (by rfl) (fun hc1 => ?_) (fun hc1 => ?_)
  · replace h := condT hc1 h
    refine Run.sr ?_
    refine X.an ?_
    cases h
    refine R.fin1 Tryz.results258 (by rfl) (by rfl) ?_
    rfl
  · replace h := condF hc1 h
    refine Run.skip ?_
    refine Run.seq ?_
    refine Run.sr ?_
    refine X.fieldAddr_l fld167_1 (by rfl) (by rfl) ?_
    refine X.ld shp3 ?_
    refine X.fieldAddr_l fld167_1 (by rfl) (by rfl) ?_
    refine X.ld shp3 ?_
    refine X.bi ?_
    refine X.nil ?_
    refine R.cond (by rfl) (fun hc2 => ?_) (fun hc2 => ?_)
    · replace h := condT hc2 h
      refine Run.sr ?_
      refine X.an ?_
      cases h
      refine R.fin1 Tryz.results258 (by rfl) (by rfl) ?_
      rfl
    · replace h := condF hc2 h
      refine Run.skip ?_
      refine Run.seq ?_
      refine Run.sr ?_
      refine X.fieldAddr_l fld167_2 (by rfl) (by rfl) ?_
      refine X.ld shp4 ?_
      refine X.fieldAddr_l fld167_2 (by rfl) (by rfl) ?_
      refine X.ld shp4 ?_
      refine X.neqBool Tryz.underlying4 (by rfl) (by rfl) (by rfl) ?_
      refine X.nil ?_
      refine R.cond (by rfl) (fun hc3 => ?_) (fun hc3 => ?_)
      · replace h := condT hc3 h
        refine Run.sr ?_
        refine X.an ?_
        cases h
        refine R.fin1 Tryz.results258 (by rfl) (by rfl) ?_
        rfl
      · replace h := condF hc3 h
        refine Run.skip ?_
        refine Run.seq ?_
        refine Run.sr ?_
        refine X.fieldAddr_l fld167_3 (by rfl) (by rfl) ?_
        refine X.ld shp3 ?_
        refine X.fieldAddr_l fld167_3 (by rfl) (by rfl) ?_
        refine X.ld shp3 ?_
        refine X.bi ?_
        refine X.nil ?_
        refine R.cond (by rfl) (fun hc4 => ?_) (fun hc4 => ?_)
        · replace h := condT hc4 h
          refine Run.sr ?_
          refine X.an ?_
          cases h
          refine R.fin1 Tryz.results258 (by rfl) (by rfl) ?_
          rfl
        · replace h := condF hc4 h
          refine Run.skip ?_
          refine Run.sr ?_
          refine X.an ?_
          cases h
          refine R.fin1 Tryz.results258 (by rfl) (by rfl) ?_
          rfl
theorem w_eqLinkS_pc (b0 : List TLink) (b1 : List TLink) (r : Bool) (h : w_eqLinkS b0 b1 = some r) : PC Tryz.prog 150 [.slice (b0.map eTLink), .slice (b1.map eTLink)] (bool r) := by
  unfold w_eqLinkS at h
  refine PC.start Tryz.func150 Tryz.ntmps150 rfl ok150 rfl ?_
  refine Run.sr ?_
  refine X.an ?_
  refine Run.seq ?_
  refine Run.sr ?_
  refine X.mv ?_
  refine X.len_s elt24 (by rfl) (by exact List.length_map ..) (by rfl) ?_
  refine X.mv ?_
  refine X.len_s elt24 (by rfl) (by exact List.length_map ..) (by rfl) ?_
  refine X.bi ?_
  refine X.nil ?_
  refine R.cond (by rfl) (fun hc1 => ?_) (fun hc1 => ?_)
  · replace h := condT hc1 h
    refine Run.sr ?_
    refine X.an ?_
    cases h
    refine R.fin1 Tryz.results150 (by rfl) (by rfl) ?_
    rfl
  · replace h := condF hc1 h
    refine Run.skip ?_
    refine Run.seq ?_
    refine Run.sr ?_
    refine X.an ?_
    obtain ⟨o2, ho2, h⟩ := bindE h
    refine R.join2 (β := Unit) [] [] (fun p16 S => S) (fun p16 M => M) (fun p16 => (Sum.inl p16) = o2) ?_ ?_
    · intro JJ5 hmeet4
      have hup3 := h; clear h; have h := ho2; clear ho2
      refine Run.block ?_
      refine R.bndS (t := 0) (by rfl) (fun hbd8 => ?_)
      replace hbd8 : b0.length ≤ 9223372036854775807 := by first | (rw [List.length_map] at hbd8; exact hbd8) | simp
      refine R.loop2 (β := Int) [(0, .slice (b0.map eTLink)), (1, .slice (b1.map eTLink))] [] (fun bb S => (5, int bb) :: S) (fun bb M => M) (fun n bb => 0 ≤ bb ∧ bb + n = (b0.length : Int) ∧ w_eqLinkS_L1 b1 (b0.drop bb.toNat) bb = some o2) b0.length (0 : Int) (by repeat (first | trivial | refine ⟨by first | rfl | simp [setL], ?_⟩)) (by repeat (first | trivial | refine ⟨by first | rfl | simp [setL], ?_⟩)) (by rfl) (by rfl) ⟨Int.le_refl _, by simp, h⟩ ?_
      clear h
      rintro JJ8 n8 z9 hag8 ⟨hza8, hzb8, h⟩
      refine Run.seq ?_
      refine Run.sr ?_
      refine X.mv ?_
      refine X.mv ?_
      refine X.len_s elt24 (by rfl) (by exact List.length_map ..) (by rfl) ?_
      refine X.bi ?_
      refine X.nil ?_
      refine R.cond (by rfl) (fun hc12 => ?_) (fun hc12 => ?_)
      · obtain ⟨x10, xs11, hd8, hx8, hds8, hlt8⟩ := drop_atI hza8 hc12
        rw [hd8] at h
        rw [w_eqLinkS_L1] at h
        refine Run.skip ?_
        refine Run.seq ?_
        refine Run.block ?_
        refine Run.seq ?_
        refine Run.draw (footOf []) mixed (by kernel_rfl) (by kernel_rfl) ?_
        refine X.mv ?_
        refine X.mv ?_
        refine X.index_s elt24 (by rfl) (by rfl) (idxL_spec hx8).1 (idxL_map eTLink hx8) (by rfl) (by rfl) (by rfl) ?_
        refine X.load_c shp167 (by rfl) (by rfl) (by rfl) (by rfl) ?_
        refine X.mv ?_
        refine X.mv ?_
        obtain ⟨v13, hv13, h⟩ := bindE h
        refine X.index_s elt24 (by rfl) (by rfl) (idxL_spec hv13).1 (idxL_map eTLink hv13) (by rfl) (by rfl) (by rfl) ?_
        refine X.load_c shp167 (by rfl) (by rfl) (by rfl) (by rfl) ?_
        obtain ⟨v14, hv14, h⟩ := bindE h
        refine X.callP (w_eqLink_pc _ _ _ hv14) (by rfl) (by rfl) (by rfl) (by trivial) (by rfl) (by rfl) (by rfl) (by rfl) ?_
        refine X.un (by rfl) (by rfl) (by rfl) ?_
        refine X.nil ?_
        refine R.cond (by rfl) (fun hc15 => ?_) (fun hc15 => ?_)
        · replace h := condT hc15 h
          refine Run.sr ?_
          refine X.an ?_
          cases h
          have h := hup3
          replace h := elimR h
          cases h
          refine R.fin1 Tryz.results150 (by rfl) (by rfl) ?_
          rfl
        · replace h := condF hc15 h
          refine Run.skip ?_
          refine Run.blk ?_
          refine Run.reg ?_
          refine X.mv ?_
          refine X.add (by rfl) (by rfl) (by omega) (by rfl) ?_
          refine X.an ?_
          exact hag8 (n8 - 1) (z9 + 1) _ _ (by omega) ⟨by first | omega | (dsimp only; omega), by first | omega | (dsimp only; omega), by first | (rw [hds8]; exact h) | (dsimp only; rw [hds8]; exact h)⟩ (by trivial) (by trivial) (by rfl) (by rfl)
      · rw [drop_endI hza8 hc12] at h
        rw [w_eqLinkS_L1] at h
        refine Run.exit (by rfl) ?_
        exact hmeet4 () _ _ (Option.some.inj h) (by trivial) (by trivial) (by rfl) (by rfl)
    rintro p16 rfl
    replace h := elimL h
    refine Run.sr ?_
    refine X.an ?_
    cases h
    refine R.fin1 Tryz.results150 (by rfl) (by rfl) ?_
    rfl
theorem w_eqStep_pc (b0 : TStep) (b1 : TStep) (r : Bool) (h : w_eqStep b0 b1 = some r) : PC Tryz.prog 336 [eTStep b0, eTStep b1] (bool r) := by
  unfold w_eqStep at h
  refine PC.start Tryz.func336 Tryz.ntmps336 rfl ok336 rfl ?_
  refine Run.sr ?_
  refine X.box (by rfl) (by rfl) (by repeat (first | trivial | refine ⟨by first | rfl | simp [setL], ?_⟩)) (by rfl) (by rfl) (by rfl) (by rfl) ?_
  refine X.box (by rfl) (by rfl) (by repeat (first | trivial | refine ⟨by first | rfl | simp [setL], ?_⟩)) (by rfl) (by rfl) (by rfl) (by rfl) ?_
  refine X.an ?_
  refine Run.seq ?_
  refine Run.sr ?_
  refine X.fieldAddr_l fld183_0 (by rfl) (by rfl) ?_
  refine X.ld shp3 ?_
  refine X.fieldAddr_l fld183_0 (by rfl) (by rfl) ?_
  refine X.ld shp3 ?_
  refine X.bi ?_
  refine X.nil ?_
  refine R.cond (by rfl) (fun hc1 => ?_) (fun hc1 => ?_)
  · replace h := condT hc1 h
    refine Run.sr ?_
    refine X.an ?_
    cases h
    refine R.fin1 Tryz.results336 (by rfl) (by rfl) ?_
    rfl
  · replace h := condF hc1 h
    refine Run.skip ?_
    refine Run.seq ?_
    refine Run.sr ?_
    refine X.fieldAddr_l fld183_1 (by rfl) (by rfl) ?_
    refine X.ld shp3 ?_
    refine X.fieldAddr_l fld183_1 (by rfl) (by rfl) ?_
    refine X.ld shp3 ?_
    refine X.bi ?_
    refine X.nil ?_
    refine R.cond (by rfl) (fun hc2 => ?_) (fun hc2 => ?_)
    · replace h := condT hc2 h
      refine Run.sr ?_
      refine X.an ?_
      cases h
      refine R.fin1 Tryz.results336 (by rfl) (by rfl) ?_
      rfl
    · replace h := condF hc2 h
      refine Run.skip ?_
      refine Run.sr ?_
      refine X.an ?_
      cases h
      refine R.fin1 Tryz.results336 (by rfl) (by rfl) ?_
      rfl
theorem w_eqStepS_pc (b0 : List TStep) (b1 : List TStep) (r : Bool) (h : w_eqStepS b0 b1 = some r) : PC Tryz.prog 313 [.slice (b0.map eTStep), .slice (b1.map eTStep)] (bool r) := by
  unfold w_eqStepS at h
  refine PC.start Tryz.func313 Tryz.ntmps313 rfl ok313 rfl ?_
  refine Run.sr ?_
  refine X.an ?_
  refine Run.seq ?_
  refine Run.sr ?_
  refine X.mv ?_
  refine X.len_s elt62 (by rfl) (by exact List.length_map ..) (by rfl) ?_
  refine X.mv ?_
  refine X.len_s elt62 (by rfl) (by exact List.length_map ..) (by rfl) ?_
  refine X.bi ?_
  refine X.nil ?_
  refine R.cond (by rfl) (fun hc1 => ?_) (fun hc1 => ?_)
  · replace h := condT hc1 h
    refine Run.sr ?_
    refine X.an ?_
    cases h
    refine R.fin1 Tryz.results313 (by rfl) (by rfl) ?_
    rfl
  · replace h := condF hc1 h
    refine Run.skip ?_
    refine Run.seq ?_
    refine Run.sr ?_
    refine X.an ?_
    obtain ⟨o2, ho2, h⟩ := bindE h
    refine R.join2 (β := Unit) [] [] (fun p16 S => S) (fun p16 M => M) (fun p16 => (Sum.inl p16) = o2) ?_ ?_
    · intro JJ5 hmeet4
      have hup3 := h; clear h; have h := ho2; clear ho2
      refine Run.block ?_
      refine R.bndS (t := 0) (by rfl) (fun hbd8 => ?_)
      replace hbd8 : b0.length ≤ 9223372036854775807 := by first | (rw [List.length_map] at hbd8; exact hbd8) | simp
      refine R.loop2 (β := Int) [(0, .slice (b0.map eTStep)), (1, .slice (b1.map eTStep))] [] (fun bb S => (5, int bb) :: S) (fun bb M => M) (fun n bb => 0 ≤ bb ∧ bb + n = (b0.length : Int) ∧ w_eqStepS_L1 b1 (b0.drop bb.toNat) bb = some o2) b0.length (0 : Int) (by repeat (first | trivial | refine ⟨by first | rfl | simp [setL], ?_⟩)) (by repeat (first | trivial | refine ⟨by first | rfl | simp [setL], ?_⟩)) (by rfl) (by rfl) ⟨Int.le_refl _, by simp, h⟩ ?_
      clear h
      rintro JJ8 n8 z9 hag8 ⟨hza8, hzb8, h⟩
      refine Run.seq ?_
      refine Run.sr ?_
      refine X.mv ?_
      refine X.mv ?_
      refine X.len_s elt62 (by rfl) (by exact List.length_map ..) (by rfl) ?_
      refine X.bi ?_
      refine X.nil ?_
      refine R.cond (by rfl) (fun hc12 => ?_) (fun hc12 => ?_)
      · obtain ⟨x10, xs11, hd8, hx8, hds8, hlt8⟩ := drop_atI hza8 hc12
        rw [hd8] at h
        rw [w_eqStepS_L1] at h
        refine Run.skip ?_
        refine Run.seq ?_
        refine Run.block ?_
        refine Run.seq ?_
        refine Run.draw (footOf []) mixed (by kernel_rfl) (by kernel_rfl) ?_
        refine X.mv ?_
        refine X.mv ?_
        refine X.index_s elt62 (by rfl) (by rfl) (idxL_spec hx8).1 (idxL_map eTStep hx8) (by rfl) (by rfl) (by rfl) ?_
        refine X.load_c shp183 (by rfl) (by rfl) (by rfl) (by rfl) ?_
        refine X.mv ?_
        refine X.mv ?_
        obtain ⟨v13, hv13, h⟩ := bindE h
        refine X.index_s elt62 (by rfl) (by rfl) (idxL_spec hv13).1 (idxL_map eTStep hv13) (by rfl) (by rfl) (by rfl) ?_
        refine X.load_c shp183 (by rfl) (by rfl) (by rfl) (by rfl) ?_
        obtain ⟨v14, hv14, h⟩ := bindE h
        refine X.callP (w_eqStep_pc _ _ _ hv14) (by rfl) (by rfl) (by rfl) (by trivial) (by rfl) (by rfl) (by rfl) (by rfl) ?_
        refine X.un (by rfl) (by rfl) (by rfl) ?_
        refine X.nil ?_
        refine R.cond (by rfl) (fun hc15 => ?_) (fun hc15 => ?_)
        · replace h := condT hc15 h
          refine Run.sr ?_
          refine X.an ?_
          cases h
          have h := hup3
          replace h := elimR h
          cases h
          refine R.fin1 Tryz.results313 (by rfl) (by rfl) ?_
          rfl
        · replace h := condF hc15 h
          refine Run.skip ?_
          refine Run.blk ?_
          refine Run.reg ?_
          refine X.mv ?_
          refine X.add (by rfl) (by rfl) (by omega) (by rfl) ?_
          refine X.an ?_
          exact hag8 (n8 - 1) (z9 + 1) _ _ (by omega) ⟨by first | omega | (dsimp only; omega), by first | omega | (dsimp only; omega), by first | (rw [hds8]; exact h) | (dsimp only; rw [hds8]; exact h)⟩ (by trivial) (by trivial) (by rfl) (by rfl)
      · rw [drop_endI hza8 hc12] at h
        rw [w_eqStepS_L1] at h
        refine Run.exit (by rfl) ?_
        exact hmeet4 () _ _ (Option.some.inj h) (by trivial) (by trivial) (by rfl) (by rfl)
    rintro p16 rfl
    replace h := elimL h
    refine Run.sr ?_
    refine X.an ?_
    cases h
    refine R.fin1 Tryz.results313 (by rfl) (by rfl) ?_
    rfl
theorem w_eqIntSS_pc (b0 : List (List Int)) (b1 : List (List Int)) (r : Bool) (h : w_eqIntSS b0 b1 = some r) : PC Tryz.prog 97 [.slice (b0.map l_int), .slice (b1.map l_int)] (bool r) := by
  unfold w_eqIntSS at h
  refine PC.start Tryz.func97 Tryz.ntmps97 rfl ok97 rfl ?_
  refine Run.sr ?_
  refine X.an ?_
  refine Run.seq ?_
  refine Run.sr ?_
  refine X.mv ?_
  refine X.len_s elt30 (by rfl) (by exact List.length_map ..) (by rfl) ?_
  refine X.mv ?_
  refine X.len_s elt30 (by rfl) (by exact List.length_map ..) (by rfl) ?_
  refine X.bi ?_
  refine X.nil ?_
  refine R.cond (by rfl) (fun hc1 => ?_) (fun hc1 => ?_)
  · replace h := condT hc1 h
    refine Run.sr ?_
    refine X.an ?_
    cases h
    refine R.fin1 Tryz.results97 (by rfl) (by rfl) ?_
    rfl
  · replace h := condF hc1 h
    refine Run.skip ?_
    refine Run.seq ?_
    refine Run.sr ?_
    refine X.an ?_
    obtain ⟨o2, ho2, h⟩ := bindE h
    refine R.join2 (β := Unit) [] [] (fun p16 S => S) (fun p16 M => M) (fun p16 => (Sum.inl p16) = o2) ?_ ?_
    · intro JJ5 hmeet4
      have hup3 := h; clear h; have h := ho2; clear ho2
      refine Run.block ?_
      refine R.bndS (t := 0) (by rfl) (fun hbd8 => ?_)
      replace hbd8 : b0.length ≤ 9223372036854775807 := by first | (rw [List.length_map] at hbd8; exact hbd8) | simp
      refine R.loop2 (β := Int) [(0, .slice (b0.map l_int)), (1, .slice (b1.map l_int))] [] (fun bb S => (5, int bb) :: S) (fun bb M => M) (fun n bb => 0 ≤ bb ∧ bb + n = (b0.length : Int) ∧ w_eqIntSS_L1 b1 (b0.drop bb.toNat) bb = some o2) b0.length (0 : Int) (by repeat (first | trivial | refine ⟨by first | rfl | simp [setL], ?_⟩)) (by repeat (first | trivial | refine ⟨by first | rfl | simp [setL], ?_⟩)) (by rfl) (by rfl) ⟨Int.le_refl _, by simp, h⟩ ?_
      clear h
      rintro JJ8 n8 z9 hag8 ⟨hza8, hzb8, h⟩
      refine Run.seq ?_
      refine Run.sr ?_
      refine X.mv ?_
      refine X.mv ?_
      refine X.len_s elt30 (by rfl) (by exact List.length_map ..) (by rfl) ?_
      refine X.bi ?_
      refine X.nil ?_
      refine R.cond (by rfl) (fun hc12 => ?_) (fun hc12 => ?_)
      · obtain ⟨x10, xs11, hd8, hx8, hds8, hlt8⟩ := drop_atI hza8 hc12
        rw [hd8] at h
        rw [w_eqIntSS_L1] at h
        refine Run.skip ?_
        refine Run.seq ?_
        refine Run.block ?_
        refine Run.seq ?_
        refine Run.draw (footOf []) mixed (by kernel_rfl) (by kernel_rfl) ?_
        refine X.mv ?_
        refine X.mv ?_
        refine X.index_s elt30 (by rfl) (by rfl) (idxL_spec hx8).1 (idxL_map l_int hx8) (by rfl) (by rfl) (by rfl) ?_
        refine X.load_c shp26 (by rfl) (by rfl) (by rfl) (by rfl) ?_
        refine X.mv ?_
        refine X.mv ?_
        obtain ⟨v13, hv13, h⟩ := bindE h
        refine X.index_s elt30 (by rfl) (by rfl) (idxL_spec hv13).1 (idxL_map l_int hv13) (by rfl) (by rfl) (by rfl) ?_
        refine X.load_c shp26 (by rfl) (by rfl) (by rfl) (by rfl) ?_
        obtain ⟨v14, hv14, h⟩ := bindE h
        refine X.callP (w_eqIntS_pc _ _ _ hv14) (by rfl) (by rfl) (by rfl) (by trivial) (by rfl) (by rfl) (by rfl) (by rfl) ?_
        refine X.un (by rfl) (by rfl) (by rfl) ?_
        refine X.nil ?_
        refine R.cond (by rfl) (fun hc15 => ?_) (fun hc15 => ?_)
        · replace h := condT hc15 h
          refine Run.sr ?_
          refine X.an ?_
          cases h
          have h := hup3
          replace h := elimR h
          cases h
          refine R.fin1 Tryz.results97 (by rfl) (by rfl) ?_
          rfl
        · replace h := condF hc15 h
          refine Run.skip ?_
          refine Run.blk ?_
          refine Run.reg ?_
          refine X.mv ?_
          refine X.add (by rfl) (by rfl) (by omega) (by rfl) ?_
          refine X.an ?_
          exact hag8 (n8 - 1) (z9 + 1) _ _ (by omega) ⟨by first | omega | (dsimp only; omega), by first | omega | (dsimp only; omega), by first | (rw [hds8]; exact h) | (dsimp only; rw [hds8]; exact h)⟩ (by trivial) (by trivial) (by rfl) (by rfl)
      · rw [drop_endI hza8 hc12] at h
        rw [w_eqIntSS_L1] at h
        refine Run.exit (by rfl) ?_
        exact hmeet4 () _ _ (Option.some.inj h) (by trivial) (by trivial) (by rfl) (by rfl)
    rintro p16 rfl
    replace h := elimL h
    refine Run.sr ?_
    refine X.an ?_
    cases h
    refine R.fin1 Tryz.results97 (by rfl) (by rfl) ?_
    rfl
theorem w_eqResource_pc (b0 : TResource) (b1 : TResource) (r : Bool) (h : w_eqResource b0 b1 = some r) : PC Tryz.prog 259 [eTResource b0, eTResource b1] (bool r) := by
  unfold w_eqResource at h
  refine PC.start Tryz.func259 Tryz.ntmps259 rfl ok259 rfl ?_
  refine Run.sr ?_
  refine X.box (by rfl) (by rfl) (by repeat (first | trivial | refine ⟨by first | rfl | simp [setL], ?_⟩)) (by rfl) (by rfl) (by rfl) (by rfl) ?_
  refine X.box (by rfl) (by rfl) (by repeat (first | trivial | refine ⟨by first | rfl | simp [setL], ?_⟩)) (by rfl) (by rfl) (by rfl) (by rfl) ?_
  refine X.an ?_
  refine Run.seq ?_
  refine Run.sr ?_
  refine X.fieldAddr_l fld64_0 (by rfl) (by rfl) ?_
  refine X.ld shp62 ?_
  refine X.fieldAddr_l fld64_0 (by rfl) (by rfl) ?_
  refine X.ld shp62 ?_
  obtain ⟨v1, hv1, h⟩ := bindE h
  refine X.callP (w_eqStepS_pc _ _ _ hv1) (by rfl) (by rfl) (by rfl) (by trivial) (by rfl) (by rfl) (by rfl) (by rfl) ?_
  refine X.un (by rfl) (by rfl) (by rfl) ?_
  refine X.nil ?_
  refine R.cond (by rfl) (fun hc2 => ?_) (fun hc2 => ?_)
  · replace h := condT hc2 h
    refine Run.sr ?_
    refine X.an ?_
    cases h
    refine R.fin1 Tryz.results259 (by rfl) (by rfl) ?_
    rfl
  · replace h := condF hc2 h
    refine Run.skip ?_
    refine Run.seq ?_
    refine Run.sr ?_
    refine X.fieldAddr_l fld64_1 (by rfl) (by rfl) ?_
    refine X.ld shp30 ?_
    refine X.fieldAddr_l fld64_1 (by rfl) (by rfl) ?_
    refine X.ld shp30 ?_
    obtain ⟨v3, hv3, h⟩ := bindE h
    refine X.callP (w_eqIntSS_pc _ _ _ hv3) (by rfl) (by rfl) (by rfl) (by trivial) (by rfl) (by rfl) (by rfl) (by rfl) ?_
    refine X.un (by rfl) (by rfl) (by rfl) ?_
    refine X.nil ?_
    refine R.cond (by rfl) (fun hc4 => ?_) (fun hc4 => ?_)
    · replace h := condT hc4 h
      refine Run.sr ?_
      refine X.an ?_
      cases h
      refine R.fin1 Tryz.results259 (by rfl) (by rfl) ?_
      rfl
    · replace h := condF hc4 h
      refine Run.skip ?_
      refine Run.sr ?_
      refine X.an ?_
      cases h
      refine R.fin1 Tryz.results259 (by rfl) (by rfl) ?_
      rfl
theorem w_eqResourceS_pc (b0 : List TResource) (b1 : List TResource) (r : Bool) (h : w_eqResourceS b0 b1 = some r) : PC Tryz.prog 151 [.slice (b0.map eTResource), .slice (b1.map eTResource)] (bool r) := by
  unfold w_eqResourceS at h
  refine PC.start Tryz.func151 Tryz.ntmps151 rfl ok151 rfl ?_
  refine Run.sr ?_
  refine X.an ?_
  refine Run.seq ?_
  refine Run.sr ?_
  refine X.mv ?_
  refine X.len_s elt25 (by rfl) (by exact List.length_map ..) (by rfl) ?_
  refine X.mv ?_
  refine X.len_s elt25 (by rfl) (by exact List.length_map ..) (by rfl) ?_
  refine X.bi ?_
  refine X.nil ?_
  refine R.cond (by rfl) (fun hc1 => ?_) (fun hc1 => ?_)
  · replace h := condT hc1 h
    refine Run.sr ?_
    refine X.an ?_
    cases h
    refine R.fin1 Tryz.results151 (by rfl) (by rfl) ?_
    rfl
  · replace h := condF hc1 h
    refine Run.skip ?_
    refine Run.seq ?_
    refine Run.sr ?_
    refine X.an ?_
    obtain ⟨o2, ho2, h⟩ := bindE h
    refine R.join2 (β := Unit) [] [] (fun p16 S => S) (fun p16 M => M) (fun p16 => (Sum.inl p16) = o2) ?_ ?_
    · intro JJ5 hmeet4
      have hup3 := h; clear h; have h := ho2; clear ho2
      refine Run.block ?_
      refine R.bndS (t := 0) (by rfl) (fun hbd8 => ?_)
      replace hbd8 : b0.length ≤ 9223372036854775807 := by first | (rw [List.length_map] at hbd8; exact hbd8) | simp
      refine R.loop2 (β := Int) [(0, .slice (b0.map eTResource)), (1, .slice (b1.map eTResource))] [] (fun bb S => (5, int bb) :: S) (fun bb M => M) (fun n bb => 0 ≤ bb ∧ bb + n = (b0.length : Int) ∧ w_eqResourceS_L1 b1 (b0.drop bb.toNat) bb = some o2) b0.length (0 : Int) (by repeat (first | trivial | refine ⟨by first | rfl | simp [setL], ?_⟩)) (by repeat (first | trivial | refine ⟨by first | rfl | simp [setL], ?_⟩)) (by rfl) (by rfl) ⟨Int.le_refl _, by simp, h⟩ ?_
      clear h
      rintro JJ8 n8 z9 hag8 ⟨hza8, hzb8, h⟩
      refine Run.seq ?_
      refine Run.sr ?_
      refine X.mv ?_
      refine X.mv ?_
      refine X.len_s elt25 (by rfl) (by exact List.length_map ..) (by rfl) ?_
      refine X.bi ?_
      refine X.nil ?_
      refine R.cond (by rfl) (fun hc12 => ?_) (fun hc12 => ?_)
      · obtain ⟨x10, xs11, hd8, hx8, hds8, hlt8⟩ := drop_atI hza8 hc12
        rw [hd8] at h
        rw [w_eqResourceS_L1] at h
        refine Run.skip ?_
        refine Run.seq ?_
        refine Run.block ?_
        refine Run.seq ?_
        refine Run.draw (footOf []) mixed (by kernel_rfl) (by kernel_rfl) ?_
        refine X.mv ?_
        refine X.mv ?_
        refine X.index_s elt25 (by rfl) (by rfl) (idxL_spec hx8).1 (idxL_map eTResource hx8) (by rfl) (by rfl) (by rfl) ?_
        refine X.load_c shp64 (by rfl) (by rfl) (by rfl) (by rfl) ?_
        refine X.mv ?_
        refine X.mv ?_
        obtain ⟨v13, hv13, h⟩ := bindE h
        refine X.index_s elt25 (by rfl) (by rfl) (idxL_spec hv13).1 (idxL_map eTResource hv13) (by rfl) (by rfl) (by rfl) ?_
        refine X.load_c shp64 (by rfl) (by rfl) (by rfl) (by rfl) ?_
        obtain ⟨v14, hv14, h⟩ := bindE h
        refine X.callP (w_eqResource_pc _ _ _ hv14) (by rfl) (by rfl) (by rfl) (by trivial) (by rfl) (by rfl) (by rfl) (by rfl) ?_
        refine X.un (by rfl) (by rfl) (by rfl) ?_
        refine X.nil ?_
        refine R.cond (by rfl) (fun hc15 => ?_) (fun hc15 => ?_)
        · replace h := condT hc15 h
          refine Run.sr ?_
          refine X.an ?_
          cases h
          have h := hup3
          replace h := elimR h
          cases h
          refine R.fin1 Tryz.results151 (by rfl) (by rfl) ?_
          rfl
        · replace h := condF hc15 h
          refine Run.skip ?_
          refine Run.blk ?_
          refine Run.reg ?_
          refine X.mv ?_
          refine X.add (by rfl) (by rfl) (by omega) (by rfl) ?_
          refine X.an ?_
          exact hag8 (n8 - 1) (z9 + 1) _ _ (by omega) ⟨by first | omega | (dsimp only; omega), by first | omega | (dsimp only; omega), by first | (rw [hds8]; exact h) | (dsimp only; rw [hds8]; exact h)⟩ (by trivial) (by trivial) (by rfl) (by rfl)
      · rw [drop_endI hza8 hc12] at h
        rw [w_eqResourceS_L1] at h
        refine Run.exit (by rfl) ?_
        exact hmeet4 () _ _ (Option.some.inj h) (by trivial) (by trivial) (by rfl) (by rfl)
    rintro p16 rfl
    replace h := elimL h
    refine Run.sr ?_
    refine X.an ?_
    cases h
    refine R.fin1 Tryz.results151 (by rfl) (by rfl) ?_
    rfl
theorem w_eqProject_pc (b0 : TProject) (b1 : TProject) (r : Bool) (h : w_eqProject b0 b1 = some r) : PC Tryz.prog 54 [eTProject b0, eTProject b1] (bool r) := by
  unfold w_eqProject at h
  refine PC.start Tryz.func54 Tryz.ntmps54 rfl ok54 rfl ?_
  refine Run.sr ?_
  refine X.box (by rfl) (by rfl) (by repeat (first | trivial | refine ⟨by first | rfl | simp [setL], ?_⟩)) (by rfl) (by rfl) (by rfl) (by rfl) ?_
  refine X.box (by rfl) (by rfl) (by repeat (first | trivial | refine ⟨by first | rfl | simp [setL], ?_⟩)) (by rfl) (by rfl) (by rfl) (by rfl) ?_
  refine X.an ?_
  refine Run.seq ?_
  refine Run.sr ?_
  refine X.fieldAddr_l fld28_0 (by rfl) (by rfl) ?_
  refine X.ld shp3 ?_
  refine X.fieldAddr_l fld28_0 (by rfl) (by rfl) ?_
  refine X.ld shp3 ?_
  refine X.bi ?_
  refine X.nil ?_
  refine R.cond (by rfl) (fun hc1 => ?_) (fun hc1 => ?_)
  · replace h := condT hc1 h
    refine Run.sr ?_
    refine X.an ?_
    cases h
    refine R.fin1 Tryz.results54 (by rfl) (by rfl) ?_
    rfl
  · replace h := condF hc1 h
    refine Run.skip ?_
    refine Run.seq ?_
    refine Run.sr ?_
    refine X.fieldAddr_l fld28_1 (by rfl) (by rfl) ?_
    refine X.ld shp23 ?_
    refine X.fieldAddr_l fld28_1 (by rfl) (by rfl) ?_
    refine X.ld shp23 ?_
    obtain ⟨v2, hv2, h⟩ := bindE h
    refine X.callP (w_eqActivityS_pc _ _ _ hv2) (by rfl) (by rfl) (by rfl) (by trivial) (by rfl) (by rfl) (by rfl) (by rfl) ?_
    refine X.un (by rfl) (by rfl) (by rfl) ?_
    refine X.nil ?_
    refine R.cond (by rfl) (fun hc3 => ?_) (fun hc3 => ?_)
    · replace h := condT hc3 h
      refine Run.sr ?_
      refine X.an ?_
      cases h
      refine R.fin1 Tryz.results54 (by rfl) (by rfl) ?_
      rfl
    · replace h := condF hc3 h
      refine Run.skip ?_
      refine Run.seq ?_
      refine Run.sr ?_
      refine X.fieldAddr_l fld28_2 (by rfl) (by rfl) ?_
      refine X.ld shp24 ?_
      refine X.fieldAddr_l fld28_2 (by rfl) (by rfl) ?_
      refine X.ld shp24 ?_
      obtain ⟨v4, hv4, h⟩ := bindE h
      refine X.callP (w_eqLinkS_pc _ _ _ hv4) (by rfl) (by rfl) (by rfl) (by trivial) (by rfl) (by rfl) (by rfl) (by rfl) ?_
      refine X.un (by rfl) (by rfl) (by rfl) ?_
      refine X.nil ?_
      refine R.cond (by rfl) (fun hc5 => ?_) (fun hc5 => ?_)
      · replace h := condT hc5 h
        refine Run.sr ?_
        refine X.an ?_
        cases h
        refine R.fin1 Tryz.results54 (by rfl) (by rfl) ?_
        rfl
      · replace h := condF hc5 h
        refine Run.skip ?_
        refine Run.seq ?_
        refine Run.sr ?_
        refine X.fieldAddr_l fld28_3 (by rfl) (by rfl) ?_
        refine X.ld shp25 ?_
        refine X.fieldAddr_l fld28_3 (by rfl) (by rfl) ?_
        refine X.ld shp25 ?_
        obtain ⟨v6, hv6, h⟩ := bindE h
        refine X.callP (w_eqResourceS_pc _ _ _ hv6) (by rfl) (by rfl) (by rfl) (by trivial) (by rfl) (by rfl) (by rfl) (by rfl) ?_
        refine X.un (by rfl) (by rfl) (by rfl) ?_
        refine X.nil ?_
        refine R.cond (by rfl) (fun hc7 => ?_) (fun hc7 => ?_)
        · replace h := condT hc7 h
          refine Run.sr ?_
          refine X.an ?_
          cases h
          refine R.fin1 Tryz.results54 (by rfl) (by rfl) ?_
          rfl
        · replace h := condF hc7 h
          refine Run.skip ?_
          refine Run.seq ?_
          refine Run.sr ?_
          refine X.fieldAddr_l fld28_4 (by rfl) (by rfl) ?_
          refine X.ld shp26 ?_
          refine X.fieldAddr_l fld28_4 (by rfl) (by rfl) ?_
          refine X.ld shp26 ?_
          obtain ⟨v8, hv8, h⟩ := bindE h
          refine X.callP (w_eqIntS_pc _ _ _ hv8) (by rfl) (by rfl) (by rfl) (by trivial) (by rfl) (by rfl) (by rfl) (by rfl) ?_
          refine X.un (by rfl) (by rfl) (by rfl) ?_
          refine X.nil ?_
          refine R.cond (by rfl) (fun hc9 => ?_) (fun hc9 => ?_)
          · replace h := condT hc9 h
            refine Run.sr ?_
            refine X.an ?_
            cases h
            refine R.fin1 Tryz.results54 (by rfl) (by rfl) ?_
            rfl
          · replace h := condF hc9 h
            refine Run.skip ?_
            refine Run.sr ?_
            refine X.an ?_
            cases h
            refine R.fin1 Tryz.results54 (by rfl) (by rfl) ?_
            rfl
theorem s_l04Least_pc (b0 : TActivity) (b1 : List Int) (b2 : Int) (b3 : Bool) (b4 : Bool) (r : Int) (h : s_l04Least b0 b1 b2 b3 b4 = some r) : PC Tryz.prog 268 [eTActivity b0, .slice (b1.map int), int b2, bool b3, bool b4] (int r) := by
  unfold s_l04Least at h
  refine PC.start Tryz.func268 Tryz.ntmps268 rfl ok268 rfl ?_
  refine Run.sr ?_
  refine X.box (by rfl) (by rfl) (by repeat (first | trivial | refine ⟨by first | rfl | simp [setL], ?_⟩)) (by rfl) (by rfl) (by rfl) (by rfl) ?_
  refine X.an ?_
  refine Run.sr ?_
  refine X.an ?_
  refine Run.sr ?_
  refine X.an ?_
  refine Run.seq ?_
  refine Run.sr ?_
  refine X.fieldAddr_l fld50_2 (by rfl) (by rfl) ?_
  refine X.ld shp48 ?_
  refine X.len_s elt48 (by rfl) (by exact List.length_map ..) (by rfl) ?_
  refine X.mn ?_
  obtain ⟨o1, ho1, h⟩ := bindE h
  refine R.join2 (β := Int) [] [] (fun p34 S => (11, int p34) :: S) (fun p34 M => M) (fun p34 => (Sum.inl p34) = o1) ?_ ?_
  · intro JJ4 hmeet3
    have hup2 := h; clear h; have h := ho1; clear ho1
    refine Run.block ?_
    refine R.bndS (t := 18) (by rfl) (fun hbd7 => ?_)
    replace hbd7 : b0.Modes.length ≤ 9223372036854775807 := by first | (rw [List.length_map] at hbd7; exact hbd7) | simp
    refine R.loop2 (β := Int × Int × Bool) [(1, .slice (b1.map int)), (2, int b2), (3, bool b3), (4, bool b4), (18, .slice (b0.Modes.map eTMode)), (19, int (b0.Modes.length : Int))] [] (fun bb S => (11, int bb.2.1) :: (12, bool bb.2.2) :: (20, int bb.1) :: S) (fun bb M => M) (fun n bb => 0 ≤ bb.1 ∧ bb.1 + n = (b0.Modes.length : Int) ∧ s_l04Least_L1 b1 b2 b3 b4 (b0.Modes.drop bb.1.toNat) bb.1 bb.2.1 bb.2.2 = some o1) b0.Modes.length (0, 0, false) (by repeat (first | trivial | refine ⟨by first | rfl | simp [setL], ?_⟩)) (by repeat (first | trivial | refine ⟨by first | rfl | simp [setL], ?_⟩)) (by rfl) (by rfl) ⟨Int.le_refl _, by simp, h⟩ ?_
    clear h
    rintro JJ7 n7 ⟨z8, a9, a10⟩ hag7 ⟨hza7, hzb7, h⟩
    dsimp only at hza7 hzb7 h
    refine Run.sr ?_
    refine X.bi ?_
    refine X.nil ?_
    refine Run.seq ?_
    refine R.cond (by rfl) (fun hc13 => ?_) (fun hc13 => ?_)
    · obtain ⟨x11, xs12, hd7, hx7, hds7, hlt7⟩ := drop_atI hza7 hc13
      rw [hd7] at h
      rw [s_l04Least_L1] at h
      refine Run.skip ?_
      refine Run.seq ?_
      refine Run.block ?_
      refine Run.sr ?_
      refine X.mv ?_
      refine X.index_s elt48 (by rfl) (by rfl) (idxL_spec hx7).1 (idxL_map eTMode hx7) (by rfl) (by rfl) (by rfl) ?_
      refine X.load_c shp47 (by rfl) (by rfl) (by rfl) (by rfl) ?_
      refine X.alloc zer47 (by rfl) (by rfl) (by rfl) ?_
      refine X.as ?_
      refine X.store_l shp47 (by rfl) (by rfl) (by rfl) (by rfl) (by repeat (first | trivial | refine ⟨by first | rfl | simp [setL], ?_⟩)) (by rfl) (by rfl) (by rfl) ?_
      refine X.nil ?_
      refine Run.seq ?_
      refine Run.sr ?_
      refine X.mv ?_
      refine X.mv ?_
      obtain ⟨v14, hv14, h⟩ := bindE h
      refine X.callP (s_SetHas_pc _ _ _ hv14) (by rfl) (by rfl) (by rfl) (by trivial) (by rfl) (by rfl) (by rfl) (by rfl) ?_
      refine X.un (by rfl) (by rfl) (by rfl) ?_
      refine X.nil ?_
      refine R.cond (by rfl) (fun hc15 => ?_) (fun hc15 => ?_)
      · replace h := condT hc15 h
        refine Run.exit (by rfl) ?_
        refine Run.reg ?_
        refine X.add (by rfl) (by rfl) (by omega) (by rfl) ?_
        refine X.mn ?_
        exact hag7 (n7 - 1) (z8 + 1, a9, a10) _ _ (by omega) ⟨by first | omega | (dsimp only; omega), by first | omega | (dsimp only; omega), by first | (rw [hds7]; exact h) | (dsimp only; rw [hds7]; exact h)⟩ (by trivial) (by trivial) (by rfl) (by rfl)
      · replace h := condF hc15 h
        refine Run.skip ?_
        refine Run.sr ?_
        refine X.fieldAddr_l fld47_1 (by rfl) (by rfl) ?_
        refine X.ld shp26 ?_
        refine X.an ?_
        refine Run.seq ?_
        refine Run.sr ?_
        refine X.mn ?_
        obtain ⟨o16, ho16, h⟩ := bindE h
        refine R.join2 (β := (List Int)) [(1, .slice (b1.map int)), (2, int b2), (3, bool b3), (4, bool b4), (11, int a9), (12, bool a10), (14, .lptr 896 0), (18, .slice (b0.Modes.map eTMode)), (19, int (b0.Modes.length : Int)), (20, int z8)] [(896, .blk true [int x11.Duration, .slice (x11.Usage.map int), .slice (x11.Consumption.map int)])] (fun p21 S => (15, .slice (p21.map int)) :: S) (fun p21 M => M) (fun p21 => p21 = o16) ?_ ?_
        · intro JJ19 hmeet18
          have hup17 := h; clear h; have h := ho16; clear ho16
          refine R.cond (by rfl) (fun hc20 => ?_) (fun hc20 => ?_)
          · replace h := condT hc20 h
            refine Run.reg ?_
            refine X.fieldAddr_l fld47_2 (by rfl) (by rfl) ?_
            refine X.ld shp26 ?_
            refine X.an ?_
            exact hmeet18 x11.Consumption _ _ (Option.some.inj h) (by trivial) (by trivial) (by rfl) (by rfl)
          · replace h := condF hc20 h
            refine Run.skip ?_
            exact hmeet18 x11.Usage _ _ (Option.some.inj h) (by trivial) (by trivial) (by rfl) (by rfl)
        rintro p21 rfl
        refine Run.seq ?_
        refine Run.sr ?_
        refine X.mv ?_
        refine X.mv ?_
        refine X.len_s elt26 (by rfl) (by exact List.length_map ..) (by rfl) ?_
        refine X.subW (by rfl) (by rfl) (by rfl) ?_
        obtain ⟨v22, hv22, h⟩ := bindE h
        refine X.callP (s_l01In_pc _ _ _ _ hv22) (by rfl) (by rfl) (by rfl) (by trivial) (by rfl) (by rfl) (by rfl) (by rfl) ?_
        refine X.un (by rfl) (by rfl) (by rfl) ?_
        refine X.nil ?_
        refine R.cond (by rfl) (fun hc23 => ?_) (fun hc23 => ?_)
        · replace h := condT hc23 h
          refine Run.sr ?_
          refine X.an ?_
          cases h
          have h := hup2
          replace h := elimR h
          cases h
          refine R.fin1 Tryz.results268 (by rfl) (by rfl) ?_
          rfl
        · replace h := condF hc23 h
          refine Run.skip ?_
          refine Run.sr ?_
          refine X.mv ?_
          refine X.mv ?_
          obtain ⟨v24, hv24, h⟩ := bindE h
          refine X.index_s elt26 (by rfl) (by rfl) (idxL_spec hv24).1 (idxL_map int hv24) (by rfl) (by rfl) (by rfl) ?_
          refine X.load_c shp3 (by rfl) (by rfl) (by rfl) (by rfl) ?_
          refine X.an ?_
          refine Run.seq ?_
          refine Run.sr ?_
          refine X.mn ?_
          obtain ⟨o25, ho25, h⟩ := bindE h
          refine R.join2 (β := Int) [(1, .slice (b1.map int)), (2, int b2), (3, bool b3), (4, bool b4), (11, int a9), (12, bool a10), (18, .slice (b0.Modes.map eTMode)), (19, int (b0.Modes.length : Int)), (20, int z8)] [] (fun p30 S => (16, int p30) :: S) (fun p30 M => M) (fun p30 => p30 = o25) ?_ ?_
          · intro JJ28 hmeet27
            have hup26 := h; clear h; have h := ho25; clear ho25
            refine R.cond (by rfl) (fun hc29 => ?_) (fun hc29 => ?_)
            · replace h := condT hc29 h
              refine Run.reg ?_
              refine X.mv ?_
              refine X.fieldAddr_l fld47_0 (by rfl) (by rfl) ?_
              refine X.ld shp3 ?_
              refine X.mulW (by rfl) (by rfl) (by rfl) ?_
              refine X.an ?_
              exact hmeet27 (W (v24 * x11.Duration)) _ _ (Option.some.inj h) (by trivial) (by trivial) (by rfl) (by rfl)
            · replace h := condF hc29 h
              refine Run.skip ?_
              exact hmeet27 v24 _ _ (Option.some.inj h) (by trivial) (by trivial) (by rfl) (by rfl)
          rintro p30 rfl
          refine Run.seq ?_
          refine Run.seq ?_
          obtain ⟨e31, he31, h2⟩ := bindE h
          refine R.regG [(1, .slice (b1.map int)), (2, int b2), (3, bool b3), (4, bool b4), (11, int a9), (16, int p30), (18, .slice (b0.Modes.map eTMode)), (19, int (b0.Modes.length : Int)), (20, int z8), (55, bool e31)] [] ?_ ?_
          · clear h; have h := he31; clear he31 h2
            refine X.mv ?_
            refine X.un (by rfl) (by rfl) (by rfl) ?_
            refine X.mv ?_
            refine X.ifG (by rfl) (by rfl) (by rfl) (fun hb32 => ?_) (fun hb32 => ?_)
            · replace h := condF hb32 h
              refine X.mv ?_
              refine X.gy ?_
              refine X.mv ?_
              refine X.gy ?_
              refine X.bi ?_
              refine X.pickF (by rfl) (by first | rfl | assumption) (by rfl) (by rfl) ?_
              cases h
              exact X.endG (by trivial) (by trivial) (by rfl) (by rfl)
            · replace h := condT hb32 h
              refine X.gn ?_
              refine X.gn ?_
              refine X.pickT (by rfl) (by first | rfl | assumption) (by rfl) (by rfl) ?_
              cases h
              exact X.endG (by trivial) (by trivial) (by rfl) (by rfl)
          replace h := h2; clear h2
          refine R.cond (by rfl) (fun hc33 => ?_) (fun hc33 => ?_)
          · replace h := condT hc33 h
            refine Run.reg ?_
            refine X.mv ?_
            refine X.an ?_
            refine Run.reg ?_
            refine X.an ?_
            refine Run.blk ?_
            refine Run.reg ?_
            refine X.add (by rfl) (by rfl) (by omega) (by rfl) ?_
            refine X.mn ?_
            exact hag7 (n7 - 1) (z8 + 1, p30, true) _ _ (by omega) ⟨by first | omega | (dsimp only; omega), by first | omega | (dsimp only; omega), by first | (rw [hds7]; exact h) | (dsimp only; rw [hds7]; exact h)⟩ (by trivial) (by trivial) (by rfl) (by rfl)
          · replace h := condF hc33 h
            refine Run.skip ?_
            refine Run.reg ?_
            refine X.an ?_
            refine Run.blk ?_
            refine Run.reg ?_
            refine X.add (by rfl) (by rfl) (by omega) (by rfl) ?_
            refine X.mn ?_
            exact hag7 (n7 - 1) (z8 + 1, a9, true) _ _ (by omega) ⟨by first | omega | (dsimp only; omega), by first | omega | (dsimp only; omega), by first | (rw [hds7]; exact h) | (dsimp only; rw [hds7]; exact h)⟩ (by trivial) (by trivial) (by rfl) (by rfl)
    · rw [drop_endI hza7 hc13] at h
      rw [s_l04Least_L1] at h
      refine Run.exit (by rfl) ?_
      exact hmeet3 a9 _ _ (Option.some.inj h) (by trivial) (by trivial) (by rfl) (by rfl)
  rintro p34 rfl
  replace h := elimL h
  refine Run.sr ?_
  refine X.mv ?_
  refine X.an ?_
  cases h
  refine R.fin1 Tryz.results268 (by rfl) (by rfl) ?_
  rfl
theorem s_MinUsage_pc (b0 : TActivity) (b1 : List Int) (b2 : Int) (r : Int) (h : s_MinUsage b0 b1 b2 = some r) : PC Tryz.prog 260 [eTActivity b0, .slice (b1.map int), int b2] (int r) := by
  unfold s_MinUsage at h
  refine PC.start Tryz.func260 Tryz.ntmps260 rfl ok260 rfl ?_
  refine Run.sr ?_
  refine X.box (by rfl) (by rfl) (by repeat (first | trivial | refine ⟨by first | rfl | simp [setL], ?_⟩)) (by rfl) (by rfl) (by rfl) (by rfl) ?_
  refine X.an ?_
  refine Run.sr ?_
  refine X.ld shp50 ?_
  refine X.mv ?_
  refine X.mv ?_
  obtain ⟨v1, hv1, h⟩ := bindE h
  refine X.callP (s_l04Least_pc _ _ _ _ _ _ hv1) (by rfl) (by rfl) (by rfl) (by trivial) (by rfl) (by rfl) (by rfl) (by rfl) ?_
  refine X.an ?_
  cases h
  refine R.fin1 Tryz.results260 (by rfl) (by rfl) ?_
  rfl
theorem s_l14Need_pc (b0 : TProject) (b1 : TDomain) (b2 : Int) (b3 : Int) (r : Int) (h : s_l14Need b0 b1 b2 b3 = some r) : PC Tryz.prog 154 [eTProject b0, eTDomain b1, int b2, int b3] (int r) := by
  unfold s_l14Need at h
  refine PC.start Tryz.func154 Tryz.ntmps154 rfl ok154 rfl ?_
  refine Run.sr ?_
  refine X.box (by rfl) (by rfl) (by repeat (first | trivial | refine ⟨by first | rfl | simp [setL], ?_⟩)) (by rfl) (by rfl) (by rfl) (by rfl) ?_
  refine X.box (by rfl) (by rfl) (by repeat (first | trivial | refine ⟨by first | rfl | simp [setL], ?_⟩)) (by rfl) (by rfl) (by rfl) (by rfl) ?_
  refine X.an ?_
  refine Run.seq ?_
  refine Run.draw (footOf [(1, ([256], [], [], [])), (6, ([320], [], [], []))]) mixed (by kernel_rfl) (by kernel_rfl) ?_
  refine X.fieldAddr_l fld28_1 (by rfl) (by rfl) ?_
  refine X.ld shp23 ?_
  refine X.mv ?_
  obtain ⟨v1, hv1, h⟩ := bindE h
  refine X.index_s elt23 (by rfl) (by rfl) (idxL_spec hv1).1 (idxL_map eTActivity hv1) (by rfl) (by rfl) (by rfl) ?_
  refine X.load_c shp50 (by rfl) (by rfl) (by rfl) (by rfl) ?_
  refine X.fieldAddr_l fld32_2 (by rfl) (by rfl) ?_
  refine X.ld shp30 ?_
  refine X.mv ?_
  obtain ⟨v2, hv2, h⟩ := bindE h
  refine X.index_s elt30 (by rfl) (by rfl) (idxL_spec hv2).1 (idxL_map l_int hv2) (by rfl) (by rfl) (by rfl) ?_
  refine X.load_c shp26 (by rfl) (by rfl) (by rfl) (by rfl) ?_
  refine X.mv ?_
  obtain ⟨v3, hv3, h⟩ := bindE h
  refine X.callP (s_MinUsage_pc _ _ _ _ hv3) (by rfl) (by rfl) (by rfl) (by trivial) (by rfl) (by rfl) (by rfl) (by rfl) ?_
  refine X.an ?_
  cases h
  refine R.fin1 Tryz.results154 (by rfl) (by rfl) ?_
  rfl
theorem i_element_pc (b0 : List Int) (b1 : Int) (r : Int × Bool) (h : i_element b0 b1 = some r) : PC Tryz.prog 238 [.slice (b0.map int), int b1] (.tuple [int r.1, bool r.2]) := by
  unfold i_element at h
  refine PC.start Tryz.func238 Tryz.ntmps238 rfl ok238 rfl ?_
  refine Run.sr ?_
  refine X.as ?_
  refine X.an ?_
  refine Run.seq ?_
  refine Run.sr ?_
  refine X.mv ?_
  refine X.mv ?_
  refine X.len_s elt26 (by rfl) (by exact List.length_map ..) (by rfl) ?_
  refine X.subW (by rfl) (by rfl) (by rfl) ?_
  obtain ⟨v1, hv1, h⟩ := bindE h
  refine X.callP (i_within_pc _ _ _ _ hv1) (by rfl) (by rfl) (by rfl) (by trivial) (by rfl) (by rfl) (by rfl) (by rfl) ?_
  refine X.un (by rfl) (by rfl) (by rfl) ?_
  refine X.nil ?_
  refine R.cond (by rfl) (fun hc2 => ?_) (fun hc2 => ?_)
  · replace h := condT hc2 h
    refine Run.sr ?_
    refine X.as ?_
    refine X.an ?_
    cases h
    refine R.fin2 Tryz.results238 (by rfl) (by rfl) (by rfl) (by repeat (first | trivial | refine ⟨by first | rfl | simp [setL], ?_⟩)) ?_
    rfl
  · replace h := condF hc2 h
    refine Run.skip ?_
    refine Run.sr ?_
    refine X.mv ?_
    refine X.mv ?_
    obtain ⟨v3, hv3, h⟩ := bindE h
    refine X.index_s elt26 (by rfl) (by rfl) (idxL_spec hv3).1 (idxL_map int hv3) (by rfl) (by rfl) (by rfl) ?_
    refine X.load_c shp3 (by rfl) (by rfl) (by rfl) (by rfl) ?_
    refine X.as ?_
    refine X.an ?_
    cases h
    refine R.fin2 Tryz.results238 (by rfl) (by rfl) (by rfl) (by repeat (first | trivial | refine ⟨by first | rfl | simp [setL], ?_⟩)) ?_
    rfl
theorem i_MinUsage_c1_pc (b0 : TMode) (c1 : Int) (r : Int × Bool) (h : i_MinUsage_c1 b0 c1 = some r) : PC Tryz.prog 237 [eTMode b0, .cptr (int c1).cells 0] (.tuple [int r.1, bool r.2]) := by
  unfold i_MinUsage_c1 at h
  refine PC.start Tryz.func237 Tryz.ntmps237 rfl ok237 rfl ?_
  refine Run.sr ?_
  refine X.box (by rfl) (by rfl) (by repeat (first | trivial | refine ⟨by first | rfl | simp [setL], ?_⟩)) (by rfl) (by rfl) (by rfl) (by rfl) ?_
  refine X.as ?_
  refine X.an ?_
  refine Run.sr ?_
  refine X.fieldAddr_l fld47_1 (by rfl) (by rfl) ?_
  refine X.ld shp26 ?_
  refine X.load_c shp3 (by rfl) (by rfl) (by rfl) (by rfl) ?_
  obtain ⟨v1, hv1, h⟩ := bindE h
  refine X.callT (i_element_pc _ _ _ hv1) (by rfl) (by rfl) (by rfl) (by trivial) (by rfl) (by rfl) (by rfl) (by rfl) (by rfl) (by rfl) ?_
  refine X.extract (by rfl) (by rfl) (by rfl) ?_
  refine X.extract (by rfl) (by rfl) (by rfl) ?_
  refine X.as ?_
  refine X.an ?_
  cases h
  refine R.fin2 Tryz.results237 (by rfl) (by rfl) (by rfl) (by repeat (first | trivial | refine ⟨by first | rfl | simp [setL], ?_⟩)) ?_
  rfl
theorem i_leastOf_pc (b0 : List TMode) (g1 : TMode → Option (Int × Bool)) (g1id : Nat) (g1c : List PV) (hg1 : ∀ (x0 : TMode) v, g1 x0 = some v → PC Tryz.prog g1id ([eTMode x0] ++ g1c) (.tuple [int v.1, bool v.2])) (r : Int) (h : i_leastOf b0 g1 = some r) : PC Tryz.prog 235 [.slice (b0.map eTMode), .fn g1id g1c] (int r) := by
  unfold i_leastOf at h
  refine PC.start Tryz.func235 Tryz.ntmps235 rfl ok235 rfl ?_
  refine Run.sr ?_
  refine X.an ?_
  refine Run.sr ?_
  refine X.an ?_
  refine Run.seq ?_
  refine Run.sr ?_
  refine X.mv ?_
  refine X.len_s elt48 (by rfl) (by exact List.length_map ..) (by rfl) ?_
  refine X.mn ?_
  obtain ⟨o1, ho1, h⟩ := bindE h
  refine R.join2 (β := Int) [] [] (fun p18 S => (5, int p18) :: S) (fun p18 M => M) (fun p18 => (Sum.inl p18) = o1) ?_ ?_
  · intro JJ4 hmeet3
    have hup2 := h; clear h; have h := ho1; clear ho1
    refine Run.block ?_
    refine R.bndS (t := 0) (by rfl) (fun hbd7 => ?_)
    replace hbd7 : b0.length ≤ 9223372036854775807 := by first | (rw [List.length_map] at hbd7; exact hbd7) | simp
    refine R.loop2 (β := Int × Int) [(1, .fn g1id g1c), (10, .slice (b0.map eTMode)), (11, int (b0.length : Int))] [] (fun bb S => (5, int bb.2) :: (12, int bb.1) :: S) (fun bb M => M) (fun n bb => 0 ≤ bb.1 ∧ bb.1 + n = (b0.length : Int) ∧ i_leastOf_L1 g1 (b0.drop bb.1.toNat) bb.1 bb.2 = some o1) b0.length (0, 0) (by repeat (first | trivial | refine ⟨by first | rfl | simp [setL], ?_⟩)) (by repeat (first | trivial | refine ⟨by first | rfl | simp [setL], ?_⟩)) (by rfl) (by rfl) ⟨Int.le_refl _, by simp, h⟩ ?_
    clear h
    rintro JJ7 n7 ⟨z8, a9⟩ hag7 ⟨hza7, hzb7, h⟩
    dsimp only at hza7 hzb7 h
    refine Run.sr ?_
    refine X.bi ?_
    refine X.nil ?_
    refine Run.seq ?_
    refine R.cond (by rfl) (fun hc12 => ?_) (fun hc12 => ?_)
    · obtain ⟨x10, xs11, hd7, hx7, hds7, hlt7⟩ := drop_atI hza7 hc12
      rw [hd7] at h
      rw [i_leastOf_L1] at h
      refine Run.skip ?_
      refine Run.seq ?_
      refine Run.block ?_
      refine Run.sr ?_
      refine X.mv ?_
      refine X.index_s elt48 (by rfl) (by rfl) (idxL_spec hx7).1 (idxL_map eTMode hx7) (by rfl) (by rfl) (by rfl) ?_
      refine X.load_c shp47 (by rfl) (by rfl) (by rfl) (by rfl) ?_
      refine X.alloc zer47 (by rfl) (by rfl) (by rfl) ?_
      refine X.as ?_
      refine X.store_l shp47 (by rfl) (by rfl) (by rfl) (by rfl) (by repeat (first | trivial | refine ⟨by first | rfl | simp [setL], ?_⟩)) (by rfl) (by rfl) (by rfl) ?_
      refine X.nil ?_
      refine Run.sr ?_
      refine X.mv ?_
      refine X.ld shp47 ?_
      obtain ⟨v13, hv13, h⟩ := bindE h
      refine X.callT (hg1 _ _ hv13) (by rfl) (by rfl) (by rfl) (by trivial) (by rfl) (by rfl) (by rfl) (by rfl) (by rfl) (by rfl) ?_
      refine X.mv ?_
      refine X.extract (by rfl) (by rfl) (by rfl) ?_
      refine X.extract (by rfl) (by rfl) (by rfl) ?_
      refine X.as ?_
      refine X.an ?_
      refine Run.seq ?_
      refine Run.sr ?_
      refine X.mv ?_
      refine X.un (by rfl) (by rfl) (by rfl) ?_
      refine X.nil ?_
      refine R.cond (by rfl) (fun hc14 => ?_) (fun hc14 => ?_)
      · replace h := condT hc14 h
        refine Run.sr ?_
        refine X.an ?_
        cases h
        have h := hup2
        replace h := elimR h
        cases h
        refine R.fin1 Tryz.results235 (by rfl) (by rfl) ?_
        rfl
      · replace h := condF hc14 h
        refine Run.skip ?_
        refine Run.seq ?_
        obtain ⟨e15, he15, h2⟩ := bindE h
        refine R.regG [(1, .fn g1id g1c), (5, int a9), (8, int v13.1), (10, .slice (b0.map eTMode)), (11, int (b0.length : Int)), (12, int z8), (31, bool e15)] [] ?_ ?_
        · clear h; have h := he15; clear he15 h2
          refine X.mv ?_
          refine X.bi ?_
          refine X.mv ?_
          refine X.ifG (by rfl) (by rfl) (by rfl) (fun hb16 => ?_) (fun hb16 => ?_)
          · replace h := condF hb16 h
            refine X.mv ?_
            refine X.gy ?_
            refine X.mv ?_
            refine X.gy ?_
            refine X.bi ?_
            refine X.pickF (by rfl) (by first | rfl | assumption) (by rfl) (by rfl) ?_
            cases h
            exact X.endG (by trivial) (by trivial) (by rfl) (by rfl)
          · replace h := condT hb16 h
            refine X.gn ?_
            refine X.gn ?_
            refine X.pickT (by rfl) (by first | rfl | assumption) (by rfl) (by rfl) ?_
            cases h
            exact X.endG (by trivial) (by trivial) (by rfl) (by rfl)
        replace h := h2; clear h2
        refine R.cond (by rfl) (fun hc17 => ?_) (fun hc17 => ?_)
        · replace h := condT hc17 h
          refine Run.reg ?_
          refine X.mv ?_
          refine X.an ?_
          refine Run.blk ?_
          refine Run.reg ?_
          refine X.add (by rfl) (by rfl) (by omega) (by rfl) ?_
          refine X.mn ?_
          exact hag7 (n7 - 1) (z8 + 1, v13.1) _ _ (by omega) ⟨by first | omega | (dsimp only; omega), by first | omega | (dsimp only; omega), by first | (rw [hds7]; exact h) | (dsimp only; rw [hds7]; exact h)⟩ (by trivial) (by trivial) (by rfl) (by rfl)
        · replace h := condF hc17 h
          refine Run.skip ?_
          refine Run.blk ?_
          refine Run.reg ?_
          refine X.add (by rfl) (by rfl) (by omega) (by rfl) ?_
          refine X.mn ?_
          exact hag7 (n7 - 1) (z8 + 1, a9) _ _ (by omega) ⟨by first | omega | (dsimp only; omega), by first | omega | (dsimp only; omega), by first | (rw [hds7]; exact h) | (dsimp only; rw [hds7]; exact h)⟩ (by trivial) (by trivial) (by rfl) (by rfl)
    · rw [drop_endI hza7 hc12] at h
      rw [i_leastOf_L1] at h
      refine Run.exit (by rfl) ?_
      exact hmeet3 a9 _ _ (Option.some.inj h) (by trivial) (by trivial) (by rfl) (by rfl)
  rintro p18 rfl
  replace h := elimL h
  refine Run.sr ?_
  refine X.mv ?_
  refine X.an ?_
  cases h
  refine R.fin1 Tryz.results235 (by rfl) (by rfl) ?_
  rfl
theorem i_MinUsage_pc (b0 : TActivity) (b1 : List Int) (b2 : Int) (r : Int) (h : i_MinUsage b0 b1 b2 = some r) : PC Tryz.prog 125 [eTActivity b0, .slice (b1.map int), int b2] (int r) := by
  unfold i_MinUsage at h
  refine PC.start Tryz.func125 Tryz.ntmps125 rfl ok125 rfl ?_
  refine Run.sr ?_
  refine X.box (by rfl) (by rfl) (by repeat (first | trivial | refine ⟨by first | rfl | simp [setL], ?_⟩)) (by rfl) (by rfl) (by rfl) (by rfl) ?_
  refine X.box (by rfl) (by rfl) (by repeat (first | trivial | refine ⟨by first | rfl | simp [setL], ?_⟩)) (by rfl) (by rfl) (by rfl) (by rfl) ?_
  refine X.an ?_
  refine Run.seq ?_
  refine R.pubBlk (n := 320) (by rfl) (by rfl) (by repeat (first | trivial | refine ⟨by first | rfl | simp [setL], ?_⟩)) ?_
  refine Run.reg ?_
  refine X.ld shp50 ?_
  refine X.mv ?_
  obtain ⟨v1, hv1, h⟩ := bindE h
  refine X.callF (i_chosen_pc _ _ _ hv1) (by rfl) (by rfl) (by rfl) (by trivial) (by rfl) (by rfl) (by rfl) (by rfl) ?_
  refine X.makeFunc (by rfl) (by rfl) (by repeat (first | trivial | refine ⟨by first | rfl | simp [setL], ?_⟩)) (by rfl) (by rfl) ?_
  obtain ⟨v2, hv2, h⟩ := bindE h
  refine X.callP (i_leastOf_pc _ (fun x0 => i_MinUsage_c1 x0 b2) _ _ (fun x0 v hv => i_MinUsage_c1_pc _ _ _ hv) _ hv2) (by rfl) (by rfl) (by rfl) (by repeat (first | trivial | refine ⟨by first | rfl | simp [setL], ?_⟩)) (by rfl) (by rfl) (by rfl) (by rfl) ?_
  refine X.an ?_
  cases h
  refine R.fin1 Tryz.results125 (by rfl) (by rfl) ?_
  rfl
theorem i_RequiredUsage_pc (b0 : TProject) (b1 : TDomain) (b2 : Int) (b3 : Int) (r : Int) (h : i_RequiredUsage b0 b1 b2 b3 = some r) : PC Tryz.prog 37 [eTProject b0, eTDomain b1, int b2, int b3] (int r) := by
  unfold i_RequiredUsage at h
  refine PC.start Tryz.func37 Tryz.ntmps37 rfl ok37 rfl ?_
  refine Run.sr ?_
  refine X.box (by rfl) (by rfl) (by repeat (first | trivial | refine ⟨by first | rfl | simp [setL], ?_⟩)) (by rfl) (by rfl) (by rfl) (by rfl) ?_
  refine X.box (by rfl) (by rfl) (by repeat (first | trivial | refine ⟨by first | rfl | simp [setL], ?_⟩)) (by rfl) (by rfl) (by rfl) (by rfl) ?_
  refine X.an ?_
  refine Run.seq ?_
  refine Run.seq ?_
  obtain ⟨v1, hv1, h⟩ := bindE h
  obtain ⟨e2, he2, h2⟩ := bindE h
  refine R.regG [(2, int b2), (3, int b3), (4, .lptr 256 0), (5, .lptr 320 0), (24, bool e2)] [(256, .blk true [int b0.Deadline, .slice (b0.Activities.map eTActivity), .slice (b0.Links.map eTLink), .slice (b0.Resources.map eTResource), .slice (b0.Stocks.map int)]), (320, .blk true [.slice (b1.MinStart.map int), .slice (b1.MaxStart.map int), .slice (b1.Modes.map l_int)])] ?_ ?_
  · clear h; have h := he2; clear he2 h2
    refine X.ld shp28 ?_
    refine X.ld shp32 ?_
    refine X.callP (i_isUsable_pc _ _ _ hv1) (by rfl) (by rfl) (by rfl) (by trivial) (by rfl) (by rfl) (by rfl) (by rfl) ?_
    refine X.un (by rfl) (by rfl) (by rfl) ?_
    refine X.mv ?_
    refine X.ifG (by rfl) (by rfl) (by rfl) (fun hb3 => ?_) (fun hb3 => ?_)
    · replace h := condF hb3 h
      refine X.ld shp28 ?_
      refine X.gy ?_
      refine X.mv ?_
      refine X.gy ?_
      obtain ⟨v4, hv4, h⟩ := bindE h
      refine X.callP (i_Project_hasActivity_pc _ _ _ hv4) (by rfl) (by rfl) (by rfl) (by trivial) (by rfl) (by rfl) (by rfl) (by rfl) ?_
      refine X.gy ?_
      refine X.un (by rfl) (by rfl) (by rfl) ?_
      refine X.pickF (by rfl) (by first | rfl | assumption) (by rfl) (by rfl) ?_
      refine X.mv ?_
      refine X.ifG (by rfl) (by rfl) (by rfl) (fun hb5 => ?_) (fun hb5 => ?_)
      · replace h := condF hb5 h
        refine X.ld shp28 ?_
        refine X.gy ?_
        refine X.mv ?_
        refine X.gy ?_
        obtain ⟨v6, hv6, h⟩ := bindE h
        refine X.callP (i_Project_hasResource_pc _ _ _ hv6) (by rfl) (by rfl) (by rfl) (by trivial) (by rfl) (by rfl) (by rfl) (by rfl) ?_
        refine X.gy ?_
        refine X.un (by rfl) (by rfl) (by rfl) ?_
        refine X.pickF (by rfl) (by first | rfl | assumption) (by rfl) (by rfl) ?_
        cases h
        exact X.endG (by trivial) (by trivial) (by rfl) (by rfl)
      · replace h := condT hb5 h
        refine X.gn ?_
        refine X.gn ?_
        refine X.gn ?_
        refine X.pickT (by rfl) (by first | rfl | assumption) (by rfl) (by rfl) ?_
        cases h
        exact X.endG (by trivial) (by trivial) (by rfl) (by rfl)
    · replace h := condT hb3 h
      refine X.gn ?_
      refine X.gn ?_
      refine X.gn ?_
      refine X.pickT (by rfl) (by first | rfl | assumption) (by rfl) (by rfl) ?_
      refine X.mv ?_
      refine X.gn ?_
      refine X.gn ?_
      refine X.gn ?_
      refine X.gn ?_
      refine X.pickT (by rfl) (by first | rfl | assumption) (by rfl) (by rfl) ?_
      cases h
      exact X.endG (by trivial) (by trivial) (by rfl) (by rfl)
  replace h := h2; clear h2
  refine R.cond (by rfl) (fun hc7 => ?_) (fun hc7 => ?_)
  · replace h := condT hc7 h
    refine Run.sr ?_
    refine X.an ?_
    cases h
    refine R.fin1 Tryz.results37 (by rfl) (by rfl) ?_
    rfl
  · replace h := condF hc7 h
    refine Run.skip ?_
    refine Run.seq ?_
    refine Run.draw (footOf [(1, ([256], [], [], [])), (6, ([320], [], [], []))]) mixed (by kernel_rfl) (by kernel_rfl) ?_
    refine X.fieldAddr_l fld28_1 (by rfl) (by rfl) ?_
    refine X.ld shp23 ?_
    refine X.mv ?_
    obtain ⟨v8, hv8, h⟩ := bindE h
    refine X.index_s elt23 (by rfl) (by rfl) (idxL_spec hv8).1 (idxL_map eTActivity hv8) (by rfl) (by rfl) (by rfl) ?_
    refine X.load_c shp50 (by rfl) (by rfl) (by rfl) (by rfl) ?_
    refine X.fieldAddr_l fld32_2 (by rfl) (by rfl) ?_
    refine X.ld shp30 ?_
    refine X.mv ?_
    obtain ⟨v9, hv9, h⟩ := bindE h
    refine X.index_s elt30 (by rfl) (by rfl) (idxL_spec hv9).1 (idxL_map l_int hv9) (by rfl) (by rfl) (by rfl) ?_
    refine X.load_c shp26 (by rfl) (by rfl) (by rfl) (by rfl) ?_
    refine X.mv ?_
    obtain ⟨v10, hv10, h⟩ := bindE h
    refine X.callP (i_MinUsage_pc _ _ _ _ hv10) (by rfl) (by rfl) (by rfl) (by trivial) (by rfl) (by rfl) (by rfl) (by rfl) ?_
    refine X.an ?_
    cases h
    refine R.fin1 Tryz.results37 (by rfl) (by rfl) ?_
    rfl
theorem s_MachineChain_pc (b0 : TProject) (b1 : TDomain) (b2 : Int) (r : List Int) (h : s_MachineChain b0 b1 b2 = some r) : PC Tryz.prog 75 [eTProject b0, eTDomain b1, int b2] (.slice (r.map int)) := by
  unfold s_MachineChain at h
  refine PC.start Tryz.func75 Tryz.ntmps75 rfl ok75 rfl ?_
  refine Run.sr ?_
  refine X.box (by rfl) (by rfl) (by repeat (first | trivial | refine ⟨by first | rfl | simp [setL], ?_⟩)) (by rfl) (by rfl) (by rfl) (by rfl) ?_
  refine X.box (by rfl) (by rfl) (by repeat (first | trivial | refine ⟨by first | rfl | simp [setL], ?_⟩)) (by rfl) (by rfl) (by rfl) (by rfl) ?_
  refine X.an ?_
  refine Run.sr ?_
  refine X.buildSlice false elt26 zer3 (by rfl) (by rfl) (by rfl) (by rfl) (by rfl) (by rfl) (by repeat (first | trivial | refine ⟨by first | rfl | simp [setL], ?_⟩)) (allSz_spec (by rfl)) (by rfl) (by rfl) (by rfl) ?_
  refine X.an ?_
  refine Run.seq ?_
  refine Run.seq ?_
  obtain ⟨v1, hv1, h⟩ := bindE h
  obtain ⟨e2, he2, h2⟩ := bindE h
  refine R.regG [(2, int b2), (3, .lptr 192 0), (4, .lptr 256 0), (7, .own 704 (([] : List Int).map int).length), (21, bool e2)] [(192, .blk true [int b0.Deadline, .slice (b0.Activities.map eTActivity), .slice (b0.Links.map eTLink), .slice (b0.Resources.map eTResource), .slice (b0.Stocks.map int)]), (256, .blk true [.slice (b1.MinStart.map int), .slice (b1.MaxStart.map int), .slice (b1.Modes.map l_int)]), (704, .obj false 3 1 (([] : List Int).map int))] ?_ ?_
  · clear h; have h := he2; clear he2 h2
    refine X.ld shp28 ?_
    refine X.ld shp32 ?_
    refine X.callP (s_l14Ok_pc _ _ _ hv1) (by rfl) (by rfl) (by rfl) (by trivial) (by rfl) (by rfl) (by rfl) (by rfl) ?_
    refine X.un (by rfl) (by rfl) (by rfl) ?_
    refine X.mv ?_
    refine X.ifG (by rfl) (by rfl) (by rfl) (fun hb3 => ?_) (fun hb3 => ?_)
    · replace h := condF hb3 h
      refine X.ld shp28 ?_
      refine X.gy ?_
      refine X.mv ?_
      refine X.gy ?_
      obtain ⟨v4, hv4, h⟩ := bindE h
      refine X.callP (s_IsMachine_pc _ _ _ hv4) (by rfl) (by rfl) (by rfl) (by trivial) (by rfl) (by rfl) (by rfl) (by rfl) ?_
      refine X.gy ?_
      refine X.un (by rfl) (by rfl) (by rfl) ?_
      refine X.pickF (by rfl) (by first | rfl | assumption) (by rfl) (by rfl) ?_
      cases h
      exact X.endG (by repeat (first | trivial | refine ⟨by first | rfl | simp [setL], ?_⟩)) (by repeat (first | trivial | refine ⟨by first | rfl | simp [setL], ?_⟩)) (by rfl) (by rfl)
    · replace h := condT hb3 h
      refine X.gn ?_
      refine X.gn ?_
      refine X.gn ?_
      refine X.pickT (by rfl) (by first | rfl | assumption) (by rfl) (by rfl) ?_
      cases h
      exact X.endG (by repeat (first | trivial | refine ⟨by first | rfl | simp [setL], ?_⟩)) (by repeat (first | trivial | refine ⟨by first | rfl | simp [setL], ?_⟩)) (by rfl) (by rfl)
  replace h := h2; clear h2
  refine R.cond (by rfl) (fun hc5 => ?_) (fun hc5 => ?_)
  · replace h := condT hc5 h
    refine Run.sr ?_
    refine X.an ?_
    cases h
    refine R.castS (t := 6) (.slice []) (by rfl) (.inr (.inl ⟨rfl, rfl⟩)) ?_
    refine R.fin1 Tryz.results75 (by rfl) (by rfl) ?_
    rfl
  · replace h := condF hc5 h
    refine Run.skip ?_
    refine Run.seq ?_
    refine Run.sr ?_
    refine X.fieldAddr_l fld28_1 (by rfl) (by rfl) ?_
    refine X.ld shp23 ?_
    refine X.len_s elt23 (by rfl) (by exact List.length_map ..) (by rfl) ?_
    refine X.mn ?_
    obtain ⟨o6, ho6, h⟩ := bindE h
    refine R.join2 (β := (List Int)) [] [] (fun p40 S => (7, .slice (p40.map int)) :: S) (fun p40 M => M) (fun p40 => p40 = o6) ?_ ?_
    · intro JJ9 hmeet8
      have hup7 := h; clear h; have h := ho6; clear ho6
      refine Run.block ?_
      refine R.castS (t := 7) (.slice (([] : List Int).map int)) (by rfl) (.inr (.inr ⟨_, _, _, _, _, rfl, (by rfl), (by first | rfl | simp [setL] | omega), rfl⟩)) ?_
      refine R.bndS (t := 23) (by rfl) (fun hbd12 => ?_)
      replace hbd12 : b0.Activities.length ≤ 9223372036854775807 := by first | (rw [List.length_map] at hbd12; exact hbd12) | simp
      refine R.loop2 (β := Int × (List Int)) [(2, int b2), (3, .lptr 192 0), (4, .lptr 256 0), (24, int (b0.Activities.length : Int))] [(192, .blk true [int b0.Deadline, .slice (b0.Activities.map eTActivity), .slice (b0.Links.map eTLink), .slice (b0.Resources.map eTResource), .slice (b0.Stocks.map int)]), (256, .blk true [.slice (b1.MinStart.map int), .slice (b1.MaxStart.map int), .slice (b1.Modes.map l_int)])] (fun bb S => (7, .slice (bb.2.map int)) :: (25, int bb.1) :: S) (fun bb M => M) (fun n bb => 0 ≤ bb.1 ∧ bb.1 + n = (b0.Activities.length : Int) ∧ s_MachineChain_L1 b0 b1 b2 (b0.Activities.drop bb.1.toNat) bb.1 bb.2 = some o6) b0.Activities.length (0, ([] : List Int)) (by repeat (first | trivial | refine ⟨by first | rfl | simp [setL], ?_⟩)) (by repeat (first | trivial | refine ⟨by first | rfl | simp [setL], ?_⟩)) (by rfl) (by rfl) ⟨Int.le_refl _, by simp, h⟩ ?_
      clear h
      rintro JJ12 n12 ⟨z13, a14⟩ hag12 ⟨hza12, hzb12, h⟩
      dsimp only at hza12 hzb12 h
      refine Run.sr ?_
      refine X.bi ?_
      refine X.nil ?_
      refine Run.seq ?_
      refine R.cond (by rfl) (fun hc17 => ?_) (fun hc17 => ?_)
      · obtain ⟨x15, xs16, hd12, hx12, hds12, hlt12⟩ := drop_atI hza12 hc17
        rw [hd12] at h
        rw [s_MachineChain_L1] at h
        refine Run.skip ?_
        refine Run.seq ?_
        refine Run.block ?_
        refine Run.sr ?_
        refine X.mv ?_
        refine X.an ?_
        refine Run.seq ?_
        refine Run.sr ?_
        refine X.ld shp28 ?_
        refine X.ld shp32 ?_
        refine X.mv ?_
        refine X.mv ?_
        obtain ⟨v18, hv18, h⟩ := bindE h
        refine X.callP (s_l14Need_pc _ _ _ _ _ hv18) (by rfl) (by rfl) (by rfl) (by trivial) (by rfl) (by rfl) (by rfl) (by rfl) ?_
        refine X.bi ?_
        refine X.nil ?_
        refine R.cond (by rfl) (fun hc19 => ?_) (fun hc19 => ?_)
        · replace h := condT hc19 h
          refine Run.exit (by rfl) ?_
          refine Run.reg ?_
          refine X.add (by rfl) (by rfl) (by omega) (by rfl) ?_
          refine X.mn ?_
          exact hag12 (n12 - 1) (z13 + 1, a14) _ _ (by omega) ⟨by first | omega | (dsimp only; omega), by first | omega | (dsimp only; omega), by first | (rw [hds12]; exact h) | (dsimp only; rw [hds12]; exact h)⟩ (by trivial) (by trivial) (by rfl) (by rfl)
        · replace h := condF hc19 h
          refine Run.skip ?_
          refine Run.sr ?_
          refine X.mv ?_
          refine X.len_s elt26 (by rfl) (by exact List.length_map ..) (by rfl) ?_
          refine X.an ?_
          refine Run.seq ?_
          obtain ⟨o20, ho20, h⟩ := bindE h
          refine R.join2 (β := Int) [(2, int b2), (3, .lptr 192 0), (4, .lptr 256 0), (7, .slice (a14.map int)), (8, int z13), (24, int (b0.Activities.length : Int)), (25, int z13)] [(192, .blk true [int b0.Deadline, .slice (b0.Activities.map eTActivity), .slice (b0.Links.map eTLink), .slice (b0.Resources.map eTResource), .slice (b0.Stocks.map int)]), (256, .blk true [.slice (b1.MinStart.map int), .slice (b1.MaxStart.map int), .slice (b1.Modes.map l_int)])] (fun p34 S => (9, int p34) :: S) (fun p34 M => M) (fun p34 => p34 = o20) ?_ ?_
          · intro JJ23 hmeet22
            have hup21 := h; clear h; have h := ho20; clear ho20
            refine Run.block ?_
            refine R.loop2 (β := Int) [(2, int b2), (3, .lptr 192 0), (4, .lptr 256 0), (7, .slice (a14.map int)), (8, int z13), (24, int (b0.Activities.length : Int)), (25, int z13)] [(192, .blk true [int b0.Deadline, .slice (b0.Activities.map eTActivity), .slice (b0.Links.map eTLink), .slice (b0.Resources.map eTResource), .slice (b0.Stocks.map int)]), (256, .blk true [.slice (b1.MinStart.map int), .slice (b1.MaxStart.map int), .slice (b1.Modes.map l_int)])] (fun bb S => (9, int bb) :: S) (fun bb M => M) (fun n bb => s_MachineChain_L2 b1 a14 z13 n bb = some o20) F0 (a14.length : Int) (by repeat (first | trivial | refine ⟨by first | rfl | simp [setL], ?_⟩)) (by repeat (first | trivial | refine ⟨by first | rfl | simp [setL], ?_⟩)) (by rfl) (by rfl) h ?_
            clear h
            rintro JJ23 n23 a25 hag23 h
            obtain _ | n23 := n23
            · exact absurd h (by simp [s_MachineChain_L2])
            rw [s_MachineChain_L2] at h
            refine Run.seq ?_
            refine Run.seq ?_
            obtain ⟨e28, he28, h2⟩ := bindE h
            refine R.drawG [(2, int b2), (3, .lptr 192 0), (4, .lptr 256 0), (7, .slice (a14.map int)), (8, int z13), (9, int a25), (24, int (b0.Activities.length : Int)), (25, int z13), (54, bool e28)] [(192, .blk true [int b0.Deadline, .slice (b0.Activities.map eTActivity), .slice (b0.Links.map eTLink), .slice (b0.Resources.map eTResource), .slice (b0.Stocks.map int)]), (256, .blk true [.slice (b1.MinStart.map int), .slice (b1.MaxStart.map int), .slice (b1.Modes.map l_int)])] (footOf [(4, ([256], [], [], [])), (13, ([256], [], [], []))]) mixed (by kernel_rfl) (by kernel_rfl) ?_ ?_
            · clear h; have h := he28; clear he28 h2
              refine X.mv ?_
              refine X.bi ?_
              refine X.mv ?_
              refine X.ifG (by rfl) (by rfl) (by rfl) (fun hb29 => ?_) (fun hb29 => ?_)
              · replace h := condT hb29 h
                refine X.fieldAddr_l fld32_0 (by rfl) (by rfl) ?_
                refine X.gy ?_
                refine X.ld shp26 ?_
                refine X.gy ?_
                refine X.mv ?_
                refine X.gy ?_
                refine X.mv ?_
                refine X.gy ?_
                refine X.subW (by rfl) (by rfl) (by rfl) ?_
                refine X.gy ?_
                obtain ⟨v30, hv30, h⟩ := bindE h
                refine X.index_s elt26 (by rfl) (by rfl) (idxL_spec hv30).1 (idxL_map int hv30) (by rfl) (by rfl) (by rfl) ?_
                refine X.gy ?_
                refine X.load_c shp3 (by rfl) (by rfl) (by rfl) (by rfl) ?_
                refine X.gy ?_
                obtain ⟨v31, hv31, h⟩ := bindE h
                refine X.index_s elt26 (by rfl) (by rfl) (idxL_spec hv31).1 (idxL_map int hv31) (by rfl) (by rfl) (by rfl) ?_
                refine X.gy ?_
                refine X.load_c shp3 (by rfl) (by rfl) (by rfl) (by rfl) ?_
                refine X.gy ?_
                refine X.fieldAddr_l fld32_0 (by rfl) (by rfl) ?_
                refine X.gy ?_
                refine X.ld shp26 ?_
                refine X.gy ?_
                refine X.mv ?_
                refine X.gy ?_
                obtain ⟨v32, hv32, h⟩ := bindE h
                refine X.index_s elt26 (by rfl) (by rfl) (idxL_spec hv32).1 (idxL_map int hv32) (by rfl) (by rfl) (by rfl) ?_
                refine X.gy ?_
                refine X.load_c shp3 (by rfl) (by rfl) (by rfl) (by rfl) ?_
                refine X.gy ?_
                refine X.bi ?_
                refine X.pickT (by rfl) (by first | rfl | assumption) (by rfl) (by rfl) ?_
                cases h
                exact X.endG (by trivial) (by trivial) (by rfl) (by rfl)
              · replace h := condF hb29 h
                refine X.gn ?_
                refine X.gn ?_
                refine X.gn ?_
                refine X.gn ?_
                refine X.gn ?_
                refine X.gn ?_
                refine X.gn ?_
                refine X.gn ?_
                refine X.gn ?_
                refine X.gn ?_
                refine X.gn ?_
                refine X.gn ?_
                refine X.gn ?_
                refine X.gn ?_
                refine X.pickF (by rfl) (by first | rfl | assumption) (by rfl) (by rfl) ?_
                cases h
                exact X.endG (by trivial) (by trivial) (by rfl) (by rfl)
            replace h := h2; clear h2
            refine R.cond (by rfl) (fun hc33 => ?_) (fun hc33 => ?_)
            · replace h := condT hc33 h
              refine Run.skip ?_
              refine Run.block ?_
              refine Run.reg ?_
              refine X.mv ?_
              refine X.subW (by rfl) (by rfl) (by rfl) ?_
              refine X.an ?_
              refine Run.blk ?_
              exact hag23 n23 (W (a25 - 1)) _ _ (by omega) h (by trivial) (by trivial) (by rfl) (by rfl)
            · replace h := condF hc33 h
              refine Run.exit (by rfl) ?_
              exact hmeet22 a25 _ _ (Option.some.inj h) (by trivial) (by trivial) (by rfl) (by rfl)
          rintro p34 rfl
          refine Run.sr ?_
          refine X.buildSlice false elt26 zer3 (by rfl) (by rfl) (by rfl) (by rfl) (by rfl) (by rfl) (by repeat (first | trivial | refine ⟨by first | rfl | simp [setL], ?_⟩)) (allSz_spec (by rfl)) (by rfl) (by rfl) (by rfl) ?_
          refine X.mv ?_
          refine X.mv ?_
          obtain ⟨v35, hv35, h⟩ := bindE h
          refine X.sliceS2 elt26 (by rfl) (by exact cells_map (f := int) (fun _ => rfl)) (by rfl) ⟨_, by rfl⟩ (subL_le _ hv35) (subL_map _ hv35) (by rfl) ?_
          obtain ⟨v36, hv36, h⟩ := bindE h
          refine X.append elt26 zer3 (by rfl) (by rfl) (by first | rfl | simp [setL] | omega) (by rfl) (.pure _) (by exact cells_map (f := int) (fun _ => rfl)) (appL_len int hv36) (appL_map int hv36) (by rfl) (by rfl) (by rfl) (by rfl) ?_
          refine X.an ?_
          refine Run.sr ?_
          refine X.mv ?_
          refine X.mv ?_
          refine X.buildSlice false elt26 zer3 (by rfl) (by rfl) (by rfl) (by rfl) (by rfl) (by rfl) (by repeat (first | trivial | refine ⟨by first | rfl | simp [setL], ?_⟩)) (allSz_spec (by rfl)) (by rfl) (by rfl) (by rfl) ?_
          obtain ⟨v37, hv37, h⟩ := bindE h
          refine X.append elt26 zer3 (by rfl) (by rfl) (by first | rfl | simp [setL] | omega) (by rfl) (.own _ _ _ _ _ _ (look_mem (by rfl)) (by first | rfl | simp [setL] | omega)) (allSz_spec (by rfl)) (appL_len int hv37) (appL_map int hv37) (by rfl) (by rfl) (by rfl) (by rfl) ?_
          refine X.an ?_
          refine Run.reg ?_
          refine X.mv ?_
          refine X.mv ?_
          refine X.mv ?_
          obtain ⟨v38, hv38, h⟩ := bindE h
          refine X.sliceS2 elt26 (by rfl) (by exact cells_map (f := int) (fun _ => rfl)) ⟨_, by rfl⟩ (by first | rfl | simp [Bound]) (subL_le _ hv38) (subL_map _ hv38) (by rfl) ?_
          obtain ⟨v39, hv39, h⟩ := bindE h
          refine X.append elt26 zer3 (by rfl) (by rfl) (by first | rfl | simp [setL] | omega) (by rfl) (.pure _) (by exact cells_map (f := int) (fun _ => rfl)) (appL_len int hv39) (appL_map int hv39) (by rfl) (by rfl) (by rfl) (by rfl) ?_
          refine X.an ?_
          refine Run.blk ?_
          refine Run.reg ?_
          refine X.add (by rfl) (by rfl) (by omega) (by rfl) ?_
          refine X.mn ?_
          refine R.castS (t := 7) (.slice (v39.map int)) (by rfl) (.inr (.inr ⟨_, _, _, _, _, rfl, (by rfl), (by first | rfl | simp [setL] | omega), rfl⟩)) ?_
          exact hag12 (n12 - 1) (z13 + 1, v39) _ _ (by omega) ⟨by first | omega | (dsimp only; omega), by first | omega | (dsimp only; omega), by first | (rw [hds12]; exact h) | (dsimp only; rw [hds12]; exact h)⟩ (by repeat (first | trivial | refine ⟨by first | rfl | simp [setL], ?_⟩)) (by repeat (first | trivial | refine ⟨by first | rfl | simp [setL], ?_⟩)) (by rfl) (by rfl)
      · rw [drop_endI hza12 hc17] at h
        rw [s_MachineChain_L1] at h
        refine Run.exit (by rfl) ?_
        exact hmeet8 a14 _ _ (Option.some.inj h) (by trivial) (by trivial) (by rfl) (by rfl)
    rintro p40 rfl
    refine Run.sr ?_
    refine X.mv ?_
    refine X.an ?_
    cases h
    refine R.fin1 Tryz.results75 (by rfl) (by rfl) ?_
    rfl
theorem i_MachineChain_c1_pc (b0 : Int) (c1 : TProject) (c2 : TDomain) (c3 : Int) (r : Bool) (h : i_MachineChain_c1 b0 c1 c2 c3 = some r) : PC Tryz.prog 176 [int b0, .cptr (eTProject c1).cells 0, .cptr (eTDomain c2).cells 0, .cptr (int c3).cells 0] (bool r) := by
  unfold i_MachineChain_c1 at h
  refine PC.start Tryz.func176 Tryz.ntmps176 rfl ok176 rfl ?_
  refine Run.sr ?_
  refine X.an ?_
  refine Run.sr ?_
  refine X.load_c shp28 (by rfl) (by rfl) (by rfl) (by rfl) ?_
  refine X.load_c shp32 (by rfl) (by rfl) (by rfl) (by rfl) ?_
  refine X.load_c shp3 (by rfl) (by rfl) (by rfl) (by rfl) ?_
  refine X.mv ?_
  obtain ⟨v1, hv1, h⟩ := bindE h
  refine X.callP (i_RequiredUsage_pc _ _ _ _ _ hv1) (by rfl) (by rfl) (by rfl) (by trivial) (by rfl) (by rfl) (by rfl) (by rfl) ?_
  refine X.bi ?_
  refine X.an ?_
  cases h
  refine R.fin1 Tryz.results176 (by rfl) (by rfl) ?_
  rfl
theorem i_kept_pc (b0 : List Int) (g1 : Int → Option Bool) (g1id : Nat) (g1c : List PV) (hg1 : ∀ (x0 : Int) v, g1 x0 = some v → PC Tryz.prog g1id ([int x0] ++ g1c) (bool v)) (r : List Int) (h : i_kept b0 g1 = some r) : PC Tryz.prog 174 [.slice (b0.map int), .fn g1id g1c] (.fresh true 3 1 (r.map int)) := by
  unfold i_kept at h
  refine PC.start Tryz.func174 Tryz.ntmps174 rfl ok174 rfl ?_
  refine Run.sr ?_
  refine X.an ?_
  refine Run.sr ?_
  refine X.buildSlice true elt26 zer3 (by rfl) (by rfl) (by rfl) (by rfl) (by rfl) (by rfl) (by repeat (first | trivial | refine ⟨by first | rfl | simp [setL], ?_⟩)) (allSz_spec (by rfl)) (by rfl) (by rfl) (by rfl) ?_
  refine X.an ?_
  refine Run.seq ?_
  refine Run.sr ?_
  refine X.mv ?_
  refine X.len_s elt26 (by rfl) (by exact List.length_map ..) (by rfl) ?_
  refine X.mn ?_
  obtain ⟨o1, ho1, h⟩ := bindE h
  refine R.join2 (β := (List Int)) [] [] (fun p16 S => (5, .own 512 (p16.map int).length) :: S) (fun p16 M => (512, .obj true 3 1 (p16.map int)) :: M) (fun p16 => p16 = o1) ?_ ?_
  · intro JJ4 hmeet3
    have hup2 := h; clear h; have h := ho1; clear ho1
    refine Run.block ?_
    refine R.bndS (t := 0) (by rfl) (fun hbd7 => ?_)
    replace hbd7 : b0.length ≤ 9223372036854775807 := by first | (rw [List.length_map] at hbd7; exact hbd7) | simp
    refine R.loop2 (β := Int × (List Int)) [(1, .fn g1id g1c), (9, .slice (b0.map int)), (10, int (b0.length : Int))] [] (fun bb S => (5, .own 512 (bb.2.map int).length) :: (11, int bb.1) :: S) (fun bb M => (512, .obj true 3 1 (bb.2.map int)) :: M) (fun n bb => 0 ≤ bb.1 ∧ bb.1 + n = (b0.length : Int) ∧ i_kept_L1 g1 (b0.drop bb.1.toNat) bb.1 bb.2 = some o1) b0.length (0, ([] : List Int)) (by repeat (first | trivial | refine ⟨by first | rfl | simp [setL], ?_⟩)) (by repeat (first | trivial | refine ⟨by first | rfl | simp [setL], ?_⟩)) (by rfl) (by rfl) ⟨Int.le_refl _, by simp, h⟩ ?_
    clear h
    rintro JJ7 n7 ⟨z8, a9⟩ hag7 ⟨hza7, hzb7, h⟩
    dsimp only at hza7 hzb7 h
    refine Run.sr ?_
    refine X.bi ?_
    refine X.nil ?_
    refine Run.seq ?_
    refine R.cond (by rfl) (fun hc12 => ?_) (fun hc12 => ?_)
    · obtain ⟨x10, xs11, hd7, hx7, hds7, hlt7⟩ := drop_atI hza7 hc12
      rw [hd7] at h
      rw [i_kept_L1] at h
      refine Run.skip ?_
      refine Run.seq ?_
      refine Run.block ?_
      refine Run.sr ?_
      refine X.index_s elt26 (by rfl) (by rfl) (idxL_spec hx7).1 (idxL_map int hx7) (by rfl) (by rfl) (by rfl) ?_
      refine X.load_c shp3 (by rfl) (by rfl) (by rfl) (by rfl) ?_
      refine X.an ?_
      refine Run.sr ?_
      refine X.mv ?_
      refine X.mv ?_
      obtain ⟨v13, hv13, h⟩ := bindE h
      refine X.callP (hg1 _ _ hv13) (by rfl) (by rfl) (by rfl) (by trivial) (by rfl) (by rfl) (by rfl) (by rfl) ?_
      refine X.nil ?_
      refine R.cond (by rfl) (fun hc14 => ?_) (fun hc14 => ?_)
      · replace h := condT hc14 h
        refine Run.reg ?_
        refine X.mv ?_
        refine X.mv ?_
        refine X.buildSlice true elt26 zer3 (by rfl) (by rfl) (by rfl) (by rfl) (by rfl) (by rfl) (by repeat (first | trivial | refine ⟨by first | rfl | simp [setL], ?_⟩)) (allSz_spec (by rfl)) (by rfl) (by rfl) (by rfl) ?_
        obtain ⟨v15, hv15, h⟩ := bindE h
        refine X.append elt26 zer3 (by rfl) (by rfl) (by first | rfl | simp [setL] | omega) (by rfl) (.own _ _ _ _ _ _ (look_mem (by rfl)) (by first | rfl | simp [setL] | omega)) (allSz_spec (by rfl)) (appL_len int hv15) (appL_map int hv15) (by rfl) (by rfl) (by rfl) (by rfl) ?_
        refine X.an ?_
        refine Run.blk ?_
        refine Run.reg ?_
        refine X.add (by rfl) (by rfl) (by omega) (by rfl) ?_
        refine X.mn ?_
        exact hag7 (n7 - 1) (z8 + 1, v15) _ _ (by omega) ⟨by first | omega | (dsimp only; omega), by first | omega | (dsimp only; omega), by first | (rw [hds7]; exact h) | (dsimp only; rw [hds7]; exact h)⟩ (by repeat (first | trivial | refine ⟨by first | rfl | simp [setL], ?_⟩)) (by repeat (first | trivial | refine ⟨by first | rfl | simp [setL], ?_⟩)) (by rfl) (by rfl)
      · replace h := condF hc14 h
        refine Run.skip ?_
        refine Run.blk ?_
        refine Run.reg ?_
        refine X.add (by rfl) (by rfl) (by omega) (by rfl) ?_
        refine X.mn ?_
        exact hag7 (n7 - 1) (z8 + 1, a9) _ _ (by omega) ⟨by first | omega | (dsimp only; omega), by first | omega | (dsimp only; omega), by first | (rw [hds7]; exact h) | (dsimp only; rw [hds7]; exact h)⟩ (by repeat (first | trivial | refine ⟨by first | rfl | simp [setL], ?_⟩)) (by repeat (first | trivial | refine ⟨by first | rfl | simp [setL], ?_⟩)) (by rfl) (by rfl)
    · rw [drop_endI hza7 hc12] at h
      rw [i_kept_L1] at h
      refine Run.exit (by rfl) ?_
      exact hmeet3 a9 _ _ (Option.some.inj h) (by repeat (first | trivial | refine ⟨by first | rfl | simp [setL], ?_⟩)) (by repeat (first | trivial | refine ⟨by first | rfl | simp [setL], ?_⟩)) (by rfl) (by rfl)
  rintro p16 rfl
  refine Run.sr ?_
  refine X.mv ?_
  refine X.an ?_
  cases h
  refine R.fin1o Tryz.results174 (by rfl) (by rfl) (by first | rfl | simp [setL] | omega) ?_
  rfl
theorem cmp_isNaN_int_pc (b0 : Int) (r : Bool) (h : cmp_isNaN_int b0 = some r) : PC Tryz.prog 273 [int b0] (bool r) := by
  unfold cmp_isNaN_int at h
  refine PC.start Tryz.func273 Tryz.ntmps273 rfl ok273 rfl ?_
  refine Run.sr ?_
  refine X.an ?_
  refine Run.sr ?_
  refine X.mv ?_
  refine X.mv ?_
  refine X.bi ?_
  refine X.an ?_
  cases h
  refine R.fin1 Tryz.results273 (by rfl) (by rfl) ?_
  rfl
theorem cmp_Compare_int_pc (b0 : Int) (b1 : Int) (r : Int) (h : cmp_Compare_int b0 b1 = some r) : PC Tryz.prog 179 [int b0, int b1] (int r) := by
  unfold cmp_Compare_int at h
  refine PC.start Tryz.func179 Tryz.ntmps179 rfl ok179 rfl ?_
  refine Run.sr ?_
  refine X.an ?_
  refine Run.sr ?_
  refine X.mv ?_
  obtain ⟨v1, hv1, h⟩ := bindE h
  refine X.callP (cmp_isNaN_int_pc _ _ hv1) (by rfl) (by rfl) (by rfl) (by trivial) (by rfl) (by rfl) (by rfl) (by rfl) ?_
  refine X.an ?_
  refine Run.sr ?_
  refine X.mv ?_
  obtain ⟨v2, hv2, h⟩ := bindE h
  refine X.callP (cmp_isNaN_int_pc _ _ hv2) (by rfl) (by rfl) (by rfl) (by trivial) (by rfl) (by rfl) (by rfl) (by rfl) ?_
  refine X.an ?_
  refine Run.seq ?_
  refine Run.sr ?_
  refine X.mn ?_
  refine R.cond (by rfl) (fun hc3 => ?_) (fun hc3 => ?_)
  · replace h := condT hc3 h
    refine Run.seq ?_
    refine Run.sr ?_
    refine X.mn ?_
    refine R.cond (by rfl) (fun hc4 => ?_) (fun hc4 => ?_)
    · replace h := condT hc4 h
      refine Run.sr ?_
      refine X.an ?_
      cases h
      refine R.fin1 Tryz.results179 (by rfl) (by rfl) ?_
      rfl
    · replace h := condF hc4 h
      refine Run.skip ?_
      refine Run.sr ?_
      refine X.an ?_
      cases h
      refine R.fin1 Tryz.results179 (by rfl) (by rfl) ?_
      rfl
  · replace h := condF hc3 h
    refine Run.skip ?_
    refine Run.seq ?_
    refine Run.sr ?_
    refine X.mn ?_
    refine R.cond (by rfl) (fun hc5 => ?_) (fun hc5 => ?_)
    · replace h := condT hc5 h
      refine Run.sr ?_
      refine X.an ?_
      cases h
      refine R.fin1 Tryz.results179 (by rfl) (by rfl) ?_
      rfl
    · replace h := condF hc5 h
      refine Run.skip ?_
      refine Run.seq ?_
      refine Run.sr ?_
      refine X.mv ?_
      refine X.mv ?_
      refine X.bi ?_
      refine X.nil ?_
      refine R.cond (by rfl) (fun hc6 => ?_) (fun hc6 => ?_)
      · replace h := condT hc6 h
        refine Run.sr ?_
        refine X.an ?_
        cases h
        refine R.fin1 Tryz.results179 (by rfl) (by rfl) ?_
        rfl
      · replace h := condF hc6 h
        refine Run.skip ?_
        refine Run.seq ?_
        refine Run.sr ?_
        refine X.mv ?_
        refine X.mv ?_
        refine X.bi ?_
        refine X.nil ?_
        refine R.cond (by rfl) (fun hc7 => ?_) (fun hc7 => ?_)
        · replace h := condT hc7 h
          refine Run.sr ?_
          refine X.an ?_
          cases h
          refine R.fin1 Tryz.results179 (by rfl) (by rfl) ?_
          rfl
        · replace h := condF hc7 h
          refine Run.skip ?_
          refine Run.sr ?_
          refine X.an ?_
          cases h
          refine R.fin1 Tryz.results179 (by rfl) (by rfl) ?_
          rfl
theorem i_MachineChain_c2_pc (b0 : Int) (b1 : Int) (c2 : TDomain) (r : Int) (h : i_MachineChain_c2 b0 b1 c2 = some r) : PC Tryz.prog 178 [int b0, int b1, .cptr (eTDomain c2).cells 0] (int r) := by
  unfold i_MachineChain_c2 at h
  refine PC.start Tryz.func178 Tryz.ntmps178 rfl ok178 rfl ?_
  refine Run.sr ?_
  refine X.an ?_
  refine Run.seq ?_
  refine Run.draw (footOf []) mixed (by kernel_rfl) (by kernel_rfl) ?_
  refine X.fieldAddr_c fld32_0 (by rfl) (by rfl) ?_
  refine X.load_c shp26 (by rfl) (by rfl) (by rfl) (by rfl) ?_
  refine X.mv ?_
  obtain ⟨v1, hv1, h⟩ := bindE h
  refine X.index_s elt26 (by rfl) (by rfl) (idxL_spec hv1).1 (idxL_map int hv1) (by rfl) (by rfl) (by rfl) ?_
  refine X.load_c shp3 (by rfl) (by rfl) (by rfl) (by rfl) ?_
  refine X.fieldAddr_c fld32_0 (by rfl) (by rfl) ?_
  refine X.load_c shp26 (by rfl) (by rfl) (by rfl) (by rfl) ?_
  refine X.mv ?_
  obtain ⟨v2, hv2, h⟩ := bindE h
  refine X.index_s elt26 (by rfl) (by rfl) (idxL_spec hv2).1 (idxL_map int hv2) (by rfl) (by rfl) (by rfl) ?_
  refine X.load_c shp3 (by rfl) (by rfl) (by rfl) (by rfl) ?_
  obtain ⟨v3, hv3, h⟩ := bindE h
  refine X.callP (cmp_Compare_int_pc _ _ _ hv3) (by rfl) (by rfl) (by rfl) (by trivial) (by rfl) (by rfl) (by rfl) (by rfl) ?_
  refine X.an ?_
  cases h
  refine R.fin1 Tryz.results178 (by rfl) (by rfl) ?_
  rfl
theorem slices_insertionSortCmpFunc_int_pc (b0 : List Int) (b1 : Int) (b2 : Int) (g3 : Int → Int → Option Int) (g3id : Nat) (g3c : List PV) (hg3 : ∀ (x0 : Int) (x1 : Int) v, g3 x0 x1 = some v → PC Tryz.prog g3id ([int x0, int x1] ++ g3c) (int v)) (r : (List Int)) (h : slices_insertionSortCmpFunc_int b0 b1 b2 g3 = some r) : PCM Tryz.prog 319 [.own 63 (b0.map int).length, int b1, int b2, .fn g3id g3c] [(63, .obj true 3 1 (b0.map int))] (.tuple []) [(63, .obj true 3 1 (r.map int))] := by
  unfold slices_insertionSortCmpFunc_int at h
  refine PCM.start Tryz.func319 Tryz.ntmps319 rfl ok319 rfl (by rfl) (by rfl) (by rfl) (by rfl) (by rfl) ?_
  refine Run.sr ?_
  refine X.mv ?_
  refine X.addW (by rfl) (by rfl) (by rfl) ?_
  refine X.an ?_
  obtain ⟨o1, ho1, h⟩ := bindE h
  refine R.join2 (β := (List Int)) [] [] (fun p30 S => S) (fun p30 M => (63, .obj true 3 1 (p30.map int)) :: M) (fun p30 => p30 = o1) ?_ ?_
  · intro JJ4 hmeet3
    have hup2 := h; clear h; have h := ho1; clear ho1
    refine Run.block ?_
    refine R.loop2 (β := Int × (List Int)) [(1, int b1), (2, int b2), (3, .fn g3id g3c)] [] (fun bb S => (0, .own 63 (bb.2.map int).length) :: (8, int bb.1) :: S) (fun bb M => (63, .obj true 3 1 (bb.2.map int)) :: M) (fun n bb => slices_insertionSortCmpFunc_int_L1 b1 b2 g3 n bb.1 bb.2 = some o1) F0 ((W (b1 + 1)), b0) (by repeat (first | trivial | refine ⟨by first | rfl | simp [setL], ?_⟩)) (by repeat (first | trivial | refine ⟨by first | rfl | simp [setL], ?_⟩)) (by rfl) (by rfl) h ?_
    clear h
    rintro JJ4 n4 ⟨a6, a7⟩ hag4 h
    dsimp only at h
    obtain _ | n4 := n4
    · exact absurd h (by simp [slices_insertionSortCmpFunc_int_L1])
    rw [slices_insertionSortCmpFunc_int_L1] at h
    refine Run.seq ?_
    refine Run.sr ?_
    refine X.mv ?_
    refine X.mv ?_
    refine X.bi ?_
    refine X.nil ?_
    refine R.cond (by rfl) (fun hc10 => ?_) (fun hc10 => ?_)
    · replace h := condT hc10 h
      refine Run.skip ?_
      refine Run.seq ?_
      refine Run.block ?_
      refine Run.sr ?_
      refine X.mv ?_
      refine X.an ?_
      obtain ⟨o11, ho11, h⟩ := bindE h
      refine R.join2 (β := (List Int)) [(1, int b1), (2, int b2), (3, .fn g3id g3c), (8, int a6)] [] (fun p29 S => (0, .own 63 (p29.map int).length) :: S) (fun p29 M => (63, .obj true 3 1 (p29.map int)) :: M) (fun p29 => p29 = o11) ?_ ?_
      · intro JJ14 hmeet13
        have hup12 := h; clear h; have h := ho11; clear ho11
        refine Run.block ?_
        refine R.loop2 (β := Int × (List Int)) [(1, int b1), (2, int b2), (3, .fn g3id g3c), (8, int a6)] [] (fun bb S => (0, .own 63 (bb.2.map int).length) :: (9, int bb.1) :: S) (fun bb M => (63, .obj true 3 1 (bb.2.map int)) :: M) (fun n bb => slices_insertionSortCmpFunc_int_L2 b1 g3 n bb.1 bb.2 = some o11) F0 (a6, a7) (by repeat (first | trivial | refine ⟨by first | rfl | simp [setL], ?_⟩)) (by repeat (first | trivial | refine ⟨by first | rfl | simp [setL], ?_⟩)) (by rfl) (by rfl) h ?_
        clear h
        rintro JJ14 n14 ⟨a16, a17⟩ hag14 h
        dsimp only at h
        obtain _ | n14 := n14
        · exact absurd h (by simp [slices_insertionSortCmpFunc_int_L2])
        rw [slices_insertionSortCmpFunc_int_L2] at h
        refine Run.seq ?_
        refine Run.seq ?_
        obtain ⟨e20, he20, h2⟩ := bindE h
        refine R.drawG [(0, .own 63 (a17.map int).length), (1, int b1), (2, int b2), (3, .fn g3id g3c), (8, int a6), (9, int a16), (34, bool e20)] [(63, .obj true 3 1 (a17.map int))] (footOf [(7, ([], [], [63], [])), (8, ([63], [], [], [])), (12, ([], [], [63], [])), (13, ([63], [], [], []))]) mixed (by kernel_rfl) (by kernel_rfl) ?_ ?_
        · clear h; have h := he20; clear he20 h2
          refine X.mv ?_
          refine X.mv ?_
          refine X.bi ?_
          refine X.mv ?_
          refine X.ifG (by rfl) (by rfl) (by rfl) (fun hb21 => ?_) (fun hb21 => ?_)
          · replace h := condT hb21 h
            refine X.mv ?_
            refine X.gy ?_
            refine X.mv ?_
            refine X.gy ?_
            refine X.mv ?_
            refine X.gy ?_
            obtain ⟨v22, hv22, h⟩ := bindE h
            refine X.index_xs elt26 (by rfl) (by rfl) (by first | rfl | simp [setL] | omega) (by rfl) (by exact (Int.toNat_of_nonneg (idxL_spec hv22).1).symm) (by have := idxL_lt hv22; simpa using this) (by rfl) (by rfl) ?_
            refine X.gy ?_
            refine X.load_e shp3 (by rfl) (by rfl) (by rfl) (by first | rfl | simp [setL] | omega) (idxL_map _ hv22) (by rfl) (by rfl) (by rfl) ?_
            refine X.gy ?_
            refine X.mv ?_
            refine X.gy ?_
            refine X.mv ?_
            refine X.gy ?_
            refine X.subW (by rfl) (by rfl) (by rfl) ?_
            refine X.gy ?_
            obtain ⟨v23, hv23, h⟩ := bindE h
            refine X.index_xs elt26 (by rfl) (by rfl) (by first | rfl | simp [setL] | omega) (by rfl) (by exact (Int.toNat_of_nonneg (idxL_spec hv23).1).symm) (by have := idxL_lt hv23; simpa using this) (by rfl) (by rfl) ?_
            refine X.gy ?_
            refine X.load_e shp3 (by rfl) (by rfl) (by rfl) (by first | rfl | simp [setL] | omega) (idxL_map _ hv23) (by rfl) (by rfl) (by rfl) ?_
            refine X.gy ?_
            obtain ⟨v24, hv24, h⟩ := bindE h
            refine X.callP (hg3 _ _ _ hv24) (by rfl) (by rfl) (by rfl) (by trivial) (by rfl) (by rfl) (by rfl) (by rfl) ?_
            refine X.gy ?_
            refine X.bi ?_
            refine X.pickT (by rfl) (by first | rfl | assumption) (by rfl) (by rfl) ?_
            cases h
            exact X.endG (by repeat (first | trivial | refine ⟨by first | rfl | simp [setL], ?_⟩)) (by repeat (first | trivial | refine ⟨by first | rfl | simp [setL], ?_⟩)) (by rfl) (by rfl)
          · replace h := condF hb21 h
            refine X.gn ?_
            refine X.gn ?_
            refine X.gn ?_
            refine X.gn ?_
            refine X.gn ?_
            refine X.gn ?_
            refine X.gn ?_
            refine X.gn ?_
            refine X.gn ?_
            refine X.gn ?_
            refine X.gn ?_
            refine X.pickF (by rfl) (by first | rfl | assumption) (by rfl) (by rfl) ?_
            cases h
            exact X.endG (by repeat (first | trivial | refine ⟨by first | rfl | simp [setL], ?_⟩)) (by repeat (first | trivial | refine ⟨by first | rfl | simp [setL], ?_⟩)) (by rfl) (by rfl)
        replace h := h2; clear h2
        refine R.cond (by rfl) (fun hc25 => ?_) (fun hc25 => ?_)
        · replace h := condT hc25 h
          refine Run.skip ?_
          refine Run.seq ?_
          refine Run.block ?_
          refine Run.draw (footOf [(8, ([], [], [63], [])), (9, ([63], [], [], [])), (12, ([], [], [63], [])), (13, ([63], [], [], [])), (14, ([], [], [63], [])), (15, ([63], [], [], [63])), (16, ([], [], [63], [])), (17, ([63], [], [], [63]))]) mixed (by kernel_rfl) (by kernel_rfl) ?_
          refine X.mv ?_
          refine X.mv ?_
          refine X.mv ?_
          refine X.mv ?_
          refine X.subW (by rfl) (by rfl) (by rfl) ?_
          refine X.mv ?_
          refine X.mv ?_
          refine X.subW (by rfl) (by rfl) (by rfl) ?_
          obtain ⟨v26, hv26, h⟩ := bindE h
          refine X.index_xs elt26 (by rfl) (by rfl) (by first | rfl | simp [setL] | omega) (by rfl) (by exact (Int.toNat_of_nonneg (idxL_spec hv26).1).symm) (by have := idxL_lt hv26; simpa using this) (by rfl) (by rfl) ?_
          refine X.load_e shp3 (by rfl) (by rfl) (by rfl) (by first | rfl | simp [setL] | omega) (idxL_map _ hv26) (by rfl) (by rfl) (by rfl) ?_
          refine X.mv ?_
          refine X.mv ?_
          obtain ⟨v27, hv27, h⟩ := bindE h
          refine X.index_xs elt26 (by rfl) (by rfl) (by first | rfl | simp [setL] | omega) (by rfl) (by exact (Int.toNat_of_nonneg (idxL_spec hv27).1).symm) (by have := idxL_lt hv27; simpa using this) (by rfl) (by rfl) ?_
          refine X.load_e shp3 (by rfl) (by rfl) (by rfl) (by first | rfl | simp [setL] | omega) (idxL_map _ hv27) (by rfl) (by rfl) (by rfl) ?_
          refine X.index_xs elt26 (by rfl) (by rfl) (by first | rfl | simp [setL] | omega) (by rfl) (by exact (Int.toNat_of_nonneg (idxL_spec hv27).1).symm) (by have := idxL_lt hv27; simpa using this) (by rfl) (by rfl) ?_
          refine X.store_es shp3 (by rfl) (by rfl) (by first | rfl | simp [setL] | omega) (idxL_map _ hv27) (by rfl) (by rfl) (by repeat (first | trivial | refine ⟨by first | rfl | simp [setL], ?_⟩)) (by rfl) (by rfl) (by rfl) (by rfl) (by exact setL_map _ _ _ v26) ?_
          obtain ⟨v28, hv28, h⟩ := bindE h
          refine X.index_xs elt26 (by rfl) (by rfl) (by first | rfl | simp [setL] | omega) (by rfl) (by exact (Int.toNat_of_nonneg (idxL_spec hv28).1).symm) (by have := idxL_lt hv28; simpa using this) (by rfl) (by rfl) ?_
          refine X.store_es shp3 (by rfl) (by rfl) (by first | rfl | simp [setL] | omega) (idxL_map _ hv28) (by rfl) (by rfl) (by repeat (first | trivial | refine ⟨by first | rfl | simp [setL], ?_⟩)) (by rfl) (by rfl) (by rfl) (by rfl) (by exact setL_map _ _ _ v27) ?_
          refine X.nil ?_
          refine Run.blk ?_
          refine Run.reg ?_
          refine X.mv ?_
          refine X.subW (by rfl) (by rfl) (by rfl) ?_
          refine X.an ?_
          refine R.castS (t := 0) (.own 63 ((setL (setL a17 a16 v26) (W (a16 - 1)) v27).map int).length) (by rfl) (.inl (by first | rfl | simp [setL])) ?_
          exact hag14 n14 ((W (a16 - 1)), (setL (setL a17 a16 v26) (W (a16 - 1)) v27)) _ _ (by omega) h (by repeat (first | trivial | refine ⟨by first | rfl | simp [setL], ?_⟩)) (by repeat (first | trivial | refine ⟨by first | rfl | simp [setL], ?_⟩)) (by rfl) (by rfl)
        · replace h := condF hc25 h
          refine Run.exit (by rfl) ?_
          exact hmeet13 a17 _ _ (Option.some.inj h) (by repeat (first | trivial | refine ⟨by first | rfl | simp [setL], ?_⟩)) (by repeat (first | trivial | refine ⟨by first | rfl | simp [setL], ?_⟩)) (by rfl) (by rfl)
      rintro p29 rfl
      refine Run.blk ?_
      refine Run.reg ?_
      refine X.mv ?_
      refine X.addW (by rfl) (by rfl) (by rfl) ?_
      refine X.an ?_
      exact hag4 n4 ((W (a6 + 1)), p29) _ _ (by omega) h (by repeat (first | trivial | refine ⟨by first | rfl | simp [setL], ?_⟩)) (by repeat (first | trivial | refine ⟨by first | rfl | simp [setL], ?_⟩)) (by rfl) (by rfl)
    · replace h := condF hc10 h
      refine Run.exit (by rfl) ?_
      exact hmeet3 a7 _ _ (Option.some.inj h) (by repeat (first | trivial | refine ⟨by first | rfl | simp [setL], ?_⟩)) (by repeat (first | trivial | refine ⟨by first | rfl | simp [setL], ?_⟩)) (by rfl) (by rfl)
  rintro p30 rfl
  cases h
  exact R.endM0 Tryz.results319 (by repeat (first | exact trivial | refine ⟨by rfl, ?_⟩)) rfl
theorem slices_swapRangeCmpFunc_int_pc (b0 : List Int) (b1 : Int) (b2 : Int) (b3 : Int) (g4 : Int → Int → Option Int) (g4id : Nat) (g4c : List PV) (hg4 : ∀ (x0 : Int) (x1 : Int) v, g4 x0 x1 = some v → PC Tryz.prog g4id ([int x0, int x1] ++ g4c) (int v)) (r : (List Int)) (h : slices_swapRangeCmpFunc_int b0 b1 b2 b3 g4 = some r) : PCM Tryz.prog 352 [.own 63 (b0.map int).length, int b1, int b2, int b3, .fn g4id g4c] [(63, .obj true 3 1 (b0.map int))] (.tuple []) [(63, .obj true 3 1 (r.map int))] := by
  unfold slices_swapRangeCmpFunc_int at h
  refine PCM.start Tryz.func352 Tryz.ntmps352 rfl ok352 rfl (by rfl) (by rfl) (by rfl) (by rfl) (by rfl) ?_
  refine Run.sr ?_
  refine X.an ?_
  obtain ⟨o1, ho1, h⟩ := bindE h
  refine R.join2 (β := (List Int)) [] [] (fun p15 S => S) (fun p15 M => (63, .obj true 3 1 (p15.map int)) :: M) (fun p15 => p15 = o1) ?_ ?_
  · intro JJ4 hmeet3
    have hup2 := h; clear h; have h := ho1; clear ho1
    refine Run.block ?_
    refine R.loop2 (β := Int × (List Int)) [(1, int b1), (2, int b2), (3, int b3)] [] (fun bb S => (0, .own 63 (bb.2.map int).length) :: (10, int bb.1) :: S) (fun bb M => (63, .obj true 3 1 (bb.2.map int)) :: M) (fun n bb => slices_swapRangeCmpFunc_int_L1 b1 b2 b3 n bb.1 bb.2 = some o1) F0 (0, b0) (by repeat (first | trivial | refine ⟨by first | rfl | simp [setL], ?_⟩)) (by repeat (first | trivial | refine ⟨by first | rfl | simp [setL], ?_⟩)) (by rfl) (by rfl) h ?_
    clear h
    rintro JJ5 n5 ⟨a7, a8⟩ hag5 h
    dsimp only at h
    obtain _ | n5 := n5
    · exact absurd h (by simp [slices_swapRangeCmpFunc_int_L1])
    rw [slices_swapRangeCmpFunc_int_L1] at h
    refine Run.seq ?_
    refine Run.sr ?_
    refine X.mv ?_
    refine X.mv ?_
    refine X.bi ?_
    refine X.nil ?_
    refine R.cond (by rfl) (fun hc11 => ?_) (fun hc11 => ?_)
    · replace h := condT hc11 h
      refine Run.skip ?_
      refine Run.seq ?_
      refine Run.block ?_
      refine Run.draw (footOf [(12, ([], [], [63], [])), (13, ([63], [], [], [])), (18, ([], [], [63], [])), (19, ([63], [], [], [])), (20, ([], [], [63], [])), (21, ([63], [], [], [63])), (22, ([], [], [63], [])), (23, ([63], [], [], [63]))]) mixed (by kernel_rfl) (by kernel_rfl) ?_
      refine X.mv ?_
      refine X.mv ?_
      refine X.mv ?_
      refine X.addW (by rfl) (by rfl) (by rfl) ?_
      refine X.mv ?_
      refine X.mv ?_
      refine X.mv ?_
      refine X.addW (by rfl) (by rfl) (by rfl) ?_
      refine X.mv ?_
      refine X.mv ?_
      refine X.mv ?_
      refine X.addW (by rfl) (by rfl) (by rfl) ?_
      obtain ⟨v12, hv12, h⟩ := bindE h
      refine X.index_xs elt26 (by rfl) (by rfl) (by first | rfl | simp [setL] | omega) (by rfl) (by exact (Int.toNat_of_nonneg (idxL_spec hv12).1).symm) (by have := idxL_lt hv12; simpa using this) (by rfl) (by rfl) ?_
      refine X.load_e shp3 (by rfl) (by rfl) (by rfl) (by first | rfl | simp [setL] | omega) (idxL_map _ hv12) (by rfl) (by rfl) (by rfl) ?_
      refine X.mv ?_
      refine X.mv ?_
      refine X.mv ?_
      refine X.addW (by rfl) (by rfl) (by rfl) ?_
      obtain ⟨v13, hv13, h⟩ := bindE h
      refine X.index_xs elt26 (by rfl) (by rfl) (by first | rfl | simp [setL] | omega) (by rfl) (by exact (Int.toNat_of_nonneg (idxL_spec hv13).1).symm) (by have := idxL_lt hv13; simpa using this) (by rfl) (by rfl) ?_
      refine X.load_e shp3 (by rfl) (by rfl) (by rfl) (by first | rfl | simp [setL] | omega) (idxL_map _ hv13) (by rfl) (by rfl) (by rfl) ?_
      refine X.index_xs elt26 (by rfl) (by rfl) (by first | rfl | simp [setL] | omega) (by rfl) (by exact (Int.toNat_of_nonneg (idxL_spec hv13).1).symm) (by have := idxL_lt hv13; simpa using this) (by rfl) (by rfl) ?_
      refine X.store_es shp3 (by rfl) (by rfl) (by first | rfl | simp [setL] | omega) (idxL_map _ hv13) (by rfl) (by rfl) (by repeat (first | trivial | refine ⟨by first | rfl | simp [setL], ?_⟩)) (by rfl) (by rfl) (by rfl) (by rfl) (by exact setL_map _ _ _ v12) ?_
      obtain ⟨v14, hv14, h⟩ := bindE h
      refine X.index_xs elt26 (by rfl) (by rfl) (by first | rfl | simp [setL] | omega) (by rfl) (by exact (Int.toNat_of_nonneg (idxL_spec hv14).1).symm) (by have := idxL_lt hv14; simpa using this) (by rfl) (by rfl) ?_
      refine X.store_es shp3 (by rfl) (by rfl) (by first | rfl | simp [setL] | omega) (idxL_map _ hv14) (by rfl) (by rfl) (by repeat (first | trivial | refine ⟨by first | rfl | simp [setL], ?_⟩)) (by rfl) (by rfl) (by rfl) (by rfl) (by exact setL_map _ _ _ v13) ?_
      refine X.nil ?_
      refine Run.blk ?_
      refine Run.reg ?_
      refine X.mv ?_
      refine X.addW (by rfl) (by rfl) (by rfl) ?_
      refine X.an ?_
      refine R.castS (t := 0) (.own 63 ((setL (setL a8 (W (b1 + a7)) v12) (W (b2 + a7)) v13).map int).length) (by rfl) (.inl (by first | rfl | simp [setL])) ?_
      exact hag5 n5 ((W (a7 + 1)), (setL (setL a8 (W (b1 + a7)) v12) (W (b2 + a7)) v13)) _ _ (by omega) h (by repeat (first | trivial | refine ⟨by first | rfl | simp [setL], ?_⟩)) (by repeat (first | trivial | refine ⟨by first | rfl | simp [setL], ?_⟩)) (by rfl) (by rfl)
    · replace h := condF hc11 h
      refine Run.exit (by rfl) ?_
      exact hmeet3 a8 _ _ (Option.some.inj h) (by repeat (first | trivial | refine ⟨by first | rfl | simp [setL], ?_⟩)) (by repeat (first | trivial | refine ⟨by first | rfl | simp [setL], ?_⟩)) (by rfl) (by rfl)
  rintro p15 rfl
  cases h
  exact R.endM0 Tryz.results352 (by repeat (first | exact trivial | refine ⟨by rfl, ?_⟩)) rfl
theorem slices_rotateCmpFunc_int_pc (b0 : List Int) (b1 : Int) (b2 : Int) (b3 : Int) (g4 : Int → Int → Option Int) (g4id : Nat) (g4c : List PV) (hg4 : ∀ (x0 : Int) (x1 : Int) v, g4 x0 x1 = some v → PC Tryz.prog g4id ([int x0, int x1] ++ g4c) (int v)) (r : (List Int)) (h : slices_rotateCmpFunc_int b0 b1 b2 b3 g4 = some r) : PCM Tryz.prog 338 [.own 63 (b0.map int).length, int b1, int b2, int b3, .fn g4id g4c] [(63, .obj true 3 1 (b0.map int))] (.tuple []) [(63, .obj true 3 1 (r.map int))] := by
  unfold slices_rotateCmpFunc_int at h
  refine PCM.start Tryz.func338 Tryz.ntmps338 rfl ok338 rfl (by rfl) (by rfl) (by rfl) (by rfl) (by rfl) ?_
  refine Run.sr ?_
  refine X.mv ?_
  refine X.mv ?_
  refine X.subW (by rfl) (by rfl) (by rfl) ?_
  refine X.an ?_
  refine Run.sr ?_
  refine X.mv ?_
  refine X.mv ?_
  refine X.subW (by rfl) (by rfl) (by rfl) ?_
  refine X.an ?_
  refine Run.seq ?_
  obtain ⟨o1, ho1, h⟩ := bindE h
  refine R.join2 (β := Int × (List Int)) [(2, int b2), (4, .fn g4id g4c)] [] (fun p15 S => (0, .own 63 (p15.2.map int).length) :: (10, int p15.1) :: S) (fun p15 M => (63, .obj true 3 1 (p15.2.map int)) :: M) (fun p15 => p15 = o1) ?_ ?_
  · intro JJ4 hmeet3
    have hup2 := h; clear h; have h := ho1; clear ho1
    refine Run.block ?_
    refine R.loop2 (β := Int × Int × (List Int)) [(2, int b2), (4, .fn g4id g4c)] [] (fun bb S => (0, .own 63 (bb.2.2.map int).length) :: (10, int bb.1) :: (11, int bb.2.1) :: S) (fun bb M => (63, .obj true 3 1 (bb.2.2.map int)) :: M) (fun n bb => slices_rotateCmpFunc_int_L1 b2 g4 n bb.1 bb.2.1 bb.2.2 = some o1) F0 ((W (b2 - b1)), (W (b3 - b2)), b0) (by repeat (first | trivial | refine ⟨by first | rfl | simp [setL], ?_⟩)) (by repeat (first | trivial | refine ⟨by first | rfl | simp [setL], ?_⟩)) (by rfl) (by rfl) h ?_
    clear h
    rintro JJ4 n4 ⟨a6, a7, a8⟩ hag4 h
    dsimp only at h
    obtain _ | n4 := n4
    · exact absurd h (by simp [slices_rotateCmpFunc_int_L1])
    rw [slices_rotateCmpFunc_int_L1] at h
    refine Run.seq ?_
    refine Run.sr ?_
    refine X.mv ?_
    refine X.mv ?_
    refine X.bi ?_
    refine X.nil ?_
    refine R.cond (by rfl) (fun hc11 => ?_) (fun hc11 => ?_)
    · replace h := condT hc11 h
      refine Run.skip ?_
      refine Run.block ?_
      refine Run.sr ?_
      refine X.mv ?_
      refine X.mv ?_
      refine X.bi ?_
      refine X.nil ?_
      refine R.cond (by rfl) (fun hc12 => ?_) (fun hc12 => ?_)
      · replace h := condT hc12 h
        refine Run.sr ?_
        refine X.mv ?_
        refine X.mv ?_
        refine X.mv ?_
        refine X.subW (by rfl) (by rfl) (by rfl) ?_
        refine X.mv ?_
        refine X.mv ?_
        refine X.mv ?_
        obtain ⟨v13, hv13, h⟩ := bindE h
        refine X.callR [(63, 63)] [(63, (a8.map int).length)] [(63, (v13.map int).length)] (slices_swapRangeCmpFunc_int_pc _ _ _ _ g4 _ _ hg4 _ hv13) (by rfl) (by rfl) (.ownB 63 (by rfl) (by first | rfl | simp [setL] | omega) (by rfl) (.pureB (by rfl) (by repeat (first | trivial | refine ⟨by first | rfl | simp [setL], ?_⟩)) (.pureB (by rfl) (by repeat (first | trivial | refine ⟨by first | rfl | simp [setL], ?_⟩)) (.pureB (by rfl) (by repeat (first | trivial | refine ⟨by first | rfl | simp [setL], ?_⟩)) (.pureB (by rfl) (by repeat (first | trivial | refine ⟨by first | rfl | simp [setL], ?_⟩)) .nil))))) (by rfl) ⟨rfl, rfl, ⟨_, by rfl, by constructor⟩, by constructor, trivial⟩ (by rfl) (by rfl) (by rfl) (by rfl) ⟨rfl, ⟨_, _, _, _, by rfl, by rfl⟩, ⟨_, _, _, _, by rfl, by rfl⟩, trivial⟩ (by rfl) (by repeat (first | trivial | refine ⟨by first | rfl | simp [setL], ?_⟩)) (by rfl) (by rfl) (by rfl) (by rfl) (by rfl) ?_
        refine X.nil ?_
        refine Run.reg ?_
        refine X.mv ?_
        refine X.mv ?_
        refine X.subW (by rfl) (by rfl) (by rfl) ?_
        refine X.an ?_
        refine Run.blk ?_
        exact hag4 n4 ((W (a6 - a7)), a7, v13) _ _ (by omega) h (by repeat (first | trivial | refine ⟨by first | rfl | simp [setL], ?_⟩)) (by repeat (first | trivial | refine ⟨by first | rfl | simp [setL], ?_⟩)) (by rfl) (by rfl)
      · replace h := condF hc12 h
        refine Run.sr ?_
        refine X.mv ?_
        refine X.mv ?_
        refine X.mv ?_
        refine X.subW (by rfl) (by rfl) (by rfl) ?_
        refine X.mv ?_
        refine X.mv ?_
        refine X.addW (by rfl) (by rfl) (by rfl) ?_
        refine X.mv ?_
        refine X.subW (by rfl) (by rfl) (by rfl) ?_
        refine X.mv ?_
        refine X.mv ?_
        obtain ⟨v14, hv14, h⟩ := bindE h
        refine X.callR [(63, 63)] [(63, (a8.map int).length)] [(63, (v14.map int).length)] (slices_swapRangeCmpFunc_int_pc _ _ _ _ g4 _ _ hg4 _ hv14) (by rfl) (by rfl) (.ownB 63 (by rfl) (by first | rfl | simp [setL] | omega) (by rfl) (.pureB (by rfl) (by repeat (first | trivial | refine ⟨by first | rfl | simp [setL], ?_⟩)) (.pureB (by rfl) (by repeat (first | trivial | refine ⟨by first | rfl | simp [setL], ?_⟩)) (.pureB (by rfl) (by repeat (first | trivial | refine ⟨by first | rfl | simp [setL], ?_⟩)) (.pureB (by rfl) (by repeat (first | trivial | refine ⟨by first | rfl | simp [setL], ?_⟩)) .nil))))) (by rfl) ⟨rfl, rfl, ⟨_, by rfl, by constructor⟩, by constructor, trivial⟩ (by rfl) (by rfl) (by rfl) (by rfl) ⟨rfl, ⟨_, _, _, _, by rfl, by rfl⟩, ⟨_, _, _, _, by rfl, by rfl⟩, trivial⟩ (by rfl) (by repeat (first | trivial | refine ⟨by first | rfl | simp [setL], ?_⟩)) (by rfl) (by rfl) (by rfl) (by rfl) (by rfl) ?_
        refine X.nil ?_
        refine Run.reg ?_
        refine X.mv ?_
        refine X.mv ?_
        refine X.subW (by rfl) (by rfl) (by rfl) ?_
        refine X.an ?_
        refine Run.blk ?_
        exact hag4 n4 (a6, (W (a7 - a6)), v14) _ _ (by omega) h (by repeat (first | trivial | refine ⟨by first | rfl | simp [setL], ?_⟩)) (by repeat (first | trivial | refine ⟨by first | rfl | simp [setL], ?_⟩)) (by rfl) (by rfl)
    · replace h := condF hc11 h
      refine Run.exit (by rfl) ?_
      exact hmeet3 (a6, a8) _ _ (Option.some.inj h) (by repeat (first | trivial | refine ⟨by first | rfl | simp [setL], ?_⟩)) (by repeat (first | trivial | refine ⟨by first | rfl | simp [setL], ?_⟩)) (by rfl) (by rfl)
  rintro p15 rfl
  refine Run.reg ?_
  refine X.mv ?_
  refine X.mv ?_
  refine X.mv ?_
  refine X.subW (by rfl) (by rfl) (by rfl) ?_
  refine X.mv ?_
  refine X.mv ?_
  refine X.mv ?_
  obtain ⟨v16, hv16, h⟩ := bindE h
  refine X.callR [(63, 63)] [(63, (p15.2.map int).length)] [(63, (v16.map int).length)] (slices_swapRangeCmpFunc_int_pc _ _ _ _ g4 _ _ hg4 _ hv16) (by rfl) (by rfl) (.ownB 63 (by rfl) (by first | rfl | simp [setL] | omega) (by rfl) (.pureB (by rfl) (by repeat (first | trivial | refine ⟨by first | rfl | simp [setL], ?_⟩)) (.pureB (by rfl) (by repeat (first | trivial | refine ⟨by first | rfl | simp [setL], ?_⟩)) (.pureB (by rfl) (by repeat (first | trivial | refine ⟨by first | rfl | simp [setL], ?_⟩)) (.pureB (by rfl) (by repeat (first | trivial | refine ⟨by first | rfl | simp [setL], ?_⟩)) .nil))))) (by rfl) ⟨rfl, rfl, ⟨_, by rfl, by constructor⟩, by constructor, trivial⟩ (by rfl) (by rfl) (by rfl) (by rfl) ⟨rfl, ⟨_, _, _, _, by rfl, by rfl⟩, ⟨_, _, _, _, by rfl, by rfl⟩, trivial⟩ (by rfl) (by repeat (first | trivial | refine ⟨by first | rfl | simp [setL], ?_⟩)) (by rfl) (by rfl) (by rfl) (by rfl) (by rfl) ?_
  refine X.nil ?_
  cases h
  exact R.endM0 Tryz.results338 (by repeat (first | exact trivial | refine ⟨by rfl, ?_⟩)) rfl
theorem slices_symMergeCmpFunc_int_pc (b0 : List Int) (b1 : Int) (b2 : Int) (b3 : Int) (g4 : Int → Int → Option Int) (g4id : Nat) (g4c : List PV) (hg4 : ∀ (x0 : Int) (x1 : Int) v, g4 x0 x1 = some v → PC Tryz.prog g4id ([int x0, int x1] ++ g4c) (int v)) (r : (List Int)) (h : slices_symMergeCmpFunc_int b0 b1 b2 b3 g4 = some r) : PCM Tryz.prog 320 [.own 63 (b0.map int).length, int b1, int b2, int b3, .fn g4id g4c] [(63, .obj true 3 1 (b0.map int))] (.tuple []) [(63, .obj true 3 1 (r.map int))] := by
  unfold slices_symMergeCmpFunc_int at h
  refine PCM.start Tryz.func320 Tryz.ntmps320 rfl ok320 rfl (by rfl) (by rfl) (by rfl) (by rfl) (by rfl) ?_
  refine Run.seq ?_
  refine Run.sr ?_
  refine X.mv ?_
  refine X.mv ?_
  refine X.subW (by rfl) (by rfl) (by rfl) ?_
  refine X.bi ?_
  refine X.nil ?_
  refine R.cond (by rfl) (fun hc1 => ?_) (fun hc1 => ?_)
  · replace h := condT hc1 h
    refine Run.sr ?_
    refine X.mv ?_
    refine X.an ?_
    refine Run.sr ?_
    refine X.mv ?_
    refine X.an ?_
    refine Run.seq ?_
    obtain ⟨o2, ho2, h⟩ := bindE h
    refine R.join2 (β := Int) [(1, int b1)] [(63, .obj true 3 1 (b0.map int))] (fun p16 S => (0, .own 63 (b0.map int).length) :: (10, int p16) :: S) (fun p16 M => M) (fun p16 => p16 = o2) ?_ ?_
    · intro JJ5 hmeet4
      have hup3 := h; clear h; have h := ho2; clear ho2
      refine Run.block ?_
      refine R.loop2 (β := Int × Int) [(1, int b1), (4, .fn g4id g4c)] [(63, .obj true 3 1 (b0.map int))] (fun bb S => (0, .own 63 (b0.map int).length) :: (10, int bb.1) :: (11, int bb.2) :: S) (fun bb M => M) (fun n bb => slices_symMergeCmpFunc_int_L1 b0 b1 g4 n bb.1 bb.2 = some o2) F0 (b2, b3) (by repeat (first | trivial | refine ⟨by first | rfl | simp [setL], ?_⟩)) (by repeat (first | trivial | refine ⟨by first | rfl | simp [setL], ?_⟩)) (by rfl) (by rfl) h ?_
      clear h
      rintro JJ5 n5 ⟨a7, a8⟩ hag5 h
      dsimp only at h
      obtain _ | n5 := n5
      · exact absurd h (by simp [slices_symMergeCmpFunc_int_L1])
      rw [slices_symMergeCmpFunc_int_L1] at h
      refine Run.seq ?_
      refine Run.sr ?_
      refine X.mv ?_
      refine X.mv ?_
      refine X.bi ?_
      refine X.nil ?_
      refine R.cond (by rfl) (fun hc11 => ?_) (fun hc11 => ?_)
      · replace h := condT hc11 h
        refine Run.skip ?_
        refine Run.block ?_
        refine Run.sr ?_
        refine X.mv ?_
        refine X.mv ?_
        refine X.addW (by rfl) (by rfl) (by rfl) ?_
        refine X.conv Tryz.underlying235 (by rw [Tryz.underlying3]; rfl) (by rfl) (by rfl) ?_
        refine X.shr (by rfl) (by rfl) (by decide) (by rfl) ?_
        refine X.conv Tryz.underlying3 (by rw [Tryz.underlying235]; rfl) (by rfl) (by rfl) ?_
        refine X.an ?_
        refine Run.seq ?_
        refine Run.draw (footOf [(3, ([], [], [63], [])), (4, ([63], [], [], [])), (7, ([], [], [63], [])), (8, ([63], [], [], []))]) mixed (by kernel_rfl) (by kernel_rfl) ?_
        refine X.mv ?_
        refine X.mv ?_
        refine X.mv ?_
        obtain ⟨v12, hv12, h⟩ := bindE h
        refine X.index_xs elt26 (by rfl) (by rfl) (by first | rfl | simp [setL] | omega) (by rfl) (by exact (Int.toNat_of_nonneg (idxL_spec hv12).1).symm) (by have := idxL_lt hv12; simpa using this) (by rfl) (by rfl) ?_
        refine X.load_e shp3 (by rfl) (by rfl) (by rfl) (by first | rfl | simp [setL] | omega) (idxL_map _ hv12) (by rfl) (by rfl) (by rfl) ?_
        refine X.mv ?_
        refine X.mv ?_
        obtain ⟨v13, hv13, h⟩ := bindE h
        refine X.index_xs elt26 (by rfl) (by rfl) (by first | rfl | simp [setL] | omega) (by rfl) (by exact (Int.toNat_of_nonneg (idxL_spec hv13).1).symm) (by have := idxL_lt hv13; simpa using this) (by rfl) (by rfl) ?_
        refine X.load_e shp3 (by rfl) (by rfl) (by rfl) (by first | rfl | simp [setL] | omega) (idxL_map _ hv13) (by rfl) (by rfl) (by rfl) ?_
        obtain ⟨v14, hv14, h⟩ := bindE h
        refine X.callP (hg4 _ _ _ hv14) (by rfl) (by rfl) (by rfl) (by trivial) (by rfl) (by rfl) (by rfl) (by rfl) ?_
        refine X.bi ?_
        refine X.nil ?_
        refine R.cond (by rfl) (fun hc15 => ?_) (fun hc15 => ?_)
        · replace h := condT hc15 h
          refine Run.reg ?_
          refine X.mv ?_
          refine X.addW (by rfl) (by rfl) (by rfl) ?_
          refine X.an ?_
          refine Run.blk ?_
          exact hag5 n5 ((W ((IntKind.i64.wrap (Int.fdiv (IntKind.u64.wrap (W (a7 + a8))) (2 ^ min (Int.toNat 1) (IntKind.bits .u64)))) + 1)), a8) _ _ (by omega) h (by repeat (first | trivial | refine ⟨by first | rfl | simp [setL], ?_⟩)) (by repeat (first | trivial | refine ⟨by first | rfl | simp [setL], ?_⟩)) (by rfl) (by rfl)
        · replace h := condF hc15 h
          refine Run.reg ?_
          refine X.mv ?_
          refine X.an ?_
          refine Run.blk ?_
          exact hag5 n5 (a7, (IntKind.i64.wrap (Int.fdiv (IntKind.u64.wrap (W (a7 + a8))) (2 ^ min (Int.toNat 1) (IntKind.bits .u64))))) _ _ (by omega) h (by repeat (first | trivial | refine ⟨by first | rfl | simp [setL], ?_⟩)) (by repeat (first | trivial | refine ⟨by first | rfl | simp [setL], ?_⟩)) (by rfl) (by rfl)
      · replace h := condF hc11 h
        refine Run.exit (by rfl) ?_
        exact hmeet4 a7 _ _ (Option.some.inj h) (by repeat (first | trivial | refine ⟨by first | rfl | simp [setL], ?_⟩)) (by repeat (first | trivial | refine ⟨by first | rfl | simp [setL], ?_⟩)) (by rfl) (by rfl)
    rintro p16 rfl
    refine Run.seq ?_
    refine Run.sr ?_
    refine X.mv ?_
    refine X.an ?_
    obtain ⟨o17, ho17, h⟩ := bindE h
    refine R.join2 (β := (List Int)) [] [] (fun p30 S => S) (fun p30 M => (63, .obj true 3 1 (p30.map int)) :: M) (fun p30 => p30 = o17) ?_ ?_
    · intro JJ20 hmeet19
      have hup18 := h; clear h; have h := ho17; clear ho17
      refine Run.block ?_
      refine R.loop2 (β := Int × (List Int)) [(10, int p16)] [] (fun bb S => (0, .own 63 (bb.2.map int).length) :: (13, int bb.1) :: S) (fun bb M => (63, .obj true 3 1 (bb.2.map int)) :: M) (fun n bb => slices_symMergeCmpFunc_int_L2 p16 n bb.1 bb.2 = some o17) F0 (b1, b0) (by repeat (first | trivial | refine ⟨by first | rfl | simp [setL], ?_⟩)) (by repeat (first | trivial | refine ⟨by first | rfl | simp [setL], ?_⟩)) (by rfl) (by rfl) h ?_
      clear h
      rintro JJ20 n20 ⟨a22, a23⟩ hag20 h
      dsimp only at h
      obtain _ | n20 := n20
      · exact absurd h (by simp [slices_symMergeCmpFunc_int_L2])
      rw [slices_symMergeCmpFunc_int_L2] at h
      refine Run.seq ?_
      refine Run.sr ?_
      refine X.mv ?_
      refine X.mv ?_
      refine X.subW (by rfl) (by rfl) (by rfl) ?_
      refine X.bi ?_
      refine X.nil ?_
      refine R.cond (by rfl) (fun hc26 => ?_) (fun hc26 => ?_)
      · replace h := condT hc26 h
        refine Run.skip ?_
        refine Run.seq ?_
        refine Run.block ?_
        refine Run.draw (footOf [(8, ([], [], [63], [])), (9, ([63], [], [], [])), (12, ([], [], [63], [])), (13, ([63], [], [], [])), (14, ([], [], [63], [])), (15, ([63], [], [], [63])), (16, ([], [], [63], [])), (17, ([63], [], [], [63]))]) mixed (by kernel_rfl) (by kernel_rfl) ?_
        refine X.mv ?_
        refine X.mv ?_
        refine X.mv ?_
        refine X.mv ?_
        refine X.addW (by rfl) (by rfl) (by rfl) ?_
        refine X.mv ?_
        refine X.mv ?_
        refine X.addW (by rfl) (by rfl) (by rfl) ?_
        obtain ⟨v27, hv27, h⟩ := bindE h
        refine X.index_xs elt26 (by rfl) (by rfl) (by first | rfl | simp [setL] | omega) (by rfl) (by exact (Int.toNat_of_nonneg (idxL_spec hv27).1).symm) (by have := idxL_lt hv27; simpa using this) (by rfl) (by rfl) ?_
        refine X.load_e shp3 (by rfl) (by rfl) (by rfl) (by first | rfl | simp [setL] | omega) (idxL_map _ hv27) (by rfl) (by rfl) (by rfl) ?_
        refine X.mv ?_
        refine X.mv ?_
        obtain ⟨v28, hv28, h⟩ := bindE h
        refine X.index_xs elt26 (by rfl) (by rfl) (by first | rfl | simp [setL] | omega) (by rfl) (by exact (Int.toNat_of_nonneg (idxL_spec hv28).1).symm) (by have := idxL_lt hv28; simpa using this) (by rfl) (by rfl) ?_
        refine X.load_e shp3 (by rfl) (by rfl) (by rfl) (by first | rfl | simp [setL] | omega) (idxL_map _ hv28) (by rfl) (by rfl) (by rfl) ?_
        refine X.index_xs elt26 (by rfl) (by rfl) (by first | rfl | simp [setL] | omega) (by rfl) (by exact (Int.toNat_of_nonneg (idxL_spec hv28).1).symm) (by have := idxL_lt hv28; simpa using this) (by rfl) (by rfl) ?_
        refine X.store_es shp3 (by rfl) (by rfl) (by first | rfl | simp [setL] | omega) (idxL_map _ hv28) (by rfl) (by rfl) (by repeat (first | trivial | refine ⟨by first | rfl | simp [setL], ?_⟩)) (by rfl) (by rfl) (by rfl) (by rfl) (by exact setL_map _ _ _ v27) ?_
        obtain ⟨v29, hv29, h⟩ := bindE h
        refine X.index_xs elt26 (by rfl) (by rfl) (by first | rfl | simp [setL] | omega) (by rfl) (by exact (Int.toNat_of_nonneg (idxL_spec hv29).1).symm) (by have := idxL_lt hv29; simpa using this) (by rfl) (by rfl) ?_
        refine X.store_es shp3 (by rfl) (by rfl) (by first | rfl | simp [setL] | omega) (idxL_map _ hv29) (by rfl) (by rfl) (by repeat (first | trivial | refine ⟨by first | rfl | simp [setL], ?_⟩)) (by rfl) (by rfl) (by rfl) (by rfl) (by exact setL_map _ _ _ v28) ?_
        refine X.nil ?_
        refine Run.blk ?_
        refine Run.reg ?_
        refine X.mv ?_
        refine X.addW (by rfl) (by rfl) (by rfl) ?_
        refine X.an ?_
        refine R.castS (t := 0) (.own 63 ((setL (setL a23 a22 v27) (W (a22 + 1)) v28).map int).length) (by rfl) (.inl (by first | rfl | simp [setL])) ?_
        exact hag20 n20 ((W (a22 + 1)), (setL (setL a23 a22 v27) (W (a22 + 1)) v28)) _ _ (by omega) h (by repeat (first | trivial | refine ⟨by first | rfl | simp [setL], ?_⟩)) (by repeat (first | trivial | refine ⟨by first | rfl | simp [setL], ?_⟩)) (by rfl) (by rfl)
      · replace h := condF hc26 h
        refine Run.exit (by rfl) ?_
        exact hmeet19 a23 _ _ (Option.some.inj h) (by repeat (first | trivial | refine ⟨by first | rfl | simp [setL], ?_⟩)) (by repeat (first | trivial | refine ⟨by first | rfl | simp [setL], ?_⟩)) (by rfl) (by rfl)
    rintro p30 rfl
    cases h
    exact R.finM0 Tryz.results320 (by repeat (first | exact trivial | refine ⟨by rfl, ?_⟩)) rfl
  · replace h := condF hc1 h
    refine Run.skip ?_
    refine Run.seq ?_
    refine Run.sr ?_
    refine X.mv ?_
    refine X.mv ?_
    refine X.subW (by rfl) (by rfl) (by rfl) ?_
    refine X.bi ?_
    refine X.nil ?_
    refine R.cond (by rfl) (fun hc31 => ?_) (fun hc31 => ?_)
    · replace h := condT hc31 h
      refine Run.sr ?_
      refine X.mv ?_
      refine X.an ?_
      refine Run.sr ?_
      refine X.mv ?_
      refine X.an ?_
      refine Run.seq ?_
      obtain ⟨o32, ho32, h⟩ := bindE h
      refine R.join2 (β := Int) [(2, int b2)] [(63, .obj true 3 1 (b0.map int))] (fun p46 S => (0, .own 63 (b0.map int).length) :: (14, int p46) :: S) (fun p46 M => M) (fun p46 => p46 = o32) ?_ ?_
      · intro JJ35 hmeet34
        have hup33 := h; clear h; have h := ho32; clear ho32
        refine Run.block ?_
        refine R.loop2 (β := Int × Int) [(2, int b2), (4, .fn g4id g4c)] [(63, .obj true 3 1 (b0.map int))] (fun bb S => (0, .own 63 (b0.map int).length) :: (14, int bb.1) :: (15, int bb.2) :: S) (fun bb M => M) (fun n bb => slices_symMergeCmpFunc_int_L3 b0 b2 g4 n bb.1 bb.2 = some o32) F0 (b1, b2) (by repeat (first | trivial | refine ⟨by first | rfl | simp [setL], ?_⟩)) (by repeat (first | trivial | refine ⟨by first | rfl | simp [setL], ?_⟩)) (by rfl) (by rfl) h ?_
        clear h
        rintro JJ35 n35 ⟨a37, a38⟩ hag35 h
        dsimp only at h
        obtain _ | n35 := n35
        · exact absurd h (by simp [slices_symMergeCmpFunc_int_L3])
        rw [slices_symMergeCmpFunc_int_L3] at h
        refine Run.seq ?_
        refine Run.sr ?_
        refine X.mv ?_
        refine X.mv ?_
        refine X.bi ?_
        refine X.nil ?_
        refine R.cond (by rfl) (fun hc41 => ?_) (fun hc41 => ?_)
        · replace h := condT hc41 h
          refine Run.skip ?_
          refine Run.block ?_
          refine Run.sr ?_
          refine X.mv ?_
          refine X.mv ?_
          refine X.addW (by rfl) (by rfl) (by rfl) ?_
          refine X.conv Tryz.underlying235 (by rw [Tryz.underlying3]; rfl) (by rfl) (by rfl) ?_
          refine X.shr (by rfl) (by rfl) (by decide) (by rfl) ?_
          refine X.conv Tryz.underlying3 (by rw [Tryz.underlying235]; rfl) (by rfl) (by rfl) ?_
          refine X.an ?_
          refine Run.seq ?_
          refine Run.draw (footOf [(3, ([], [], [63], [])), (4, ([63], [], [], [])), (7, ([], [], [63], [])), (8, ([63], [], [], []))]) mixed (by kernel_rfl) (by kernel_rfl) ?_
          refine X.mv ?_
          refine X.mv ?_
          refine X.mv ?_
          obtain ⟨v42, hv42, h⟩ := bindE h
          refine X.index_xs elt26 (by rfl) (by rfl) (by first | rfl | simp [setL] | omega) (by rfl) (by exact (Int.toNat_of_nonneg (idxL_spec hv42).1).symm) (by have := idxL_lt hv42; simpa using this) (by rfl) (by rfl) ?_
          refine X.load_e shp3 (by rfl) (by rfl) (by rfl) (by first | rfl | simp [setL] | omega) (idxL_map _ hv42) (by rfl) (by rfl) (by rfl) ?_
          refine X.mv ?_
          refine X.mv ?_
          obtain ⟨v43, hv43, h⟩ := bindE h
          refine X.index_xs elt26 (by rfl) (by rfl) (by first | rfl | simp [setL] | omega) (by rfl) (by exact (Int.toNat_of_nonneg (idxL_spec hv43).1).symm) (by have := idxL_lt hv43; simpa using this) (by rfl) (by rfl) ?_
          refine X.load_e shp3 (by rfl) (by rfl) (by rfl) (by first | rfl | simp [setL] | omega) (idxL_map _ hv43) (by rfl) (by rfl) (by rfl) ?_
          obtain ⟨v44, hv44, h⟩ := bindE h
          refine X.callP (hg4 _ _ _ hv44) (by rfl) (by rfl) (by rfl) (by trivial) (by rfl) (by rfl) (by rfl) (by rfl) ?_
          refine X.bi ?_
          refine X.un (by rfl) (by rfl) (by rfl) ?_
          refine X.nil ?_
          refine R.cond (by rfl) (fun hc45 => ?_) (fun hc45 => ?_)
          · replace h := condT hc45 h
            refine Run.reg ?_
            refine X.mv ?_
            refine X.addW (by rfl) (by rfl) (by rfl) ?_
            refine X.an ?_
            refine Run.blk ?_
            exact hag35 n35 ((W ((IntKind.i64.wrap (Int.fdiv (IntKind.u64.wrap (W (a37 + a38))) (2 ^ min (Int.toNat 1) (IntKind.bits .u64)))) + 1)), a38) _ _ (by omega) h (by repeat (first | trivial | refine ⟨by first | rfl | simp [setL], ?_⟩)) (by repeat (first | trivial | refine ⟨by first | rfl | simp [setL], ?_⟩)) (by rfl) (by rfl)
          · replace h := condF hc45 h
            refine Run.reg ?_
            refine X.mv ?_
            refine X.an ?_
            refine Run.blk ?_
            exact hag35 n35 (a37, (IntKind.i64.wrap (Int.fdiv (IntKind.u64.wrap (W (a37 + a38))) (2 ^ min (Int.toNat 1) (IntKind.bits .u64))))) _ _ (by omega) h (by repeat (first | trivial | refine ⟨by first | rfl | simp [setL], ?_⟩)) (by repeat (first | trivial | refine ⟨by first | rfl | simp [setL], ?_⟩)) (by rfl) (by rfl)
        · replace h := condF hc41 h
          refine Run.exit (by rfl) ?_
          exact hmeet34 a37 _ _ (Option.some.inj h) (by repeat (first | trivial | refine ⟨by first | rfl | simp [setL], ?_⟩)) (by repeat (first | trivial | refine ⟨by first | rfl | simp [setL], ?_⟩)) (by rfl) (by rfl)
      rintro p46 rfl
      refine Run.seq ?_
      refine Run.sr ?_
      refine X.mv ?_
      refine X.an ?_
      obtain ⟨o47, ho47, h⟩ := bindE h
      refine R.join2 (β := (List Int)) [] [] (fun p60 S => S) (fun p60 M => (63, .obj true 3 1 (p60.map int)) :: M) (fun p60 => p60 = o47) ?_ ?_
      · intro JJ50 hmeet49
        have hup48 := h; clear h; have h := ho47; clear ho47
        refine Run.block ?_
        refine R.loop2 (β := Int × (List Int)) [(14, int p46)] [] (fun bb S => (0, .own 63 (bb.2.map int).length) :: (17, int bb.1) :: S) (fun bb M => (63, .obj true 3 1 (bb.2.map int)) :: M) (fun n bb => slices_symMergeCmpFunc_int_L4 p46 n bb.1 bb.2 = some o47) F0 (b2, b0) (by repeat (first | trivial | refine ⟨by first | rfl | simp [setL], ?_⟩)) (by repeat (first | trivial | refine ⟨by first | rfl | simp [setL], ?_⟩)) (by rfl) (by rfl) h ?_
        clear h
        rintro JJ50 n50 ⟨a52, a53⟩ hag50 h
        dsimp only at h
        obtain _ | n50 := n50
        · exact absurd h (by simp [slices_symMergeCmpFunc_int_L4])
        rw [slices_symMergeCmpFunc_int_L4] at h
        refine Run.seq ?_
        refine Run.sr ?_
        refine X.mv ?_
        refine X.mv ?_
        refine X.bi ?_
        refine X.nil ?_
        refine R.cond (by rfl) (fun hc56 => ?_) (fun hc56 => ?_)
        · replace h := condT hc56 h
          refine Run.skip ?_
          refine Run.seq ?_
          refine Run.block ?_
          refine Run.draw (footOf [(8, ([], [], [63], [])), (9, ([63], [], [], [])), (12, ([], [], [63], [])), (13, ([63], [], [], [])), (14, ([], [], [63], [])), (15, ([63], [], [], [63])), (16, ([], [], [63], [])), (17, ([63], [], [], [63]))]) mixed (by kernel_rfl) (by kernel_rfl) ?_
          refine X.mv ?_
          refine X.mv ?_
          refine X.mv ?_
          refine X.mv ?_
          refine X.subW (by rfl) (by rfl) (by rfl) ?_
          refine X.mv ?_
          refine X.mv ?_
          refine X.subW (by rfl) (by rfl) (by rfl) ?_
          obtain ⟨v57, hv57, h⟩ := bindE h
          refine X.index_xs elt26 (by rfl) (by rfl) (by first | rfl | simp [setL] | omega) (by rfl) (by exact (Int.toNat_of_nonneg (idxL_spec hv57).1).symm) (by have := idxL_lt hv57; simpa using this) (by rfl) (by rfl) ?_
          refine X.load_e shp3 (by rfl) (by rfl) (by rfl) (by first | rfl | simp [setL] | omega) (idxL_map _ hv57) (by rfl) (by rfl) (by rfl) ?_
          refine X.mv ?_
          refine X.mv ?_
          obtain ⟨v58, hv58, h⟩ := bindE h
          refine X.index_xs elt26 (by rfl) (by rfl) (by first | rfl | simp [setL] | omega) (by rfl) (by exact (Int.toNat_of_nonneg (idxL_spec hv58).1).symm) (by have := idxL_lt hv58; simpa using this) (by rfl) (by rfl) ?_
          refine X.load_e shp3 (by rfl) (by rfl) (by rfl) (by first | rfl | simp [setL] | omega) (idxL_map _ hv58) (by rfl) (by rfl) (by rfl) ?_
          refine X.index_xs elt26 (by rfl) (by rfl) (by first | rfl | simp [setL] | omega) (by rfl) (by exact (Int.toNat_of_nonneg (idxL_spec hv58).1).symm) (by have := idxL_lt hv58; simpa using this) (by rfl) (by rfl) ?_
          refine X.store_es shp3 (by rfl) (by rfl) (by first | rfl | simp [setL] | omega) (idxL_map _ hv58) (by rfl) (by rfl) (by repeat (first | trivial | refine ⟨by first | rfl | simp [setL], ?_⟩)) (by rfl) (by rfl) (by rfl) (by rfl) (by exact setL_map _ _ _ v57) ?_
          obtain ⟨v59, hv59, h⟩ := bindE h
          refine X.index_xs elt26 (by rfl) (by rfl) (by first | rfl | simp [setL] | omega) (by rfl) (by exact (Int.toNat_of_nonneg (idxL_spec hv59).1).symm) (by have := idxL_lt hv59; simpa using this) (by rfl) (by rfl) ?_
          refine X.store_es shp3 (by rfl) (by rfl) (by first | rfl | simp [setL] | omega) (idxL_map _ hv59) (by rfl) (by rfl) (by repeat (first | trivial | refine ⟨by first | rfl | simp [setL], ?_⟩)) (by rfl) (by rfl) (by rfl) (by rfl) (by exact setL_map _ _ _ v58) ?_
          refine X.nil ?_
          refine Run.blk ?_
          refine Run.reg ?_
          refine X.mv ?_
          refine X.subW (by rfl) (by rfl) (by rfl) ?_
          refine X.an ?_
          refine R.castS (t := 0) (.own 63 ((setL (setL a53 a52 v57) (W (a52 - 1)) v58).map int).length) (by rfl) (.inl (by first | rfl | simp [setL])) ?_
          exact hag50 n50 ((W (a52 - 1)), (setL (setL a53 a52 v57) (W (a52 - 1)) v58)) _ _ (by omega) h (by repeat (first | trivial | refine ⟨by first | rfl | simp [setL], ?_⟩)) (by repeat (first | trivial | refine ⟨by first | rfl | simp [setL], ?_⟩)) (by rfl) (by rfl)
        · replace h := condF hc56 h
          refine Run.exit (by rfl) ?_
          exact hmeet49 a53 _ _ (Option.some.inj h) (by repeat (first | trivial | refine ⟨by first | rfl | simp [setL], ?_⟩)) (by repeat (first | trivial | refine ⟨by first | rfl | simp [setL], ?_⟩)) (by rfl) (by rfl)
      rintro p60 rfl
      cases h
      exact R.finM0 Tryz.results320 (by repeat (first | exact trivial | refine ⟨by rfl, ?_⟩)) rfl
    · replace h := condF hc31 h
      refine Run.skip ?_
      refine Run.sr ?_
      refine X.mv ?_
      refine X.mv ?_
      refine X.addW (by rfl) (by rfl) (by rfl) ?_
      refine X.conv Tryz.underlying235 (by rw [Tryz.underlying3]; rfl) (by rfl) (by rfl) ?_
      refine X.shr (by rfl) (by rfl) (by decide) (by rfl) ?_
      refine X.conv Tryz.underlying3 (by rw [Tryz.underlying235]; rfl) (by rfl) (by rfl) ?_
      refine X.an ?_
      refine Run.sr ?_
      refine X.mv ?_
      refine X.mv ?_
      refine X.addW (by rfl) (by rfl) (by rfl) ?_
      refine X.an ?_
      refine Run.sr ?_
      refine X.as ?_
      refine X.an ?_
      refine Run.seq ?_
      refine Run.sr ?_
      refine X.mv ?_
      refine X.mv ?_
      refine X.bi ?_
      refine X.nil ?_
      obtain ⟨o61, ho61, h⟩ := bindE h
      refine R.join2 (β := Int × Int) [(1, int b1), (2, int b2), (3, int b3), (4, .fn g4id g4c), (18, int (IntKind.i64.wrap (Int.fdiv (IntKind.u64.wrap (W (b1 + b3))) (2 ^ min (Int.toNat 1) (IntKind.bits .u64))))), (19, int (W ((IntKind.i64.wrap (Int.fdiv (IntKind.u64.wrap (W (b1 + b3))) (2 ^ min (Int.toNat 1) (IntKind.bits .u64)))) + b2)))] [(63, .obj true 3 1 (b0.map int))] (fun p66 S => (0, .own 63 (b0.map int).length) :: (20, int p66.1) :: (21, int p66.2) :: S) (fun p66 M => M) (fun p66 => p66 = o61) ?_ ?_
      · intro JJ64 hmeet63
        have hup62 := h; clear h; have h := ho61; clear ho61
        refine R.cond (by rfl) (fun hc65 => ?_) (fun hc65 => ?_)
        · replace h := condT hc65 h
          refine Run.sr ?_
          refine X.mv ?_
          refine X.mv ?_
          refine X.subW (by rfl) (by rfl) (by rfl) ?_
          refine X.an ?_
          refine Run.reg ?_
          refine X.mv ?_
          refine X.an ?_
          exact hmeet63 ((W ((W ((IntKind.i64.wrap (Int.fdiv (IntKind.u64.wrap (W (b1 + b3))) (2 ^ min (Int.toNat 1) (IntKind.bits .u64)))) + b2)) - b3)), (IntKind.i64.wrap (Int.fdiv (IntKind.u64.wrap (W (b1 + b3))) (2 ^ min (Int.toNat 1) (IntKind.bits .u64))))) _ _ (Option.some.inj h) (by repeat (first | trivial | refine ⟨by first | rfl | simp [setL], ?_⟩)) (by repeat (first | trivial | refine ⟨by first | rfl | simp [setL], ?_⟩)) (by rfl) (by rfl)
        · replace h := condF hc65 h
          refine Run.sr ?_
          refine X.mv ?_
          refine X.an ?_
          refine Run.reg ?_
          refine X.mv ?_
          refine X.an ?_
          exact hmeet63 (b1, b2) _ _ (Option.some.inj h) (by repeat (first | trivial | refine ⟨by first | rfl | simp [setL], ?_⟩)) (by repeat (first | trivial | refine ⟨by first | rfl | simp [setL], ?_⟩)) (by rfl) (by rfl)
      rintro p66 rfl
      refine Run.sr ?_
      refine X.mv ?_
      refine X.subW (by rfl) (by rfl) (by rfl) ?_
      refine X.an ?_
      refine Run.seq ?_
      obtain ⟨o67, ho67, h⟩ := bindE h
      refine R.join2 (β := Int) [(1, int b1), (2, int b2), (3, int b3), (4, .fn g4id g4c), (18, int (IntKind.i64.wrap (Int.fdiv (IntKind.u64.wrap (W (b1 + b3))) (2 ^ min (Int.toNat 1) (IntKind.bits .u64))))), (19, int (W ((IntKind.i64.wrap (Int.fdiv (IntKind.u64.wrap (W (b1 + b3))) (2 ^ min (Int.toNat 1) (IntKind.bits .u64)))) + b2)))] [(63, .obj true 3 1 (b0.map int))] (fun p81 S => (0, .own 63 (b0.map int).length) :: (20, int p81) :: S) (fun p81 M => M) (fun p81 => p81 = o67) ?_ ?_
      · intro JJ70 hmeet69
        have hup68 := h; clear h; have h := ho67; clear ho67
        refine Run.block ?_
        refine R.loop2 (β := Int × Int) [(1, int b1), (2, int b2), (3, int b3), (4, .fn g4id g4c), (18, int (IntKind.i64.wrap (Int.fdiv (IntKind.u64.wrap (W (b1 + b3))) (2 ^ min (Int.toNat 1) (IntKind.bits .u64))))), (19, int (W ((IntKind.i64.wrap (Int.fdiv (IntKind.u64.wrap (W (b1 + b3))) (2 ^ min (Int.toNat 1) (IntKind.bits .u64)))) + b2))), (22, int (W ((W ((IntKind.i64.wrap (Int.fdiv (IntKind.u64.wrap (W (b1 + b3))) (2 ^ min (Int.toNat 1) (IntKind.bits .u64)))) + b2)) - 1)))] [(63, .obj true 3 1 (b0.map int))] (fun bb S => (0, .own 63 (b0.map int).length) :: (20, int bb.1) :: (21, int bb.2) :: S) (fun bb M => M) (fun n bb => slices_symMergeCmpFunc_int_L5 b0 b1 b2 b3 g4 n bb.1 bb.2 = some o67) F0 (p66.1, p66.2) (by repeat (first | trivial | refine ⟨by first | rfl | simp [setL], ?_⟩)) (by repeat (first | trivial | refine ⟨by first | rfl | simp [setL], ?_⟩)) (by rfl) (by rfl) h ?_
        clear h
        rintro JJ70 n70 ⟨a72, a73⟩ hag70 h
        dsimp only at h
        obtain _ | n70 := n70
        · exact absurd h (by simp [slices_symMergeCmpFunc_int_L5])
        rw [slices_symMergeCmpFunc_int_L5] at h
        refine Run.seq ?_
        refine Run.sr ?_
        refine X.mv ?_
        refine X.mv ?_
        refine X.bi ?_
        refine X.nil ?_
        refine R.cond (by rfl) (fun hc76 => ?_) (fun hc76 => ?_)
        · replace h := condT hc76 h
          refine Run.skip ?_
          refine Run.block ?_
          refine Run.sr ?_
          refine X.mv ?_
          refine X.mv ?_
          refine X.addW (by rfl) (by rfl) (by rfl) ?_
          refine X.conv Tryz.underlying235 (by rw [Tryz.underlying3]; rfl) (by rfl) (by rfl) ?_
          refine X.shr (by rfl) (by rfl) (by decide) (by rfl) ?_
          refine X.conv Tryz.underlying3 (by rw [Tryz.underlying235]; rfl) (by rfl) (by rfl) ?_
          refine X.an ?_
          refine Run.seq ?_
          refine Run.draw (footOf [(5, ([], [], [63], [])), (6, ([63], [], [], [])), (9, ([], [], [63], [])), (10, ([63], [], [], []))]) mixed (by kernel_rfl) (by kernel_rfl) ?_
          refine X.mv ?_
          refine X.mv ?_
          refine X.mv ?_
          refine X.mv ?_
          refine X.subW (by rfl) (by rfl) (by rfl) ?_
          obtain ⟨v77, hv77, h⟩ := bindE h
          refine X.index_xs elt26 (by rfl) (by rfl) (by first | rfl | simp [setL] | omega) (by rfl) (by exact (Int.toNat_of_nonneg (idxL_spec hv77).1).symm) (by have := idxL_lt hv77; simpa using this) (by rfl) (by rfl) ?_
          refine X.load_e shp3 (by rfl) (by rfl) (by rfl) (by first | rfl | simp [setL] | omega) (idxL_map _ hv77) (by rfl) (by rfl) (by rfl) ?_
          refine X.mv ?_
          refine X.mv ?_
          obtain ⟨v78, hv78, h⟩ := bindE h
          refine X.index_xs elt26 (by rfl) (by rfl) (by first | rfl | simp [setL] | omega) (by rfl) (by exact (Int.toNat_of_nonneg (idxL_spec hv78).1).symm) (by have := idxL_lt hv78; simpa using this) (by rfl) (by rfl) ?_
          refine X.load_e shp3 (by rfl) (by rfl) (by rfl) (by first | rfl | simp [setL] | omega) (idxL_map _ hv78) (by rfl) (by rfl) (by rfl) ?_
          obtain ⟨v79, hv79, h⟩ := bindE h
          refine X.callP (hg4 _ _ _ hv79) (by rfl) (by rfl) (by rfl) (by trivial) (by rfl) (by rfl) (by rfl) (by rfl) ?_
          refine X.bi ?_
          refine X.un (by rfl) (by rfl) (by rfl) ?_
          refine X.nil ?_
          refine R.cond (by rfl) (fun hc80 => ?_) (fun hc80 => ?_)
          · replace h := condT hc80 h
            refine Run.reg ?_
            refine X.mv ?_
            refine X.addW (by rfl) (by rfl) (by rfl) ?_
            refine X.an ?_
            refine Run.blk ?_
            exact hag70 n70 ((W ((IntKind.i64.wrap (Int.fdiv (IntKind.u64.wrap (W (a72 + a73))) (2 ^ min (Int.toNat 1) (IntKind.bits .u64)))) + 1)), a73) _ _ (by omega) h (by repeat (first | trivial | refine ⟨by first | rfl | simp [setL], ?_⟩)) (by repeat (first | trivial | refine ⟨by first | rfl | simp [setL], ?_⟩)) (by rfl) (by rfl)
          · replace h := condF hc80 h
            refine Run.reg ?_
            refine X.mv ?_
            refine X.an ?_
            refine Run.blk ?_
            exact hag70 n70 (a72, (IntKind.i64.wrap (Int.fdiv (IntKind.u64.wrap (W (a72 + a73))) (2 ^ min (Int.toNat 1) (IntKind.bits .u64))))) _ _ (by omega) h (by repeat (first | trivial | refine ⟨by first | rfl | simp [setL], ?_⟩)) (by repeat (first | trivial | refine ⟨by first | rfl | simp [setL], ?_⟩)) (by rfl) (by rfl)
        · replace h := condF hc76 h
          refine Run.exit (by rfl) ?_
          exact hmeet69 a72 _ _ (Option.some.inj h) (by repeat (first | trivial | refine ⟨by first | rfl | simp [setL], ?_⟩)) (by repeat (first | trivial | refine ⟨by first | rfl | simp [setL], ?_⟩)) (by rfl) (by rfl)
      rintro p81 rfl
      refine Run.sr ?_
      refine X.mv ?_
      refine X.mv ?_
      refine X.subW (by rfl) (by rfl) (by rfl) ?_
      refine X.an ?_
      refine Run.seq ?_
      refine Run.seq ?_
      obtain ⟨e82, he82, h2⟩ := bindE h
      refine R.regG [(0, .own 63 (b0.map int).length), (1, int b1), (2, int b2), (3, int b3), (4, .fn g4id g4c), (18, int (IntKind.i64.wrap (Int.fdiv (IntKind.u64.wrap (W (b1 + b3))) (2 ^ min (Int.toNat 1) (IntKind.bits .u64))))), (20, int p81), (24, int (W ((W ((IntKind.i64.wrap (Int.fdiv (IntKind.u64.wrap (W (b1 + b3))) (2 ^ min (Int.toNat 1) (IntKind.bits .u64)))) + b2)) - p81))), (185, bool e82)] [(63, .obj true 3 1 (b0.map int))] ?_ ?_
      · clear h; have h := he82; clear he82 h2
        refine X.mv ?_
        refine X.mv ?_
        refine X.bi ?_
        refine X.mv ?_
        refine X.ifG (by rfl) (by rfl) (by rfl) (fun hb83 => ?_) (fun hb83 => ?_)
        · replace h := condT hb83 h
          refine X.mv ?_
          refine X.gy ?_
          refine X.mv ?_
          refine X.gy ?_
          refine X.bi ?_
          refine X.pickT (by rfl) (by first | rfl | assumption) (by rfl) (by rfl) ?_
          cases h
          exact X.endG (by repeat (first | trivial | refine ⟨by first | rfl | simp [setL], ?_⟩)) (by repeat (first | trivial | refine ⟨by first | rfl | simp [setL], ?_⟩)) (by rfl) (by rfl)
        · replace h := condF hb83 h
          refine X.gn ?_
          refine X.gn ?_
          refine X.pickF (by rfl) (by first | rfl | assumption) (by rfl) (by rfl) ?_
          cases h
          exact X.endG (by repeat (first | trivial | refine ⟨by first | rfl | simp [setL], ?_⟩)) (by repeat (first | trivial | refine ⟨by first | rfl | simp [setL], ?_⟩)) (by rfl) (by rfl)
      replace h := h2; clear h2
      obtain ⟨o84, ho84, h⟩ := bindE h
      refine R.join2 (β := (List Int)) [(1, int b1), (3, int b3), (4, .fn g4id g4c), (18, int (IntKind.i64.wrap (Int.fdiv (IntKind.u64.wrap (W (b1 + b3))) (2 ^ min (Int.toNat 1) (IntKind.bits .u64))))), (20, int p81), (24, int (W ((W ((IntKind.i64.wrap (Int.fdiv (IntKind.u64.wrap (W (b1 + b3))) (2 ^ min (Int.toNat 1) (IntKind.bits .u64)))) + b2)) - p81)))] [] (fun p90 S => (0, .own 63 (p90.map int).length) :: S) (fun p90 M => (63, .obj true 3 1 (p90.map int)) :: M) (fun p90 => p90 = o84) ?_ ?_
      · intro JJ87 hmeet86
        have hup85 := h; clear h; have h := ho84; clear ho84
        refine R.cond (by rfl) (fun hc88 => ?_) (fun hc88 => ?_)
        · replace h := condT hc88 h
          refine Run.reg ?_
          refine X.mv ?_
          refine X.mv ?_
          refine X.mv ?_
          refine X.mv ?_
          refine X.mv ?_
          obtain ⟨v89, hv89, h⟩ := bindE h
          refine X.callR [(63, 63)] [(63, (b0.map int).length)] [(63, (v89.map int).length)] (slices_rotateCmpFunc_int_pc _ _ _ _ g4 _ _ hg4 _ hv89) (by rfl) (by rfl) (.ownB 63 (by rfl) (by first | rfl | simp [setL] | omega) (by rfl) (.pureB (by rfl) (by repeat (first | trivial | refine ⟨by first | rfl | simp [setL], ?_⟩)) (.pureB (by rfl) (by repeat (first | trivial | refine ⟨by first | rfl | simp [setL], ?_⟩)) (.pureB (by rfl) (by repeat (first | trivial | refine ⟨by first | rfl | simp [setL], ?_⟩)) (.pureB (by rfl) (by repeat (first | trivial | refine ⟨by first | rfl | simp [setL], ?_⟩)) .nil))))) (by rfl) ⟨rfl, rfl, ⟨_, by rfl, by constructor⟩, by constructor, trivial⟩ (by rfl) (by rfl) (by rfl) (by rfl) ⟨rfl, ⟨_, _, _, _, by rfl, by rfl⟩, ⟨_, _, _, _, by rfl, by rfl⟩, trivial⟩ (by rfl) (by repeat (first | trivial | refine ⟨by first | rfl | simp [setL], ?_⟩)) (by rfl) (by rfl) (by rfl) (by rfl) (by rfl) ?_
          refine X.nil ?_
          exact hmeet86 v89 _ _ (Option.some.inj h) (by repeat (first | trivial | refine ⟨by first | rfl | simp [setL], ?_⟩)) (by repeat (first | trivial | refine ⟨by first | rfl | simp [setL], ?_⟩)) (by rfl) (by rfl)
        · replace h := condF hc88 h
          refine Run.skip ?_
          exact hmeet86 b0 _ _ (Option.some.inj h) (by repeat (first | trivial | refine ⟨by first | rfl | simp [setL], ?_⟩)) (by repeat (first | trivial | refine ⟨by first | rfl | simp [setL], ?_⟩)) (by rfl) (by rfl)
      rintro p90 rfl
      refine Run.seq ?_
      refine Run.seq ?_
      obtain ⟨e91, he91, h2⟩ := bindE h
      refine R.regG [(0, .own 63 (p90.map int).length), (1, int b1), (3, int b3), (4, .fn g4id g4c), (18, int (IntKind.i64.wrap (Int.fdiv (IntKind.u64.wrap (W (b1 + b3))) (2 ^ min (Int.toNat 1) (IntKind.bits .u64))))), (20, int p81), (24, int (W ((W ((IntKind.i64.wrap (Int.fdiv (IntKind.u64.wrap (W (b1 + b3))) (2 ^ min (Int.toNat 1) (IntKind.bits .u64)))) + b2)) - p81))), (199, bool e91)] [(63, .obj true 3 1 (p90.map int))] ?_ ?_
      · clear h; have h := he91; clear he91 h2
        refine X.mv ?_
        refine X.mv ?_
        refine X.bi ?_
        refine X.mv ?_
        refine X.ifG (by rfl) (by rfl) (by rfl) (fun hb92 => ?_) (fun hb92 => ?_)
        · replace h := condT hb92 h
          refine X.mv ?_
          refine X.gy ?_
          refine X.mv ?_
          refine X.gy ?_
          refine X.bi ?_
          refine X.pickT (by rfl) (by first | rfl | assumption) (by rfl) (by rfl) ?_
          cases h
          exact X.endG (by repeat (first | trivial | refine ⟨by first | rfl | simp [setL], ?_⟩)) (by repeat (first | trivial | refine ⟨by first | rfl | simp [setL], ?_⟩)) (by rfl) (by rfl)
        · replace h := condF hb92 h
          refine X.gn ?_
          refine X.gn ?_
          refine X.pickF (by rfl) (by first | rfl | assumption) (by rfl) (by rfl) ?_
          cases h
          exact X.endG (by repeat (first | trivial | refine ⟨by first | rfl | simp [setL], ?_⟩)) (by repeat (first | trivial | refine ⟨by first | rfl | simp [setL], ?_⟩)) (by rfl) (by rfl)
      replace h := h2; clear h2
      obtain ⟨o93, ho93, h⟩ := bindE h
      refine R.join2 (β := Unit) [(3, int b3), (4, .fn g4id g4c), (18, int (IntKind.i64.wrap (Int.fdiv (IntKind.u64.wrap (W (b1 + b3))) (2 ^ min (Int.toNat 1) (IntKind.bits .u64))))), (24, int (W ((W ((IntKind.i64.wrap (Int.fdiv (IntKind.u64.wrap (W (b1 + b3))) (2 ^ min (Int.toNat 1) (IntKind.bits .u64)))) + b2)) - p81)))] [(63, .obj true 3 1 (p90.map int))] (fun p98 S => (0, .own 63 (p90.map int).length) :: S) (fun p98 M => M) (fun p98 => p98 = o93) ?_ ?_
      · intro JJ96 hmeet95
        have hup94 := h; clear h; have h := ho93; clear ho93
        refine R.cond (by rfl) (fun hc97 => ?_) (fun hc97 => ?_)
        · replace h := condT hc97 h
          exact absurd h (by simp)
        · replace h := condF hc97 h
          refine Run.skip ?_
          exact hmeet95 () _ _ (Option.some.inj h) (by repeat (first | trivial | refine ⟨by first | rfl | simp [setL], ?_⟩)) (by repeat (first | trivial | refine ⟨by first | rfl | simp [setL], ?_⟩)) (by rfl) (by rfl)
      rintro p98 rfl
      refine Run.seq ?_
      obtain ⟨e99, he99, h2⟩ := bindE h
      refine R.regG [(0, .own 63 (p90.map int).length), (3, int b3), (4, .fn g4id g4c), (18, int (IntKind.i64.wrap (Int.fdiv (IntKind.u64.wrap (W (b1 + b3))) (2 ^ min (Int.toNat 1) (IntKind.bits .u64))))), (24, int (W ((W ((IntKind.i64.wrap (Int.fdiv (IntKind.u64.wrap (W (b1 + b3))) (2 ^ min (Int.toNat 1) (IntKind.bits .u64)))) + b2)) - p81))), (213, bool e99)] [(63, .obj true 3 1 (p90.map int))] ?_ ?_
      · clear h; have h := he99; clear he99 h2
        refine X.mv ?_
        refine X.mv ?_
        refine X.bi ?_
        refine X.mv ?_
        refine X.ifG (by rfl) (by rfl) (by rfl) (fun hb100 => ?_) (fun hb100 => ?_)
        · replace h := condT hb100 h
          refine X.mv ?_
          refine X.gy ?_
          refine X.mv ?_
          refine X.gy ?_
          refine X.bi ?_
          refine X.pickT (by rfl) (by first | rfl | assumption) (by rfl) (by rfl) ?_
          cases h
          exact X.endG (by repeat (first | trivial | refine ⟨by first | rfl | simp [setL], ?_⟩)) (by repeat (first | trivial | refine ⟨by first | rfl | simp [setL], ?_⟩)) (by rfl) (by rfl)
        · replace h := condF hb100 h
          refine X.gn ?_
          refine X.gn ?_
          refine X.pickF (by rfl) (by first | rfl | assumption) (by rfl) (by rfl) ?_
          cases h
          exact X.endG (by repeat (first | trivial | refine ⟨by first | rfl | simp [setL], ?_⟩)) (by repeat (first | trivial | refine ⟨by first | rfl | simp [setL], ?_⟩)) (by rfl) (by rfl)
      replace h := h2; clear h2
      refine R.cond (by rfl) (fun hc101 => ?_) (fun hc101 => ?_)
      · replace h := condT hc101 h
        exact absurd h (by simp)
      · replace h := condF hc101 h
        refine Run.skip ?_
        cases h
        exact R.endM0 Tryz.results320 (by repeat (first | exact trivial | refine ⟨by rfl, ?_⟩)) rfl
theorem slices_stableCmpFunc_int_pc (b0 : List Int) (b1 : Int) (g2 : Int → Int → Option Int) (g2id : Nat) (g2c : List PV) (hg2 : ∀ (x0 : Int) (x1 : Int) v, g2 x0 x1 = some v → PC Tryz.prog g2id ([int x0, int x1] ++ g2c) (int v)) (r : (List Int)) (h : slices_stableCmpFunc_int b0 b1 g2 = some r) : PCM Tryz.prog 272 [.own 63 (b0.map int).length, int b1, .fn g2id g2c] [(63, .obj true 3 1 (b0.map int))] (.tuple []) [(63, .obj true 3 1 (r.map int))] := by
  unfold slices_stableCmpFunc_int at h
  refine PCM.start Tryz.func272 Tryz.ntmps272 rfl ok272 rfl (by rfl) (by rfl) (by rfl) (by rfl) (by rfl) ?_
  refine Run.sr ?_
  refine X.an ?_
  refine Run.sr ?_
  refine X.mv ?_
  refine X.as ?_
  refine X.an ?_
  refine Run.seq ?_
  obtain ⟨o1, ho1, h⟩ := bindE h
  refine R.join2 (β := Int × (List Int)) [(1, int b1), (2, .fn g2id g2c), (6, int 20)] [] (fun p13 S => (0, .own 63 (p13.2.map int).length) :: (7, int p13.1) :: S) (fun p13 M => (63, .obj true 3 1 (p13.2.map int)) :: M) (fun p13 => p13 = o1) ?_ ?_
  · intro JJ4 hmeet3
    have hup2 := h; clear h; have h := ho1; clear ho1
    refine Run.block ?_
    refine R.loop2 (β := Int × Int × (List Int)) [(1, int b1), (2, .fn g2id g2c), (6, int 20)] [] (fun bb S => (0, .own 63 (bb.2.2.map int).length) :: (7, int bb.1) :: (8, int bb.2.1) :: S) (fun bb M => (63, .obj true 3 1 (bb.2.2.map int)) :: M) (fun n bb => slices_stableCmpFunc_int_L1 b1 g2 n bb.1 bb.2.1 bb.2.2 = some o1) F0 (0, 20, b0) (by repeat (first | trivial | refine ⟨by first | rfl | simp [setL], ?_⟩)) (by repeat (first | trivial | refine ⟨by first | rfl | simp [setL], ?_⟩)) (by rfl) (by rfl) h ?_
    clear h
    rintro JJ4 n4 ⟨a6, a7, a8⟩ hag4 h
    dsimp only at h
    obtain _ | n4 := n4
    · exact absurd h (by simp [slices_stableCmpFunc_int_L1])
    rw [slices_stableCmpFunc_int_L1] at h
    refine Run.seq ?_
    refine Run.sr ?_
    refine X.mv ?_
    refine X.mv ?_
    refine X.bi ?_
    refine X.nil ?_
    refine R.cond (by rfl) (fun hc11 => ?_) (fun hc11 => ?_)
    · replace h := condT hc11 h
      refine Run.skip ?_
      refine Run.block ?_
      refine Run.sr ?_
      refine X.mv ?_
      refine X.mv ?_
      refine X.mv ?_
      refine X.mv ?_
      obtain ⟨v12, hv12, h⟩ := bindE h
      refine X.callR [(63, 63)] [(63, (a8.map int).length)] [(63, (v12.map int).length)] (slices_insertionSortCmpFunc_int_pc _ _ _ g2 _ _ hg2 _ hv12) (by rfl) (by rfl) (.ownB 63 (by rfl) (by first | rfl | simp [setL] | omega) (by rfl) (.pureB (by rfl) (by repeat (first | trivial | refine ⟨by first | rfl | simp [setL], ?_⟩)) (.pureB (by rfl) (by repeat (first | trivial | refine ⟨by first | rfl | simp [setL], ?_⟩)) (.pureB (by rfl) (by repeat (first | trivial | refine ⟨by first | rfl | simp [setL], ?_⟩)) .nil)))) (by rfl) ⟨rfl, rfl, ⟨_, by rfl, by constructor⟩, by constructor, trivial⟩ (by rfl) (by rfl) (by rfl) (by rfl) ⟨rfl, ⟨_, _, _, _, by rfl, by rfl⟩, ⟨_, _, _, _, by rfl, by rfl⟩, trivial⟩ (by rfl) (by repeat (first | trivial | refine ⟨by first | rfl | simp [setL], ?_⟩)) (by rfl) (by rfl) (by rfl) (by rfl) (by rfl) ?_
      refine X.nil ?_
      refine Run.sr ?_
      refine X.mv ?_
      refine X.an ?_
      refine Run.reg ?_
      refine X.mv ?_
      refine X.mv ?_
      refine X.addW (by rfl) (by rfl) (by rfl) ?_
      refine X.an ?_
      refine Run.blk ?_
      exact hag4 n4 (a7, (W (a7 + 20)), v12) _ _ (by omega) h (by repeat (first | trivial | refine ⟨by first | rfl | simp [setL], ?_⟩)) (by repeat (first | trivial | refine ⟨by first | rfl | simp [setL], ?_⟩)) (by rfl) (by rfl)
    · replace h := condF hc11 h
      refine Run.exit (by rfl) ?_
      exact hmeet3 (a6, a8) _ _ (Option.some.inj h) (by repeat (first | trivial | refine ⟨by first | rfl | simp [setL], ?_⟩)) (by repeat (first | trivial | refine ⟨by first | rfl | simp [setL], ?_⟩)) (by rfl) (by rfl)
  rintro p13 rfl
  refine Run.sr ?_
  refine X.mv ?_
  refine X.mv ?_
  refine X.mv ?_
  refine X.mv ?_
  obtain ⟨v14, hv14, h⟩ := bindE h
  refine X.callR [(63, 63)] [(63, (p13.2.map int).length)] [(63, (v14.map int).length)] (slices_insertionSortCmpFunc_int_pc _ _ _ g2 _ _ hg2 _ hv14) (by rfl) (by rfl) (.ownB 63 (by rfl) (by first | rfl | simp [setL] | omega) (by rfl) (.pureB (by rfl) (by repeat (first | trivial | refine ⟨by first | rfl | simp [setL], ?_⟩)) (.pureB (by rfl) (by repeat (first | trivial | refine ⟨by first | rfl | simp [setL], ?_⟩)) (.pureB (by rfl) (by repeat (first | trivial | refine ⟨by first | rfl | simp [setL], ?_⟩)) .nil)))) (by rfl) ⟨rfl, rfl, ⟨_, by rfl, by constructor⟩, by constructor, trivial⟩ (by rfl) (by rfl) (by rfl) (by rfl) ⟨rfl, ⟨_, _, _, _, by rfl, by rfl⟩, ⟨_, _, _, _, by rfl, by rfl⟩, trivial⟩ (by rfl) (by repeat (first | trivial | refine ⟨by first | rfl | simp [setL], ?_⟩)) (by rfl) (by rfl) (by rfl) (by rfl) (by rfl) ?_
  refine X.nil ?_
  obtain ⟨o15, ho15, h⟩ := bindE h
  refine R.join2 (β := (List Int)) [] [] (fun p40 S => S) (fun p40 M => (63, .obj true 3 1 (p40.map int)) :: M) (fun p40 => p40 = o15) ?_ ?_
  · intro JJ18 hmeet17
    have hup16 := h; clear h; have h := ho15; clear ho15
    refine Run.block ?_
    refine R.loop2 (β := Int × (List Int)) [(1, int b1), (2, .fn g2id g2c)] [] (fun bb S => (0, .own 63 (bb.2.map int).length) :: (6, int bb.1) :: S) (fun bb M => (63, .obj true 3 1 (bb.2.map int)) :: M) (fun n bb => slices_stableCmpFunc_int_L2 b1 g2 n bb.1 bb.2 = some o15) F0 (20, v14) (by repeat (first | trivial | refine ⟨by first | rfl | simp [setL], ?_⟩)) (by repeat (first | trivial | refine ⟨by first | rfl | simp [setL], ?_⟩)) (by rfl) (by rfl) h ?_
    clear h
    rintro JJ18 n18 ⟨a20, a21⟩ hag18 h
    dsimp only at h
    obtain _ | n18 := n18
    · exact absurd h (by simp [slices_stableCmpFunc_int_L2])
    rw [slices_stableCmpFunc_int_L2] at h
    refine Run.seq ?_
    refine Run.sr ?_
    refine X.mv ?_
    refine X.mv ?_
    refine X.bi ?_
    refine X.nil ?_
    refine R.cond (by rfl) (fun hc24 => ?_) (fun hc24 => ?_)
    · replace h := condT hc24 h
      refine Run.skip ?_
      refine Run.block ?_
      refine Run.sr ?_
      refine X.mv ?_
      refine X.mulW (by rfl) (by rfl) (by rfl) ?_
      refine X.as ?_
      refine X.an ?_
      refine Run.seq ?_
      obtain ⟨o25, ho25, h⟩ := bindE h
      refine R.join2 (β := Int × (List Int)) [(1, int b1), (2, .fn g2id g2c), (6, int a20)] [] (fun p37 S => (0, .own 63 (p37.2.map int).length) :: (7, int p37.1) :: S) (fun p37 M => (63, .obj true 3 1 (p37.2.map int)) :: M) (fun p37 => p37 = o25) ?_ ?_
      · intro JJ28 hmeet27
        have hup26 := h; clear h; have h := ho25; clear ho25
        refine Run.block ?_
        refine R.loop2 (β := Int × Int × (List Int)) [(1, int b1), (2, .fn g2id g2c), (6, int a20)] [] (fun bb S => (0, .own 63 (bb.2.2.map int).length) :: (7, int bb.1) :: (8, int bb.2.1) :: S) (fun bb M => (63, .obj true 3 1 (bb.2.2.map int)) :: M) (fun n bb => slices_stableCmpFunc_int_L3 b1 g2 a20 n bb.1 bb.2.1 bb.2.2 = some o25) F0 (0, (W (2 * a20)), a21) (by repeat (first | trivial | refine ⟨by first | rfl | simp [setL], ?_⟩)) (by repeat (first | trivial | refine ⟨by first | rfl | simp [setL], ?_⟩)) (by rfl) (by rfl) h ?_
        clear h
        rintro JJ28 n28 ⟨a30, a31, a32⟩ hag28 h
        dsimp only at h
        obtain _ | n28 := n28
        · exact absurd h (by simp [slices_stableCmpFunc_int_L3])
        rw [slices_stableCmpFunc_int_L3] at h
        refine Run.seq ?_
        refine Run.sr ?_
        refine X.mv ?_
        refine X.mv ?_
        refine X.bi ?_
        refine X.nil ?_
        refine R.cond (by rfl) (fun hc35 => ?_) (fun hc35 => ?_)
        · replace h := condT hc35 h
          refine Run.skip ?_
          refine Run.block ?_
          refine Run.sr ?_
          refine X.mv ?_
          refine X.mv ?_
          refine X.mv ?_
          refine X.mv ?_
          refine X.addW (by rfl) (by rfl) (by rfl) ?_
          refine X.mv ?_
          refine X.mv ?_
          obtain ⟨v36, hv36, h⟩ := bindE h
          refine X.callR [(63, 63)] [(63, (a32.map int).length)] [(63, (v36.map int).length)] (slices_symMergeCmpFunc_int_pc _ _ _ _ g2 _ _ hg2 _ hv36) (by rfl) (by rfl) (.ownB 63 (by rfl) (by first | rfl | simp [setL] | omega) (by rfl) (.pureB (by rfl) (by repeat (first | trivial | refine ⟨by first | rfl | simp [setL], ?_⟩)) (.pureB (by rfl) (by repeat (first | trivial | refine ⟨by first | rfl | simp [setL], ?_⟩)) (.pureB (by rfl) (by repeat (first | trivial | refine ⟨by first | rfl | simp [setL], ?_⟩)) (.pureB (by rfl) (by repeat (first | trivial | refine ⟨by first | rfl | simp [setL], ?_⟩)) .nil))))) (by rfl) ⟨rfl, rfl, ⟨_, by rfl, by constructor⟩, by constructor, trivial⟩ (by rfl) (by rfl) (by rfl) (by rfl) ⟨rfl, ⟨_, _, _, _, by rfl, by rfl⟩, ⟨_, _, _, _, by rfl, by rfl⟩, trivial⟩ (by rfl) (by repeat (first | trivial | refine ⟨by first | rfl | simp [setL], ?_⟩)) (by rfl) (by rfl) (by rfl) (by rfl) (by rfl) ?_
          refine X.nil ?_
          refine Run.sr ?_
          refine X.mv ?_
          refine X.an ?_
          refine Run.reg ?_
          refine X.mv ?_
          refine X.mv ?_
          refine X.mulW (by rfl) (by rfl) (by rfl) ?_
          refine X.addW (by rfl) (by rfl) (by rfl) ?_
          refine X.an ?_
          refine Run.blk ?_
          exact hag28 n28 (a31, (W (a31 + (W (2 * a20)))), v36) _ _ (by omega) h (by repeat (first | trivial | refine ⟨by first | rfl | simp [setL], ?_⟩)) (by repeat (first | trivial | refine ⟨by first | rfl | simp [setL], ?_⟩)) (by rfl) (by rfl)
        · replace h := condF hc35 h
          refine Run.exit (by rfl) ?_
          exact hmeet27 (a30, a32) _ _ (Option.some.inj h) (by repeat (first | trivial | refine ⟨by first | rfl | simp [setL], ?_⟩)) (by repeat (first | trivial | refine ⟨by first | rfl | simp [setL], ?_⟩)) (by rfl) (by rfl)
      rintro p37 rfl
      refine Run.seq ?_
      refine Run.sr ?_
      refine X.mv ?_
      refine X.mv ?_
      refine X.addW (by rfl) (by rfl) (by rfl) ?_
      refine X.an ?_
      refine Run.sr ?_
      refine X.mv ?_
      refine X.mv ?_
      refine X.bi ?_
      refine X.nil ?_
      refine R.cond (by rfl) (fun hc38 => ?_) (fun hc38 => ?_)
      · replace h := condT hc38 h
        refine Run.reg ?_
        refine X.mv ?_
        refine X.mv ?_
        refine X.mv ?_
        refine X.mv ?_
        refine X.mv ?_
        obtain ⟨v39, hv39, h⟩ := bindE h
        refine X.callR [(63, 63)] [(63, (p37.2.map int).length)] [(63, (v39.map int).length)] (slices_symMergeCmpFunc_int_pc _ _ _ _ g2 _ _ hg2 _ hv39) (by rfl) (by rfl) (.ownB 63 (by rfl) (by first | rfl | simp [setL] | omega) (by rfl) (.pureB (by rfl) (by repeat (first | trivial | refine ⟨by first | rfl | simp [setL], ?_⟩)) (.pureB (by rfl) (by repeat (first | trivial | refine ⟨by first | rfl | simp [setL], ?_⟩)) (.pureB (by rfl) (by repeat (first | trivial | refine ⟨by first | rfl | simp [setL], ?_⟩)) (.pureB (by rfl) (by repeat (first | trivial | refine ⟨by first | rfl | simp [setL], ?_⟩)) .nil))))) (by rfl) ⟨rfl, rfl, ⟨_, by rfl, by constructor⟩, by constructor, trivial⟩ (by rfl) (by rfl) (by rfl) (by rfl) ⟨rfl, ⟨_, _, _, _, by rfl, by rfl⟩, ⟨_, _, _, _, by rfl, by rfl⟩, trivial⟩ (by rfl) (by repeat (first | trivial | refine ⟨by first | rfl | simp [setL], ?_⟩)) (by rfl) (by rfl) (by rfl) (by rfl) (by rfl) ?_
        refine X.nil ?_
        refine Run.reg ?_
        refine X.mv ?_
        refine X.mulW (by rfl) (by rfl) (by rfl) ?_
        refine X.an ?_
        refine Run.blk ?_
        exact hag18 n18 ((W (a20 * 2)), v39) _ _ (by omega) h (by repeat (first | trivial | refine ⟨by first | rfl | simp [setL], ?_⟩)) (by repeat (first | trivial | refine ⟨by first | rfl | simp [setL], ?_⟩)) (by rfl) (by rfl)
      · replace h := condF hc38 h
        refine Run.skip ?_
        refine Run.reg ?_
        refine X.mv ?_
        refine X.mulW (by rfl) (by rfl) (by rfl) ?_
        refine X.an ?_
        refine Run.blk ?_
        exact hag18 n18 ((W (a20 * 2)), p37.2) _ _ (by omega) h (by repeat (first | trivial | refine ⟨by first | rfl | simp [setL], ?_⟩)) (by repeat (first | trivial | refine ⟨by first | rfl | simp [setL], ?_⟩)) (by rfl) (by rfl)
    · replace h := condF hc24 h
      refine Run.exit (by rfl) ?_
      exact hmeet17 a21 _ _ (Option.some.inj h) (by repeat (first | trivial | refine ⟨by first | rfl | simp [setL], ?_⟩)) (by repeat (first | trivial | refine ⟨by first | rfl | simp [setL], ?_⟩)) (by rfl) (by rfl)
  rintro p40 rfl
  cases h
  exact R.endM0 Tryz.results272 (by repeat (first | exact trivial | refine ⟨by rfl, ?_⟩)) rfl
theorem slices_SortStableFunc_int_pc (b0 : List Int) (g1 : Int → Int → Option Int) (g1id : Nat) (g1c : List PV) (hg1 : ∀ (x0 : Int) (x1 : Int) v, g1 x0 x1 = some v → PC Tryz.prog g1id ([int x0, int x1] ++ g1c) (int v)) (r : (List Int)) (h : slices_SortStableFunc_int b0 g1 = some r) : PCM Tryz.prog 177 [.own 63 (b0.map int).length, .fn g1id g1c] [(63, .obj true 3 1 (b0.map int))] (.tuple []) [(63, .obj true 3 1 (r.map int))] := by
  unfold slices_SortStableFunc_int at h
  refine PCM.start Tryz.func177 Tryz.ntmps177 rfl ok177 rfl (by rfl) (by rfl) (by rfl) (by rfl) (by rfl) ?_
  refine Run.reg ?_
  refine X.mv ?_
  refine X.mv ?_
  refine X.len_o elt26 (by rfl) (by rfl) (by first | rfl | simp [setL] | omega) (by first | exact List.length_map .. | rfl) (by rfl) (by rfl) ?_
  refine X.mv ?_
  obtain ⟨v1, hv1, h⟩ := bindE h
  refine X.callR [(63, 63)] [(63, (b0.map int).length)] [(63, (v1.map int).length)] (slices_stableCmpFunc_int_pc _ _ g1 _ _ hg1 _ hv1) (by rfl) (by rfl) (.ownB 63 (by rfl) (by first | rfl | simp [setL] | omega) (by rfl) (.pureB (by rfl) (by repeat (first | trivial | refine ⟨by first | rfl | simp [setL], ?_⟩)) (.pureB (by rfl) (by repeat (first | trivial | refine ⟨by first | rfl | simp [setL], ?_⟩)) .nil))) (by rfl) ⟨rfl, rfl, ⟨_, by rfl, by constructor⟩, by constructor, trivial⟩ (by rfl) (by rfl) (by rfl) (by rfl) ⟨rfl, ⟨_, _, _, _, by rfl, by rfl⟩, ⟨_, _, _, _, by rfl, by rfl⟩, trivial⟩ (by rfl) (by repeat (first | trivial | refine ⟨by first | rfl | simp [setL], ?_⟩)) (by rfl) (by rfl) (by rfl) (by rfl) (by rfl) ?_
  refine X.nil ?_
  cases h
  exact R.endM0 Tryz.results177 (by repeat (first | exact trivial | refine ⟨by rfl, ?_⟩)) rfl
theorem i_MachineChain_pc (b0 : TProject) (b1 : TDomain) (b2 : Int) (r : List Int) (h : i_MachineChain b0 b1 b2 = some r) : PC Tryz.prog 76 [eTProject b0, eTDomain b1, int b2] (.fresh true 3 1 (r.map int)) := by
  unfold i_MachineChain at h
  refine PC.start Tryz.func76 Tryz.ntmps76 rfl ok76 rfl ?_
  refine Run.sr ?_
  refine X.box (by rfl) (by rfl) (by repeat (first | trivial | refine ⟨by first | rfl | simp [setL], ?_⟩)) (by rfl) (by rfl) (by rfl) (by rfl) ?_
  refine X.box (by rfl) (by rfl) (by repeat (first | trivial | refine ⟨by first | rfl | simp [setL], ?_⟩)) (by rfl) (by rfl) (by rfl) (by rfl) ?_
  refine X.box (by rfl) (by rfl) (by repeat (first | trivial | refine ⟨by first | rfl | simp [setL], ?_⟩)) (by rfl) (by rfl) (by rfl) (by rfl) ?_
  refine X.an ?_
  refine Run.seq ?_
  refine Run.sr ?_
  refine X.ld shp28 ?_
  refine X.ld shp32 ?_
  refine X.ld shp3 ?_
  obtain ⟨v1, hv1, h⟩ := bindE h
  refine X.callP (i_onMachine_pc _ _ _ _ hv1) (by rfl) (by rfl) (by rfl) (by trivial) (by rfl) (by rfl) (by rfl) (by rfl) ?_
  refine X.un (by rfl) (by rfl) (by rfl) ?_
  refine X.nil ?_
  refine R.cond (by rfl) (fun hc2 => ?_) (fun hc2 => ?_)
  · replace h := condT hc2 h
    refine Run.sr ?_
    refine X.an ?_
    cases h
    refine R.fin1n (x := true) (e := 3) (sz := 1) Tryz.results76 (by rfl) (by decide) ?_
    rfl
  · replace h := condF hc2 h
    refine Run.skip ?_
    refine Run.seq ?_
    refine R.pubBlk (n := 192) (by rfl) (by rfl) (by repeat (first | trivial | refine ⟨by first | rfl | simp [setL], ?_⟩)) ?_
    refine R.pubBlk (n := 256) (by rfl) (by rfl) (by repeat (first | trivial | refine ⟨by first | rfl | simp [setL], ?_⟩)) ?_
    refine R.pubBlk (n := 320) (by rfl) (by rfl) (by repeat (first | trivial | refine ⟨by first | rfl | simp [setL], ?_⟩)) ?_
    refine Run.reg ?_
    refine X.fieldAddr_l fld28_1 (by rfl) (by rfl) ?_
    refine X.ld shp23 ?_
    refine X.len_s elt23 (by rfl) (by exact List.length_map ..) (by rfl) ?_
    obtain ⟨v3, hv3, h⟩ := bindE h
    refine X.callF (i_IntRange_pc _ _ hv3) (by rfl) (by rfl) (by rfl) (by trivial) (by rfl) (by rfl) (by rfl) (by rfl) ?_
    refine X.makeFunc (by rfl) (by rfl) (by repeat (first | trivial | refine ⟨by first | rfl | simp [setL], ?_⟩)) (by rfl) (by rfl) ?_
    obtain ⟨v4, hv4, h⟩ := bindE h
    refine X.callF (i_kept_pc _ (fun x0 => i_MachineChain_c1 x0 b0 b1 b2) _ _ (fun x0 v hv => i_MachineChain_c1_pc _ _ _ _ _ hv) _ hv4) (by rfl) (by rfl) (by rfl) (by repeat (first | trivial | refine ⟨by first | rfl | simp [setL], ?_⟩)) (by rfl) (by rfl) (by rfl) (by rfl) ?_
    refine X.an ?_
    refine Run.sr ?_
    refine X.mv ?_
    refine X.makeFunc (by rfl) (by rfl) (by repeat (first | trivial | refine ⟨by first | rfl | simp [setL], ?_⟩)) (by rfl) (by rfl) ?_
    obtain ⟨v5, hv5, h⟩ := bindE h
    refine X.callR [(63, 1152)] [(1152, (v4.map int).length)] [(1152, (v5.map int).length)] (slices_SortStableFunc_int_pc _ (fun x0 x1 => i_MachineChain_c2 x0 x1 b1) _ _ (fun x0 x1 v hv => i_MachineChain_c2_pc _ _ _ _ hv) _ hv5) (by rfl) (by rfl) (.ownB 63 (by rfl) (by first | rfl | simp [setL] | omega) (by rfl) (.pureB (by rfl) (by repeat (first | trivial | refine ⟨by first | rfl | simp [setL], ?_⟩)) .nil)) (by rfl) ⟨rfl, rfl, ⟨_, by rfl, by constructor⟩, by constructor, trivial⟩ (by rfl) (by rfl) (by rfl) (by rfl) ⟨rfl, ⟨_, _, _, _, by rfl, by rfl⟩, ⟨_, _, _, _, by rfl, by rfl⟩, trivial⟩ (by rfl) (by repeat (first | trivial | refine ⟨by first | rfl | simp [setL], ?_⟩)) (by rfl) (by rfl) (by rfl) (by rfl) (by rfl) ?_
    refine X.nil ?_
    refine Run.sr ?_
    refine X.mv ?_
    refine X.an ?_
    cases h
    refine R.fin1o Tryz.results76 (by rfl) (by rfl) (by first | rfl | simp [setL] | omega) ?_
    rfl
end Go.Px.YtjncefleglnnjaaGreat
