/-
  PROVED: contracts of functions of the program over pure values. No condition beyond those that each theorem names.
-/
import Derived.Test.YtjncefleglnnjaaProg
import Derived.Test.YtjncefleglnnjaaD1
import Derived.Test.YtjncefleglnnjaaC1
namespace Go.Px.Ytjncefleglnnjaa
set_option linter.unusedSimpArgs false
set_option linter.unusedVariables false
open Go.Px Go.Proofs
theorem i_Project_linkOk_pc (b0 : TProject) (b1 : TLink) (r : Bool) (h : i_Project_linkOk b0 b1 = some r) : PC Try.prog 153 [eTProject b0, eTLink b1] (bool r) := by
  unfold i_Project_linkOk at h
  refine PC.start Try.func153 Try.ntmps153 rfl ok153 rfl ?_
  refine Run.seq ?_
  refine Run.reg ?_
  refine X.box (by rfl) (by rfl) (by repeat (first | trivial | refine ⟨by first | rfl | simp [setL], ?_⟩)) (by rfl) (by rfl) (by rfl) (by rfl) ?_
  refine X.box (by rfl) (by rfl) (by repeat (first | trivial | refine ⟨by first | rfl | simp [setL], ?_⟩)) (by rfl) (by rfl) (by rfl) (by rfl) ?_
  refine X.assign (by rfl) (by rfl) ?_
  refine X.nil ?_
  refine Run.seq ?_
  obtain ⟨v1, hv1, h⟩ := bindE h
  obtain ⟨e2, he2, h2⟩ := bindE h
  refine R.regG [(4, bool e2)] [] ?_ ?_
  · clear h; have h := he2; clear he2 h2
    refine X.load_l shp34 (by rfl) (by rfl) (by rfl) (by rfl) (by rfl) (by rfl) ?_
    refine X.fieldAddr_l fld174_0 (by rfl) (by rfl) ?_
    refine X.load_l shp3 (by rfl) (by rfl) (by rfl) (by rfl) (by rfl) (by rfl) ?_
    refine X.callP (i_Project_hasActivity_pc _ _ _ hv1) (by rfl) (by rfl) (by rfl) (by trivial) (by rfl) (by rfl) (by rfl) (by rfl) ?_
    refine X.move (by rfl) (by rfl) ?_
    refine X.ifG (by rfl) (by rfl) (by rfl) (fun hb3 => ?_) (fun hb3 => ?_)
    · replace h := condT hb3 h
      refine X.load_l shp34 (by rfl) (by rfl) (by rfl) (by rfl) (by rfl) (by rfl) ?_
      refine X.gyes (by rfl) (by rfl) (by first | rfl | assumption) ?_
      refine X.fieldAddr_l fld174_1 (by rfl) (by rfl) ?_
      refine X.gyes (by rfl) (by rfl) (by first | rfl | assumption) ?_
      refine X.load_l shp3 (by rfl) (by rfl) (by rfl) (by rfl) (by rfl) (by rfl) ?_
      refine X.gyes (by rfl) (by rfl) (by first | rfl | assumption) ?_
      obtain ⟨v4, hv4, h⟩ := bindE h
      refine X.callP (i_Project_hasActivity_pc _ _ _ hv4) (by rfl) (by rfl) (by rfl) (by trivial) (by rfl) (by rfl) (by rfl) (by rfl) ?_
      refine X.pickT (by rfl) (by first | rfl | assumption) (by rfl) (by rfl) ?_
      refine X.move (by rfl) (by rfl) ?_
      refine X.ifG (by rfl) (by rfl) (by rfl) (fun hb5 => ?_) (fun hb5 => ?_)
      · replace h := condT hb5 h
        refine X.fieldAddr_l fld174_0 (by rfl) (by rfl) ?_
        refine X.gyes (by rfl) (by rfl) (by first | rfl | assumption) ?_
        refine X.load_l shp3 (by rfl) (by rfl) (by rfl) (by rfl) (by rfl) (by rfl) ?_
        refine X.gyes (by rfl) (by rfl) (by first | rfl | assumption) ?_
        refine X.fieldAddr_l fld174_1 (by rfl) (by rfl) ?_
        refine X.gyes (by rfl) (by rfl) (by first | rfl | assumption) ?_
        refine X.load_l shp3 (by rfl) (by rfl) (by rfl) (by rfl) (by rfl) (by rfl) ?_
        refine X.gyes (by rfl) (by rfl) (by first | rfl | assumption) ?_
        refine X.bin (by rfl) (by rfl) (by rfl) (by rfl) (by intro h; cases h) (by rfl) ?_
        refine X.pickT (by rfl) (by first | rfl | assumption) (by rfl) (by rfl) ?_
        refine X.move (by rfl) (by rfl) ?_
        refine X.ifG (by rfl) (by rfl) (by rfl) (fun hb6 => ?_) (fun hb6 => ?_)
        · replace h := condT hb6 h
          refine X.fieldAddr_l fld174_3 (by rfl) (by rfl) ?_
          refine X.gyes (by rfl) (by rfl) (by first | rfl | assumption) ?_
          refine X.load_l shp3 (by rfl) (by rfl) (by rfl) (by rfl) (by rfl) (by rfl) ?_
          refine X.gyes (by rfl) (by rfl) (by first | rfl | assumption) ?_
          obtain ⟨v7, hv7, h⟩ := bindE h
          refine X.callP (i_within_pc _ _ _ _ hv7) (by rfl) (by rfl) (by rfl) (by trivial) (by rfl) (by rfl) (by rfl) (by rfl) ?_
          refine X.pickT (by rfl) (by first | rfl | assumption) (by rfl) (by rfl) ?_
          refine X.assign (by rfl) (by rfl) ?_
          cases h
          exact X.endG (by trivial) (by trivial) (by rfl) (by rfl)
        · replace h := condF hb6 h
          refine X.gno (by rfl) (by rfl) (by first | rfl | assumption) (by rfl) ?_
          refine X.gno (by rfl) (by rfl) (by first | rfl | assumption) (by rfl) ?_
          refine X.pickF (by rfl) (by first | rfl | assumption) (by rfl) (by rfl) ?_
          refine X.assign (by rfl) (by rfl) ?_
          cases h
          exact X.endG (by trivial) (by trivial) (by rfl) (by rfl)
      · replace h := condF hb5 h
        refine X.gno (by rfl) (by rfl) (by first | rfl | assumption) (by rfl) ?_
        refine X.gno (by rfl) (by rfl) (by first | rfl | assumption) (by rfl) ?_
        refine X.gno (by rfl) (by rfl) (by first | rfl | assumption) (by rfl) ?_
        refine X.gno (by rfl) (by rfl) (by first | rfl | assumption) (by rfl) ?_
        refine X.pickF (by rfl) (by first | rfl | assumption) (by rfl) (by rfl) ?_
        refine X.move (by rfl) (by rfl) ?_
        refine X.gno (by rfl) (by rfl) (by first | rfl | assumption) (by rfl) ?_
        refine X.gno (by rfl) (by rfl) (by first | rfl | assumption) (by rfl) ?_
        refine X.gno (by rfl) (by rfl) (by first | rfl | assumption) (by rfl) ?_
        refine X.pickF (by rfl) (by first | rfl | assumption) (by rfl) (by rfl) ?_
        refine X.assign (by rfl) (by rfl) ?_
        cases h
        exact X.endG (by trivial) (by trivial) (by rfl) (by rfl)
    · replace h := condF hb3 h
      refine X.gno (by rfl) (by rfl) (by first | rfl | assumption) (by rfl) ?_
      refine X.gno (by rfl) (by rfl) (by first | rfl | assumption) (by rfl) ?_
      refine X.gno (by rfl) (by rfl) (by first | rfl | assumption) (by rfl) ?_
      refine X.pickF (by rfl) (by first | rfl | assumption) (by rfl) (by rfl) ?_
      refine X.move (by rfl) (by rfl) ?_
      refine X.gno (by rfl) (by rfl) (by first | rfl | assumption) (by rfl) ?_
      refine X.gno (by rfl) (by rfl) (by first | rfl | assumption) (by rfl) ?_
      refine X.gno (by rfl) (by rfl) (by first | rfl | assumption) (by rfl) ?_
      refine X.gno (by rfl) (by rfl) (by first | rfl | assumption) (by rfl) ?_
      refine X.gno (by rfl) (by rfl) (by first | rfl | assumption) (by rfl) ?_
      refine X.pickF (by rfl) (by first | rfl | assumption) (by rfl) (by rfl) ?_
      refine X.move (by rfl) (by rfl) ?_
      refine X.gno (by rfl) (by rfl) (by first | rfl | assumption) (by rfl) ?_
      refine X.gno (by rfl) (by rfl) (by first | rfl | assumption) (by rfl) ?_
      refine X.gno (by rfl) (by rfl) (by first | rfl | assumption) (by rfl) ?_
      refine X.pickF (by rfl) (by first | rfl | assumption) (by rfl) (by rfl) ?_
      refine X.assign (by rfl) (by rfl) ?_
      cases h
      exact X.endG (by trivial) (by trivial) (by rfl) (by rfl)
  replace h := h2; clear h2
  cases h
  refine R.fin1 Try.results153 (by rfl) (by rfl) ?_
  rfl
theorem i_ProjectOk_c1_pc (b0 : TLink) (c1 : TProject) (r : Bool) (h : i_ProjectOk_c1 b0 c1 = some r) : PC Try.prog 152 [eTLink b0, .cptr (eTProject c1).cells 0] (bool r) := by
  unfold i_ProjectOk_c1 at h
  refine PC.start Try.func152 Try.ntmps152 rfl ok152 rfl ?_
  refine Run.seq ?_
  refine Run.reg ?_
  refine X.box (by rfl) (by rfl) (by repeat (first | trivial | refine ⟨by first | rfl | simp [setL], ?_⟩)) (by rfl) (by rfl) (by rfl) (by rfl) ?_
  refine X.assign (by rfl) (by rfl) ?_
  refine X.nil ?_
  refine Run.seq ?_
  refine Run.reg ?_
  refine X.load_c shp34 (by rfl) (by rfl) (by rfl) (by rfl) ?_
  refine X.load_l shp174 (by rfl) (by rfl) (by rfl) (by rfl) (by rfl) (by rfl) ?_
  obtain ⟨v1, hv1, h⟩ := bindE h
  refine X.callP (i_Project_linkOk_pc _ _ _ hv1) (by rfl) (by rfl) (by rfl) (by trivial) (by rfl) (by rfl) (by rfl) (by rfl) ?_
  refine X.un (by rfl) (by rfl) (by rfl) ?_
  refine X.assign (by rfl) (by rfl) ?_
  refine X.nil ?_
  cases h
  refine R.fin1 Try.results152 (by rfl) (by rfl) ?_
  rfl
theorem slices_IndexFunc_Link_pc (b0 : List TLink) (g1 : TLink → Option Bool) (g1id : Nat) (g1c : List PV) (hg1 : ∀ (x0 : TLink) v, g1 x0 = some v → PC Try.prog g1id ([eTLink x0] ++ g1c) (bool v)) (r : Int) (h : slices_IndexFunc_Link b0 g1 = some r) : PC Try.prog 207 [.slice (b0.map eTLink), .fn g1id g1c] (int r) := by
  unfold slices_IndexFunc_Link at h
  refine PC.start Try.func207 Try.ntmps207 rfl ok207 rfl ?_
  refine Run.seq ?_
  refine Run.reg ?_
  refine X.assign (by rfl) (by rfl) ?_
  refine X.nil ?_
  refine Run.seq ?_
  refine Run.seq ?_
  refine Run.reg ?_
  refine X.move (by rfl) (by rfl) ?_
  refine X.len_s elt31 (by rfl) (by exact List.length_map ..) (by rfl) ?_
  refine X.move (by rfl) (by rfl) ?_
  refine X.nil ?_
  obtain ⟨o1, ho1, h⟩ := bindE h
  refine R.join2 (β := Unit) [] [] (fun p14 S => S) (fun p14 M => M) (fun p14 => (Sum.inl p14) = o1) ?_ ?_
  · intro JJ4 hmeet3
    have hup2 := h; clear h; have h := ho1; clear ho1
    refine Run.block ?_
    refine R.bndS (t := 0) (by rfl) (fun hbd7 => ?_)
    replace hbd7 : b0.length ≤ 9223372036854775807 := by first | (rw [List.length_map] at hbd7; exact hbd7) | simp
    refine R.loop2 (β := Int) [(0, .slice (b0.map eTLink)), (1, .fn g1id g1c), (7, int (b0.length : Int))] [] (fun bb S => (8, int bb) :: S) (fun bb M => M) (fun n bb => 0 ≤ bb ∧ bb + n = (b0.length : Int) ∧ slices_IndexFunc_Link_L1 g1 (b0.drop bb.toNat) bb = some o1) b0.length (0 : Int) (by repeat (first | trivial | refine ⟨by first | rfl | simp [setL], ?_⟩)) (by repeat (first | trivial | refine ⟨by first | rfl | simp [setL], ?_⟩)) (by rfl) (by rfl) ⟨Int.le_refl _, by simp, h⟩ ?_
    clear h
    rintro JJ7 n7 z8 hag7 ⟨hza7, hzb7, h⟩
    refine Run.seq ?_
    refine Run.reg ?_
    refine X.bin (by rfl) (by rfl) (by rfl) (by rfl) (by intro h; cases h) (by rfl) ?_
    refine X.nil ?_
    refine Run.seq ?_
    refine R.cond (by rfl) (fun hc11 => ?_) (fun hc11 => ?_)
    · obtain ⟨x9, xs10, hd7, hx7, hds7, hlt7⟩ := drop_atI hza7 hc11
      rw [hd7] at h
      rw [slices_IndexFunc_Link_L1] at h
      refine Run.skip ?_
      refine Run.seq ?_
      refine Run.block ?_
      refine Run.seq ?_
      refine Run.reg ?_
      refine X.move (by rfl) (by rfl) ?_
      refine X.assign (by rfl) (by rfl) ?_
      refine X.nil ?_
      refine Run.seq ?_
      refine Run.reg ?_
      refine X.move (by rfl) (by rfl) ?_
      refine X.move (by rfl) (by rfl) ?_
      refine X.move (by rfl) (by rfl) ?_
      refine X.index_s elt31 (by rfl) (by rfl) (idxL_spec hx7).1 (idxL_map eTLink hx7) (by rfl) (by rfl) (by rfl) ?_
      refine X.load_c shp174 (by rfl) (by rfl) (by rfl) (by rfl) ?_
      obtain ⟨v12, hv12, h⟩ := bindE h
      refine X.callP (hg1 _ _ hv12) (by rfl) (by rfl) (by rfl) (by trivial) (by rfl) (by rfl) (by rfl) (by rfl) ?_
      refine X.nil ?_
      refine R.cond (by rfl) (fun hc13 => ?_) (fun hc13 => ?_)
      · replace h := condT hc13 h
        refine Run.seq ?_
        refine Run.reg ?_
        refine X.move (by rfl) (by rfl) ?_
        refine X.assign (by rfl) (by rfl) ?_
        refine X.nil ?_
        cases h
        have h := hup2
        replace h := elimR h
        cases h
        refine R.fin1 Try.results207 (by rfl) (by rfl) ?_
        rfl
      · replace h := condF hc13 h
        refine Run.skip ?_
        refine Run.blk ?_
        refine Run.reg ?_
        refine X.add (by rfl) (by rfl) (by omega) (by rfl) ?_
        refine X.move (by rfl) (by rfl) ?_
        refine X.nil ?_
        exact hag7 (n7 - 1) (z8 + 1) _ _ (by omega) ⟨by first | omega | (dsimp only; omega), by first | omega | (dsimp only; omega), by first | (rw [hds7]; exact h) | (dsimp only; rw [hds7]; exact h)⟩ (by trivial) (by trivial) (by rfl) (by rfl)
    · rw [drop_endI hza7 hc11] at h
      rw [slices_IndexFunc_Link_L1] at h
      refine Run.exit (by rfl) ?_
      exact hmeet3 () _ _ (Option.some.inj h) (by trivial) (by trivial) (by rfl) (by rfl)
  rintro p14 rfl
  replace h := elimL h
  refine Run.seq ?_
  refine Run.reg ?_
  refine X.assign (by rfl) (by rfl) ?_
  refine X.nil ?_
  cases h
  refine R.fin1 Try.results207 (by rfl) (by rfl) ?_
  rfl
theorem slices_ContainsFunc_Link_pc (b0 : List TLink) (g1 : TLink → Option Bool) (g1id : Nat) (g1c : List PV) (hg1 : ∀ (x0 : TLink) v, g1 x0 = some v → PC Try.prog g1id ([eTLink x0] ++ g1c) (bool v)) (r : Bool) (h : slices_ContainsFunc_Link b0 g1 = some r) : PC Try.prog 151 [.slice (b0.map eTLink), .fn g1id g1c] (bool r) := by
  unfold slices_ContainsFunc_Link at h
  refine PC.start Try.func151 Try.ntmps151 rfl ok151 rfl ?_
  refine Run.seq ?_
  refine Run.reg ?_
  refine X.assign (by rfl) (by rfl) ?_
  refine X.nil ?_
  refine Run.seq ?_
  refine Run.reg ?_
  refine X.move (by rfl) (by rfl) ?_
  refine X.move (by rfl) (by rfl) ?_
  obtain ⟨v1, hv1, h⟩ := bindE h
  refine X.callP (slices_IndexFunc_Link_pc _ g1 _ _ hg1 _ hv1) (by rfl) (by rfl) (by rfl) (by trivial) (by rfl) (by rfl) (by rfl) (by rfl) ?_
  refine X.bin (by rfl) (by rfl) (by rfl) (by rfl) (by intro h; cases h) (by rfl) ?_
  refine X.assign (by rfl) (by rfl) ?_
  refine X.nil ?_
  cases h
  refine R.fin1 Try.results151 (by rfl) (by rfl) ?_
  rfl
theorem i_ProjectOk_pc (b0 : TProject) (r : Bool) (h : i_ProjectOk b0 = some r) : PC Try.prog 75 [eTProject b0] (bool r) := by
  unfold i_ProjectOk at h
  refine PC.start Try.func75 Try.ntmps75 rfl ok75 rfl ?_
  refine Run.seq ?_
  refine Run.reg ?_
  refine X.box (by rfl) (by rfl) (by repeat (first | trivial | refine ⟨by first | rfl | simp [setL], ?_⟩)) (by rfl) (by rfl) (by rfl) (by rfl) ?_
  refine X.assign (by rfl) (by rfl) ?_
  refine X.nil ?_
  refine Run.seq ?_
  refine Run.seq ?_
  obtain ⟨v1, hv1, h⟩ := bindE h
  obtain ⟨e2, he2, h2⟩ := bindE h
  refine R.regG [(1, .lptr 64 0), (37, bool e2)] [(64, .blk true [int b0.Deadline, .slice (b0.Activities.map eTActivity), .slice (b0.Links.map eTLink), .slice (b0.Resources.map eTResource), .slice (b0.Stocks.map int)])] ?_ ?_
  · clear h; have h := he2; clear he2 h2
    refine X.fieldAddr_l fld34_0 (by rfl) (by rfl) ?_
    refine X.load_l shp3 (by rfl) (by rfl) (by rfl) (by rfl) (by rfl) (by rfl) ?_
    refine X.callP (i_within_pc _ _ _ _ hv1) (by rfl) (by rfl) (by rfl) (by trivial) (by rfl) (by rfl) (by rfl) (by rfl) ?_
    refine X.un (by rfl) (by rfl) (by rfl) ?_
    refine X.move (by rfl) (by rfl) ?_
    refine X.ifG (by rfl) (by rfl) (by rfl) (fun hb3 => ?_) (fun hb3 => ?_)
    · replace h := condF hb3 h
      refine X.fieldAddr_l fld34_1 (by rfl) (by rfl) ?_
      refine X.gyes (by rfl) (by rfl) (by first | rfl | assumption) ?_
      refine X.load_l shp30 (by rfl) (by rfl) (by rfl) (by rfl) (by rfl) (by rfl) ?_
      refine X.gyes (by rfl) (by rfl) (by first | rfl | assumption) ?_
      refine X.len_s elt30 (by rfl) (by exact List.length_map ..) (by rfl) ?_
      refine X.gyes (by rfl) (by rfl) (by first | rfl | assumption) ?_
      obtain ⟨v4, hv4, h⟩ := bindE h
      refine X.callP (i_within_pc _ _ _ _ hv4) (by rfl) (by rfl) (by rfl) (by trivial) (by rfl) (by rfl) (by rfl) (by rfl) ?_
      refine X.gyes (by rfl) (by rfl) (by first | rfl | assumption) ?_
      refine X.un (by rfl) (by rfl) (by rfl) ?_
      refine X.pickF (by rfl) (by first | rfl | assumption) (by rfl) (by rfl) ?_
      refine X.move (by rfl) (by rfl) ?_
      refine X.ifG (by rfl) (by rfl) (by rfl) (fun hb5 => ?_) (fun hb5 => ?_)
      · replace h := condF hb5 h
        refine X.fieldAddr_l fld34_3 (by rfl) (by rfl) ?_
        refine X.gyes (by rfl) (by rfl) (by first | rfl | assumption) ?_
        refine X.load_l shp32 (by rfl) (by rfl) (by rfl) (by rfl) (by rfl) (by rfl) ?_
        refine X.gyes (by rfl) (by rfl) (by first | rfl | assumption) ?_
        refine X.len_s elt32 (by rfl) (by exact List.length_map ..) (by rfl) ?_
        refine X.gyes (by rfl) (by rfl) (by first | rfl | assumption) ?_
        refine X.bin (by rfl) (by rfl) (by rfl) (by rfl) (by intro h; cases h) (by rfl) ?_
        refine X.pickF (by rfl) (by first | rfl | assumption) (by rfl) (by rfl) ?_
        refine X.move (by rfl) (by rfl) ?_
        refine X.ifG (by rfl) (by rfl) (by rfl) (fun hb6 => ?_) (fun hb6 => ?_)
        · replace h := condF hb6 h
          refine X.fieldAddr_l fld34_4 (by rfl) (by rfl) ?_
          refine X.gyes (by rfl) (by rfl) (by first | rfl | assumption) ?_
          refine X.load_l shp25 (by rfl) (by rfl) (by rfl) (by rfl) (by rfl) (by rfl) ?_
          refine X.gyes (by rfl) (by rfl) (by first | rfl | assumption) ?_
          refine X.len_s elt25 (by rfl) (by exact List.length_map ..) (by rfl) ?_
          refine X.gyes (by rfl) (by rfl) (by first | rfl | assumption) ?_
          refine X.bin (by rfl) (by rfl) (by rfl) (by rfl) (by intro h; cases h) (by rfl) ?_
          refine X.pickF (by rfl) (by first | rfl | assumption) (by rfl) (by rfl) ?_
          refine X.move (by rfl) (by rfl) ?_
          refine X.ifG (by rfl) (by rfl) (by rfl) (fun hb7 => ?_) (fun hb7 => ?_)
          · replace h := condF hb7 h
            refine X.fieldAddr_l fld34_2 (by rfl) (by rfl) ?_
            refine X.gyes (by rfl) (by rfl) (by first | rfl | assumption) ?_
            refine X.load_l shp31 (by rfl) (by rfl) (by rfl) (by rfl) (by rfl) (by rfl) ?_
            refine X.gyes (by rfl) (by rfl) (by first | rfl | assumption) ?_
            refine X.len_s elt31 (by rfl) (by exact List.length_map ..) (by rfl) ?_
            refine X.gyes (by rfl) (by rfl) (by first | rfl | assumption) ?_
            refine X.bin (by rfl) (by rfl) (by rfl) (by rfl) (by intro h; cases h) (by rfl) ?_
            refine X.pickF (by rfl) (by first | rfl | assumption) (by rfl) (by rfl) ?_
            cases h
            exact X.endG (by trivial) (by trivial) (by rfl) (by rfl)
          · replace h := condT hb7 h
            refine X.gno (by rfl) (by rfl) (by first | rfl | assumption) (by rfl) ?_
            refine X.gno (by rfl) (by rfl) (by first | rfl | assumption) (by rfl) ?_
            refine X.gno (by rfl) (by rfl) (by first | rfl | assumption) (by rfl) ?_
            refine X.pickT (by rfl) (by first | rfl | assumption) (by rfl) (by rfl) ?_
            cases h
            exact X.endG (by trivial) (by trivial) (by rfl) (by rfl)
        · replace h := condT hb6 h
          refine X.gno (by rfl) (by rfl) (by first | rfl | assumption) (by rfl) ?_
          refine X.gno (by rfl) (by rfl) (by first | rfl | assumption) (by rfl) ?_
          refine X.gno (by rfl) (by rfl) (by first | rfl | assumption) (by rfl) ?_
          refine X.pickT (by rfl) (by first | rfl | assumption) (by rfl) (by rfl) ?_
          refine X.move (by rfl) (by rfl) ?_
          refine X.gno (by rfl) (by rfl) (by first | rfl | assumption) (by rfl) ?_
          refine X.gno (by rfl) (by rfl) (by first | rfl | assumption) (by rfl) ?_
          refine X.gno (by rfl) (by rfl) (by first | rfl | assumption) (by rfl) ?_
          refine X.gno (by rfl) (by rfl) (by first | rfl | assumption) (by rfl) ?_
          refine X.pickT (by rfl) (by first | rfl | assumption) (by rfl) (by rfl) ?_
          cases h
          exact X.endG (by trivial) (by trivial) (by rfl) (by rfl)
      · replace h := condT hb5 h
        refine X.gno (by rfl) (by rfl) (by first | rfl | assumption) (by rfl) ?_
        refine X.gno (by rfl) (by rfl) (by first | rfl | assumption) (by rfl) ?_
        refine X.gno (by rfl) (by rfl) (by first | rfl | assumption) (by rfl) ?_
        refine X.pickT (by rfl) (by first | rfl | assumption) (by rfl) (by rfl) ?_
        refine X.move (by rfl) (by rfl) ?_
        refine X.gno (by rfl) (by rfl) (by first | rfl | assumption) (by rfl) ?_
        refine X.gno (by rfl) (by rfl) (by first | rfl | assumption) (by rfl) ?_
        refine X.gno (by rfl) (by rfl) (by first | rfl | assumption) (by rfl) ?_
        refine X.gno (by rfl) (by rfl) (by first | rfl | assumption) (by rfl) ?_
        refine X.pickT (by rfl) (by first | rfl | assumption) (by rfl) (by rfl) ?_
        refine X.move (by rfl) (by rfl) ?_
        refine X.gno (by rfl) (by rfl) (by first | rfl | assumption) (by rfl) ?_
        refine X.gno (by rfl) (by rfl) (by first | rfl | assumption) (by rfl) ?_
        refine X.gno (by rfl) (by rfl) (by first | rfl | assumption) (by rfl) ?_
        refine X.gno (by rfl) (by rfl) (by first | rfl | assumption) (by rfl) ?_
        refine X.pickT (by rfl) (by first | rfl | assumption) (by rfl) (by rfl) ?_
        cases h
        exact X.endG (by trivial) (by trivial) (by rfl) (by rfl)
    · replace h := condT hb3 h
      refine X.gno (by rfl) (by rfl) (by first | rfl | assumption) (by rfl) ?_
      refine X.gno (by rfl) (by rfl) (by first | rfl | assumption) (by rfl) ?_
      refine X.gno (by rfl) (by rfl) (by first | rfl | assumption) (by rfl) ?_
      refine X.gno (by rfl) (by rfl) (by first | rfl | assumption) (by rfl) ?_
      refine X.pickT (by rfl) (by first | rfl | assumption) (by rfl) (by rfl) ?_
      refine X.move (by rfl) (by rfl) ?_
      refine X.gno (by rfl) (by rfl) (by first | rfl | assumption) (by rfl) ?_
      refine X.gno (by rfl) (by rfl) (by first | rfl | assumption) (by rfl) ?_
      refine X.gno (by rfl) (by rfl) (by first | rfl | assumption) (by rfl) ?_
      refine X.gno (by rfl) (by rfl) (by first | rfl | assumption) (by rfl) ?_
      refine X.pickT (by rfl) (by first | rfl | assumption) (by rfl) (by rfl) ?_
      refine X.move (by rfl) (by rfl) ?_
      refine X.gno (by rfl) (by rfl) (by first | rfl | assumption) (by rfl) ?_
      refine X.gno (by rfl) (by rfl) (by first | rfl | assumption) (by rfl) ?_
      refine X.gno (by rfl) (by rfl) (by first | rfl | assumption) (by rfl) ?_
      refine X.gno (by rfl) (by rfl) (by first | rfl | assumption) (by rfl) ?_
      refine X.pickT (by rfl) (by first | rfl | assumption) (by rfl) (by rfl) ?_
      refine X.move (by rfl) (by rfl) ?_
      refine X.gno (by rfl) (by rfl) (by first | rfl | assumption) (by rfl) ?_
      refine X.gno (by rfl) (by rfl) (by first | rfl | assumption) (by rfl) ?_
      refine X.gno (by rfl) (by rfl) (by first | rfl | assumption) (by rfl) ?_
      refine X.gno (by rfl) (by rfl) (by first | rfl | assumption) (by rfl) ?_
      refine X.pickT (by rfl) (by first | rfl | assumption) (by rfl) (by rfl) ?_
      cases h
      exact X.endG (by trivial) (by trivial) (by rfl) (by rfl)
  replace h := h2; clear h2
  refine R.cond (by rfl) (fun hc8 => ?_) (fun hc8 => ?_)
  · replace h := condT hc8 h
    refine Run.seq ?_
    refine Run.reg ?_
    refine X.assign (by rfl) (by rfl) ?_
    refine X.nil ?_
    cases h
    refine R.fin1 Try.results75 (by rfl) (by rfl) ?_
    rfl
  · replace h := condF hc8 h
    refine Run.skip ?_
    refine Run.seq ?_
    refine Run.seq ?_
    refine Run.reg ?_
    refine X.fieldAddr_l fld34_1 (by rfl) (by rfl) ?_
    refine X.load_l shp30 (by rfl) (by rfl) (by rfl) (by rfl) (by rfl) (by rfl) ?_
    refine X.len_s elt30 (by rfl) (by exact List.length_map ..) (by rfl) ?_
    refine X.move (by rfl) (by rfl) ?_
    refine X.nil ?_
    obtain ⟨o9, ho9, h⟩ := bindE h
    refine R.join2 (β := Unit) [(1, .lptr 64 0)] [(64, .blk true [int b0.Deadline, .slice (b0.Activities.map eTActivity), .slice (b0.Links.map eTLink), .slice (b0.Resources.map eTResource), .slice (b0.Stocks.map int)])] (fun p25 S => S) (fun p25 M => M) (fun p25 => (Sum.inl p25) = o9) ?_ ?_
    · intro JJ12 hmeet11
      have hup10 := h; clear h; have h := ho9; clear ho9
      refine Run.block ?_
      refine R.bndS (t := 39) (by rfl) (fun hbd15 => ?_)
      replace hbd15 : b0.Activities.length ≤ 9223372036854775807 := by first | (rw [List.length_map] at hbd15; exact hbd15) | simp
      refine R.loop2 (β := Int) [(1, .lptr 64 0), (39, .slice (b0.Activities.map eTActivity)), (40, int (b0.Activities.length : Int))] [(64, .blk true [int b0.Deadline, .slice (b0.Activities.map eTActivity), .slice (b0.Links.map eTLink), .slice (b0.Resources.map eTResource), .slice (b0.Stocks.map int)])] (fun bb S => (41, int bb) :: S) (fun bb M => M) (fun n bb => 0 ≤ bb ∧ bb + n = (b0.Activities.length : Int) ∧ i_ProjectOk_L1 b0 (b0.Activities.drop bb.toNat) bb = some o9) b0.Activities.length (0 : Int) (by repeat (first | trivial | refine ⟨by first | rfl | simp [setL], ?_⟩)) (by repeat (first | trivial | refine ⟨by first | rfl | simp [setL], ?_⟩)) (by rfl) (by rfl) ⟨Int.le_refl _, by simp, h⟩ ?_
      clear h
      rintro JJ15 n15 z16 hag15 ⟨hza15, hzb15, h⟩
      refine Run.seq ?_
      refine Run.reg ?_
      refine X.bin (by rfl) (by rfl) (by rfl) (by rfl) (by intro h; cases h) (by rfl) ?_
      refine X.nil ?_
      refine Run.seq ?_
      refine R.cond (by rfl) (fun hc19 => ?_) (fun hc19 => ?_)
      · obtain ⟨x17, xs18, hd15, hx15, hds15, hlt15⟩ := drop_atI hza15 hc19
        rw [hd15] at h
        rw [i_ProjectOk_L1] at h
        refine Run.skip ?_
        refine Run.seq ?_
        refine Run.block ?_
        refine Run.seq ?_
        refine Run.reg ?_
        refine X.move (by rfl) (by rfl) ?_
        refine X.index_s elt30 (by rfl) (by rfl) (idxL_spec hx15).1 (idxL_map eTActivity hx15) (by rfl) (by rfl) (by rfl) ?_
        refine X.load_c shp127 (by rfl) (by rfl) (by rfl) (by rfl) ?_
        refine X.alloc zer127 (by rfl) (by rfl) (by rfl) ?_
        refine X.assign (by rfl) (by rfl) ?_
        refine X.store_l shp127 (by rfl) (by rfl) (by rfl) (by rfl) (by repeat (first | trivial | refine ⟨by first | rfl | simp [setL], ?_⟩)) (by rfl) (by rfl) (by rfl) ?_
        refine X.nil ?_
        refine Run.seq ?_
        obtain ⟨v20, hv20, h⟩ := bindE h
        obtain ⟨e21, he21, h2⟩ := bindE h
        refine R.regG [(1, .lptr 64 0), (39, .slice (b0.Activities.map eTActivity)), (40, int (b0.Activities.length : Int)), (41, int z16), (62, bool e21)] [(64, .blk true [int b0.Deadline, .slice (b0.Activities.map eTActivity), .slice (b0.Links.map eTLink), .slice (b0.Resources.map eTResource), .slice (b0.Stocks.map int)])] ?_ ?_
        · clear h; have h := he21; clear he21 h2
          refine X.load_l shp127 (by rfl) (by rfl) (by rfl) (by rfl) (by rfl) (by rfl) ?_
          refine X.fieldAddr_l fld34_3 (by rfl) (by rfl) ?_
          refine X.load_l shp32 (by rfl) (by rfl) (by rfl) (by rfl) (by rfl) (by rfl) ?_
          refine X.len_s elt32 (by rfl) (by exact List.length_map ..) (by rfl) ?_
          refine X.fieldAddr_l fld34_4 (by rfl) (by rfl) ?_
          refine X.load_l shp25 (by rfl) (by rfl) (by rfl) (by rfl) (by rfl) (by rfl) ?_
          refine X.len_s elt25 (by rfl) (by exact List.length_map ..) (by rfl) ?_
          refine X.callP (i_ActivityOk_pc _ _ _ _ hv20) (by rfl) (by rfl) (by rfl) (by trivial) (by rfl) (by rfl) (by rfl) (by rfl) ?_
          refine X.un (by rfl) (by rfl) (by rfl) ?_
          refine X.move (by rfl) (by rfl) ?_
          refine X.ifG (by rfl) (by rfl) (by rfl) (fun hb22 => ?_) (fun hb22 => ?_)
          · replace h := condF hb22 h
            refine X.load_l shp34 (by rfl) (by rfl) (by rfl) (by rfl) (by rfl) (by rfl) ?_
            refine X.gyes (by rfl) (by rfl) (by first | rfl | assumption) ?_
            refine X.fieldAddr_l fld127_0 (by rfl) (by rfl) ?_
            refine X.gyes (by rfl) (by rfl) (by first | rfl | assumption) ?_
            refine X.load_l shp9 (by rfl) (by rfl) (by rfl) (by rfl) (by rfl) (by rfl) ?_
            refine X.gyes (by rfl) (by rfl) (by first | rfl | assumption) ?_
            obtain ⟨v23, hv23, h⟩ := bindE h
            refine X.callP (i_ActivityIndex_pc _ _ _ hv23) (by rfl) (by rfl) (by rfl) (by trivial) (by rfl) (by rfl) (by rfl) (by rfl) ?_
            refine X.gyes (by rfl) (by rfl) (by first | rfl | assumption) ?_
            refine X.move (by rfl) (by rfl) ?_
            refine X.gyes (by rfl) (by rfl) (by first | rfl | assumption) ?_
            refine X.bin (by rfl) (by rfl) (by rfl) (by rfl) (by intro h; cases h) (by rfl) ?_
            refine X.pickF (by rfl) (by first | rfl | assumption) (by rfl) (by rfl) ?_
            cases h
            exact X.endG (by trivial) (by trivial) (by rfl) (by rfl)
          · replace h := condT hb22 h
            refine X.gno (by rfl) (by rfl) (by first | rfl | assumption) (by rfl) ?_
            refine X.gno (by rfl) (by rfl) (by first | rfl | assumption) (by rfl) ?_
            refine X.gno (by rfl) (by rfl) (by first | rfl | assumption) (by rfl) ?_
            refine X.gno (by rfl) (by rfl) (by first | rfl | assumption) (by rfl) ?_
            refine X.gno (by rfl) (by rfl) (by first | rfl | assumption) (by rfl) ?_
            refine X.pickT (by rfl) (by first | rfl | assumption) (by rfl) (by rfl) ?_
            cases h
            exact X.endG (by trivial) (by trivial) (by rfl) (by rfl)
        replace h := h2; clear h2
        refine R.cond (by rfl) (fun hc24 => ?_) (fun hc24 => ?_)
        · replace h := condT hc24 h
          refine Run.seq ?_
          refine Run.reg ?_
          refine X.assign (by rfl) (by rfl) ?_
          refine X.nil ?_
          cases h
          have h := hup10
          replace h := elimR h
          cases h
          refine R.fin1 Try.results75 (by rfl) (by rfl) ?_
          rfl
        · replace h := condF hc24 h
          refine Run.skip ?_
          refine Run.blk ?_
          refine Run.reg ?_
          refine X.add (by rfl) (by rfl) (by omega) (by rfl) ?_
          refine X.move (by rfl) (by rfl) ?_
          refine X.nil ?_
          exact hag15 (n15 - 1) (z16 + 1) _ _ (by omega) ⟨by first | omega | (dsimp only; omega), by first | omega | (dsimp only; omega), by first | (rw [hds15]; exact h) | (dsimp only; rw [hds15]; exact h)⟩ (by trivial) (by trivial) (by rfl) (by rfl)
      · rw [drop_endI hza15 hc19] at h
        rw [i_ProjectOk_L1] at h
        refine Run.exit (by rfl) ?_
        exact hmeet11 () _ _ (Option.some.inj h) (by trivial) (by trivial) (by rfl) (by rfl)
    rintro p25 rfl
    replace h := elimL h
    refine Run.seq ?_
    refine Run.seq ?_
    refine Run.reg ?_
    refine X.fieldAddr_l fld34_3 (by rfl) (by rfl) ?_
    refine X.load_l shp32 (by rfl) (by rfl) (by rfl) (by rfl) (by rfl) (by rfl) ?_
    refine X.len_s elt32 (by rfl) (by exact List.length_map ..) (by rfl) ?_
    refine X.move (by rfl) (by rfl) ?_
    refine X.nil ?_
    obtain ⟨o27, ho27, h⟩ := bindE h
    refine R.join2 (β := Unit) [(1, .lptr 64 0)] [(64, .blk true [int b0.Deadline, .slice (b0.Activities.map eTActivity), .slice (b0.Links.map eTLink), .slice (b0.Resources.map eTResource), .slice (b0.Stocks.map int)])] (fun p40 S => S) (fun p40 M => M) (fun p40 => (Sum.inl p40) = o27) ?_ ?_
    · intro JJ30 hmeet29
      have hup28 := h; clear h; have h := ho27; clear ho27
      refine Run.block ?_
      refine R.bndS (t := 65) (by rfl) (fun hbd33 => ?_)
      replace hbd33 : b0.Resources.length ≤ 9223372036854775807 := by first | (rw [List.length_map] at hbd33; exact hbd33) | simp
      refine R.loop2 (β := Int) [(1, .lptr 64 0), (65, .slice (b0.Resources.map eTResource)), (66, int (b0.Resources.length : Int))] [(64, .blk true [int b0.Deadline, .slice (b0.Activities.map eTActivity), .slice (b0.Links.map eTLink), .slice (b0.Resources.map eTResource), .slice (b0.Stocks.map int)])] (fun bb S => (67, int bb) :: S) (fun bb M => M) (fun n bb => 0 ≤ bb ∧ bb + n = (b0.Resources.length : Int) ∧ i_ProjectOk_L2 (b0.Resources.drop bb.toNat) bb = some o27) b0.Resources.length (0 : Int) (by repeat (first | trivial | refine ⟨by first | rfl | simp [setL], ?_⟩)) (by repeat (first | trivial | refine ⟨by first | rfl | simp [setL], ?_⟩)) (by rfl) (by rfl) ⟨Int.le_refl _, by simp, h⟩ ?_
      clear h
      rintro JJ33 n33 z34 hag33 ⟨hza33, hzb33, h⟩
      refine Run.seq ?_
      refine Run.reg ?_
      refine X.bin (by rfl) (by rfl) (by rfl) (by rfl) (by intro h; cases h) (by rfl) ?_
      refine X.nil ?_
      refine Run.seq ?_
      refine R.cond (by rfl) (fun hc37 => ?_) (fun hc37 => ?_)
      · obtain ⟨x35, xs36, hd33, hx33, hds33, hlt33⟩ := drop_atI hza33 hc37
        rw [hd33] at h
        rw [i_ProjectOk_L2] at h
        refine Run.skip ?_
        refine Run.seq ?_
        refine Run.block ?_
        refine Run.seq ?_
        refine Run.reg ?_
        refine X.index_s elt32 (by rfl) (by rfl) (idxL_spec hx33).1 (idxL_map eTResource hx33) (by rfl) (by rfl) (by rfl) ?_
        refine X.load_c shp115 (by rfl) (by rfl) (by rfl) (by rfl) ?_
        refine X.alloc zer115 (by rfl) (by rfl) (by rfl) ?_
        refine X.store_l shp115 (by rfl) (by rfl) (by rfl) (by rfl) (by repeat (first | trivial | refine ⟨by first | rfl | simp [setL], ?_⟩)) (by rfl) (by rfl) (by rfl) ?_
        refine X.nil ?_
        refine Run.seq ?_
        refine Run.reg ?_
        refine X.load_l shp115 (by rfl) (by rfl) (by rfl) (by rfl) (by rfl) (by rfl) ?_
        obtain ⟨v38, hv38, h⟩ := bindE h
        refine X.callP (i_ResourceOk_pc _ _ hv38) (by rfl) (by rfl) (by rfl) (by trivial) (by rfl) (by rfl) (by rfl) (by rfl) ?_
        refine X.un (by rfl) (by rfl) (by rfl) ?_
        refine X.nil ?_
        refine R.cond (by rfl) (fun hc39 => ?_) (fun hc39 => ?_)
        · replace h := condT hc39 h
          refine Run.seq ?_
          refine Run.reg ?_
          refine X.assign (by rfl) (by rfl) ?_
          refine X.nil ?_
          cases h
          have h := hup28
          replace h := elimR h
          cases h
          refine R.fin1 Try.results75 (by rfl) (by rfl) ?_
          rfl
        · replace h := condF hc39 h
          refine Run.skip ?_
          refine Run.blk ?_
          refine Run.reg ?_
          refine X.add (by rfl) (by rfl) (by omega) (by rfl) ?_
          refine X.move (by rfl) (by rfl) ?_
          refine X.nil ?_
          exact hag33 (n33 - 1) (z34 + 1) _ _ (by omega) ⟨by first | omega | (dsimp only; omega), by first | omega | (dsimp only; omega), by first | (rw [hds33]; exact h) | (dsimp only; rw [hds33]; exact h)⟩ (by trivial) (by trivial) (by rfl) (by rfl)
      · rw [drop_endI hza33 hc37] at h
        rw [i_ProjectOk_L2] at h
        refine Run.exit (by rfl) ?_
        exact hmeet29 () _ _ (Option.some.inj h) (by trivial) (by trivial) (by rfl) (by rfl)
    rintro p40 rfl
    replace h := elimL h
    refine Run.seq ?_
    refine Run.seq ?_
    refine Run.reg ?_
    refine X.fieldAddr_l fld34_4 (by rfl) (by rfl) ?_
    refine X.load_l shp25 (by rfl) (by rfl) (by rfl) (by rfl) (by rfl) (by rfl) ?_
    refine X.len_s elt25 (by rfl) (by exact List.length_map ..) (by rfl) ?_
    refine X.move (by rfl) (by rfl) ?_
    refine X.nil ?_
    obtain ⟨o42, ho42, h⟩ := bindE h
    refine R.join2 (β := Unit) [(1, .lptr 64 0)] [(64, .blk true [int b0.Deadline, .slice (b0.Activities.map eTActivity), .slice (b0.Links.map eTLink), .slice (b0.Resources.map eTResource), .slice (b0.Stocks.map int)])] (fun p55 S => S) (fun p55 M => M) (fun p55 => (Sum.inl p55) = o42) ?_ ?_
    · intro JJ45 hmeet44
      have hup43 := h; clear h; have h := ho42; clear ho42
      refine Run.block ?_
      refine R.bndS (t := 76) (by rfl) (fun hbd48 => ?_)
      replace hbd48 : b0.Stocks.length ≤ 9223372036854775807 := by first | (rw [List.length_map] at hbd48; exact hbd48) | simp
      refine R.loop2 (β := Int) [(1, .lptr 64 0), (76, .slice (b0.Stocks.map int)), (77, int (b0.Stocks.length : Int))] [(64, .blk true [int b0.Deadline, .slice (b0.Activities.map eTActivity), .slice (b0.Links.map eTLink), .slice (b0.Resources.map eTResource), .slice (b0.Stocks.map int)])] (fun bb S => (78, int bb) :: S) (fun bb M => M) (fun n bb => 0 ≤ bb ∧ bb + n = (b0.Stocks.length : Int) ∧ i_ProjectOk_L3 (b0.Stocks.drop bb.toNat) bb = some o42) b0.Stocks.length (0 : Int) (by repeat (first | trivial | refine ⟨by first | rfl | simp [setL], ?_⟩)) (by repeat (first | trivial | refine ⟨by first | rfl | simp [setL], ?_⟩)) (by rfl) (by rfl) ⟨Int.le_refl _, by simp, h⟩ ?_
      clear h
      rintro JJ48 n48 z49 hag48 ⟨hza48, hzb48, h⟩
      refine Run.seq ?_
      refine Run.reg ?_
      refine X.bin (by rfl) (by rfl) (by rfl) (by rfl) (by intro h; cases h) (by rfl) ?_
      refine X.nil ?_
      refine Run.seq ?_
      refine R.cond (by rfl) (fun hc52 => ?_) (fun hc52 => ?_)
      · obtain ⟨x50, xs51, hd48, hx48, hds48, hlt48⟩ := drop_atI hza48 hc52
        rw [hd48] at h
        rw [i_ProjectOk_L3] at h
        refine Run.skip ?_
        refine Run.seq ?_
        refine Run.block ?_
        refine Run.seq ?_
        refine Run.reg ?_
        refine X.index_s elt25 (by rfl) (by rfl) (idxL_spec hx48).1 (idxL_map int hx48) (by rfl) (by rfl) (by rfl) ?_
        refine X.load_c shp3 (by rfl) (by rfl) (by rfl) (by rfl) ?_
        refine X.assign (by rfl) (by rfl) ?_
        refine X.nil ?_
        refine Run.seq ?_
        refine Run.reg ?_
        refine X.move (by rfl) (by rfl) ?_
        obtain ⟨v53, hv53, h⟩ := bindE h
        refine X.callP (i_within_pc _ _ _ _ hv53) (by rfl) (by rfl) (by rfl) (by trivial) (by rfl) (by rfl) (by rfl) (by rfl) ?_
        refine X.un (by rfl) (by rfl) (by rfl) ?_
        refine X.nil ?_
        refine R.cond (by rfl) (fun hc54 => ?_) (fun hc54 => ?_)
        · replace h := condT hc54 h
          refine Run.seq ?_
          refine Run.reg ?_
          refine X.assign (by rfl) (by rfl) ?_
          refine X.nil ?_
          cases h
          have h := hup43
          replace h := elimR h
          cases h
          refine R.fin1 Try.results75 (by rfl) (by rfl) ?_
          rfl
        · replace h := condF hc54 h
          refine Run.skip ?_
          refine Run.blk ?_
          refine Run.reg ?_
          refine X.add (by rfl) (by rfl) (by omega) (by rfl) ?_
          refine X.move (by rfl) (by rfl) ?_
          refine X.nil ?_
          exact hag48 (n48 - 1) (z49 + 1) _ _ (by omega) ⟨by first | omega | (dsimp only; omega), by first | omega | (dsimp only; omega), by first | (rw [hds48]; exact h) | (dsimp only; rw [hds48]; exact h)⟩ (by trivial) (by trivial) (by rfl) (by rfl)
      · rw [drop_endI hza48 hc52] at h
        rw [i_ProjectOk_L3] at h
        refine Run.exit (by rfl) ?_
        exact hmeet44 () _ _ (Option.some.inj h) (by trivial) (by trivial) (by rfl) (by rfl)
    rintro p55 rfl
    replace h := elimL h
    refine Run.seq ?_
    refine R.pubBlk (n := 64) (by rfl) (by rfl) (by repeat (first | trivial | refine ⟨by first | rfl | simp [setL], ?_⟩)) ?_
    refine Run.reg ?_
    refine X.fieldAddr_l fld34_2 (by rfl) (by rfl) ?_
    refine X.load_l shp31 (by rfl) (by rfl) (by rfl) (by rfl) (by rfl) (by rfl) ?_
    refine X.makeFunc (by rfl) (by rfl) (by repeat (first | trivial | refine ⟨by first | rfl | simp [setL], ?_⟩)) (by rfl) (by rfl) ?_
    obtain ⟨v57, hv57, h⟩ := bindE h
    refine X.callP (slices_ContainsFunc_Link_pc _ (fun x0 => i_ProjectOk_c1 x0 b0) _ _ (fun x0 v hv => i_ProjectOk_c1_pc _ _ _ hv) _ hv57) (by rfl) (by rfl) (by rfl) (by trivial) (by rfl) (by rfl) (by rfl) (by rfl) ?_
    refine X.un (by rfl) (by rfl) (by rfl) ?_
    refine X.assign (by rfl) (by rfl) ?_
    refine X.nil ?_
    cases h
    refine R.fin1 Try.results75 (by rfl) (by rfl) ?_
    rfl
theorem w_eqIntS_pc (b0 : List Int) (b1 : List Int) (r : Bool) (h : w_eqIntS b0 b1 = some r) : PC Try.prog 81 [.slice (b0.map int), .slice (b1.map int)] (bool r) := by
  unfold w_eqIntS at h
  refine PC.start Try.func81 Try.ntmps81 rfl ok81 rfl ?_
  refine Run.seq ?_
  refine Run.reg ?_
  refine X.assign (by rfl) (by rfl) ?_
  refine X.nil ?_
  refine Run.seq ?_
  refine Run.seq ?_
  refine Run.reg ?_
  refine X.move (by rfl) (by rfl) ?_
  refine X.len_s elt25 (by rfl) (by exact List.length_map ..) (by rfl) ?_
  refine X.move (by rfl) (by rfl) ?_
  refine X.len_s elt25 (by rfl) (by exact List.length_map ..) (by rfl) ?_
  refine X.bin (by rfl) (by rfl) (by rfl) (by rfl) (by intro h; cases h) (by rfl) ?_
  refine X.nil ?_
  refine R.cond (by rfl) (fun hc1 => ?_) (fun hc1 => ?_)
  · replace h := condT hc1 h
    refine Run.seq ?_
    refine Run.reg ?_
    refine X.assign (by rfl) (by rfl) ?_
    refine X.nil ?_
    cases h
    refine R.fin1 Try.results81 (by rfl) (by rfl) ?_
    rfl
  · replace h := condF hc1 h
    refine Run.skip ?_
    refine Run.seq ?_
    refine Run.seq ?_
    refine Run.reg ?_
    refine X.assign (by rfl) (by rfl) ?_
    refine X.nil ?_
    obtain ⟨o2, ho2, h⟩ := bindE h
    refine R.join2 (β := Unit) [] [] (fun p15 S => S) (fun p15 M => M) (fun p15 => (Sum.inl p15) = o2) ?_ ?_
    · intro JJ5 hmeet4
      have hup3 := h; clear h; have h := ho2; clear ho2
      refine Run.block ?_
      refine R.bndS (t := 0) (by rfl) (fun hbd8 => ?_)
      replace hbd8 : b0.length ≤ 9223372036854775807 := by first | (rw [List.length_map] at hbd8; exact hbd8) | simp
      refine R.loop2 (β := Int) [(0, .slice (b0.map int)), (1, .slice (b1.map int))] [] (fun bb S => (5, int bb) :: S) (fun bb M => M) (fun n bb => 0 ≤ bb ∧ bb + n = (b0.length : Int) ∧ w_eqIntS_L1 b1 (b0.drop bb.toNat) bb = some o2) b0.length (0 : Int) (by repeat (first | trivial | refine ⟨by first | rfl | simp [setL], ?_⟩)) (by repeat (first | trivial | refine ⟨by first | rfl | simp [setL], ?_⟩)) (by rfl) (by rfl) ⟨Int.le_refl _, by simp, h⟩ ?_
      clear h
      rintro JJ8 n8 z9 hag8 ⟨hza8, hzb8, h⟩
      refine Run.seq ?_
      refine Run.seq ?_
      refine Run.reg ?_
      refine X.move (by rfl) (by rfl) ?_
      refine X.move (by rfl) (by rfl) ?_
      refine X.len_s elt25 (by rfl) (by exact List.length_map ..) (by rfl) ?_
      refine X.bin (by rfl) (by rfl) (by rfl) (by rfl) (by intro h; cases h) (by rfl) ?_
      refine X.nil ?_
      refine R.cond (by rfl) (fun hc12 => ?_) (fun hc12 => ?_)
      · obtain ⟨x10, xs11, hd8, hx8, hds8, hlt8⟩ := drop_atI hza8 hc12
        rw [hd8] at h
        rw [w_eqIntS_L1] at h
        refine Run.skip ?_
        refine Run.seq ?_
        refine Run.block ?_
        refine Run.seq ?_
        refine Run.draw (footOf []) mixed (by kernel_rfl) (by kernel_rfl) ?_
        refine X.move (by rfl) (by rfl) ?_
        refine X.move (by rfl) (by rfl) ?_
        refine X.index_s elt25 (by rfl) (by rfl) (idxL_spec hx8).1 (idxL_map int hx8) (by rfl) (by rfl) (by rfl) ?_
        refine X.load_c shp3 (by rfl) (by rfl) (by rfl) (by rfl) ?_
        refine X.move (by rfl) (by rfl) ?_
        refine X.move (by rfl) (by rfl) ?_
        obtain ⟨v13, hv13, h⟩ := bindE h
        refine X.index_s elt25 (by rfl) (by rfl) (idxL_spec hv13).1 (idxL_map int hv13) (by rfl) (by rfl) (by rfl) ?_
        refine X.load_c shp3 (by rfl) (by rfl) (by rfl) (by rfl) ?_
        refine X.bin (by rfl) (by rfl) (by rfl) (by rfl) (by intro h; cases h) (by rfl) ?_
        refine X.nil ?_
        refine R.cond (by rfl) (fun hc14 => ?_) (fun hc14 => ?_)
        · replace h := condT hc14 h
          refine Run.seq ?_
          refine Run.reg ?_
          refine X.assign (by rfl) (by rfl) ?_
          refine X.nil ?_
          cases h
          have h := hup3
          replace h := elimR h
          cases h
          refine R.fin1 Try.results81 (by rfl) (by rfl) ?_
          rfl
        · replace h := condF hc14 h
          refine Run.skip ?_
          refine Run.blk ?_
          refine Run.reg ?_
          refine X.move (by rfl) (by rfl) ?_
          refine X.add (by rfl) (by rfl) (by omega) (by rfl) ?_
          refine X.assign (by rfl) (by rfl) ?_
          refine X.nil ?_
          exact hag8 (n8 - 1) (z9 + 1) _ _ (by omega) ⟨by first | omega | (dsimp only; omega), by first | omega | (dsimp only; omega), by first | (rw [hds8]; exact h) | (dsimp only; rw [hds8]; exact h)⟩ (by trivial) (by trivial) (by rfl) (by rfl)
      · rw [drop_endI hza8 hc12] at h
        rw [w_eqIntS_L1] at h
        refine Run.exit (by rfl) ?_
        exact hmeet4 () _ _ (Option.some.inj h) (by trivial) (by trivial) (by rfl) (by rfl)
    rintro p15 rfl
    replace h := elimL h
    refine Run.seq ?_
    refine Run.reg ?_
    refine X.assign (by rfl) (by rfl) ?_
    refine X.nil ?_
    cases h
    refine R.fin1 Try.results81 (by rfl) (by rfl) ?_
    rfl
theorem w_eqMode_pc (b0 : TMode) (b1 : TMode) (r : Bool) (h : w_eqMode b0 b1 = some r) : PC Try.prog 232 [eTMode b0, eTMode b1] (bool r) := by
  unfold w_eqMode at h
  refine PC.start Try.func232 Try.ntmps232 rfl ok232 rfl ?_
  refine Run.seq ?_
  refine Run.reg ?_
  refine X.box (by rfl) (by rfl) (by repeat (first | trivial | refine ⟨by first | rfl | simp [setL], ?_⟩)) (by rfl) (by rfl) (by rfl) (by rfl) ?_
  refine X.box (by rfl) (by rfl) (by repeat (first | trivial | refine ⟨by first | rfl | simp [setL], ?_⟩)) (by rfl) (by rfl) (by rfl) (by rfl) ?_
  refine X.assign (by rfl) (by rfl) ?_
  refine X.nil ?_
  refine Run.seq ?_
  refine Run.seq ?_
  refine Run.reg ?_
  refine X.fieldAddr_l fld129_0 (by rfl) (by rfl) ?_
  refine X.load_l shp3 (by rfl) (by rfl) (by rfl) (by rfl) (by rfl) (by rfl) ?_
  refine X.fieldAddr_l fld129_0 (by rfl) (by rfl) ?_
  refine X.load_l shp3 (by rfl) (by rfl) (by rfl) (by rfl) (by rfl) (by rfl) ?_
  refine X.bin (by rfl) (by rfl) (by rfl) (by rfl) (by intro h; cases h) (by rfl) ?_
  refine X.nil ?_
  refine R.cond (by rfl) (fun hc1 => ?_) (fun hc1 => ?_)
  · replace h := condT hc1 h
    refine Run.seq ?_
    refine Run.reg ?_
    refine X.assign (by rfl) (by rfl) ?_
    refine X.nil ?_
    cases h
    refine R.fin1 Try.results232 (by rfl) (by rfl) ?_
    rfl
  · replace h := condF hc1 h
    refine Run.skip ?_
    refine Run.seq ?_
    refine Run.seq ?_
    refine Run.reg ?_
    refine X.fieldAddr_l fld129_1 (by rfl) (by rfl) ?_
    refine X.load_l shp25 (by rfl) (by rfl) (by rfl) (by rfl) (by rfl) (by rfl) ?_
    refine X.fieldAddr_l fld129_1 (by rfl) (by rfl) ?_
    refine X.load_l shp25 (by rfl) (by rfl) (by rfl) (by rfl) (by rfl) (by rfl) ?_
    obtain ⟨v2, hv2, h⟩ := bindE h
    refine X.callP (w_eqIntS_pc _ _ _ hv2) (by rfl) (by rfl) (by rfl) (by trivial) (by rfl) (by rfl) (by rfl) (by rfl) ?_
    refine X.un (by rfl) (by rfl) (by rfl) ?_
    refine X.nil ?_
    refine R.cond (by rfl) (fun hc3 => ?_) (fun hc3 => ?_)
    · replace h := condT hc3 h
      refine Run.seq ?_
      refine Run.reg ?_
      refine X.assign (by rfl) (by rfl) ?_
      refine X.nil ?_
      cases h
      refine R.fin1 Try.results232 (by rfl) (by rfl) ?_
      rfl
    · replace h := condF hc3 h
      refine Run.skip ?_
      refine Run.seq ?_
      refine Run.seq ?_
      refine Run.reg ?_
      refine X.fieldAddr_l fld129_2 (by rfl) (by rfl) ?_
      refine X.load_l shp25 (by rfl) (by rfl) (by rfl) (by rfl) (by rfl) (by rfl) ?_
      refine X.fieldAddr_l fld129_2 (by rfl) (by rfl) ?_
      refine X.load_l shp25 (by rfl) (by rfl) (by rfl) (by rfl) (by rfl) (by rfl) ?_
      obtain ⟨v4, hv4, h⟩ := bindE h
      refine X.callP (w_eqIntS_pc _ _ _ hv4) (by rfl) (by rfl) (by rfl) (by trivial) (by rfl) (by rfl) (by rfl) (by rfl) ?_
      refine X.un (by rfl) (by rfl) (by rfl) ?_
      refine X.nil ?_
      refine R.cond (by rfl) (fun hc5 => ?_) (fun hc5 => ?_)
      · replace h := condT hc5 h
        refine Run.seq ?_
        refine Run.reg ?_
        refine X.assign (by rfl) (by rfl) ?_
        refine X.nil ?_
        cases h
        refine R.fin1 Try.results232 (by rfl) (by rfl) ?_
        rfl
      · replace h := condF hc5 h
        refine Run.skip ?_
        refine Run.seq ?_
        refine Run.reg ?_
        refine X.assign (by rfl) (by rfl) ?_
        refine X.nil ?_
        cases h
        refine R.fin1 Try.results232 (by rfl) (by rfl) ?_
        rfl
theorem w_eqModeS_pc (b0 : List TMode) (b1 : List TMode) (r : Bool) (h : w_eqModeS b0 b1 = some r) : PC Try.prog 209 [.slice (b0.map eTMode), .slice (b1.map eTMode)] (bool r) := by
  unfold w_eqModeS at h
  refine PC.start Try.func209 Try.ntmps209 rfl ok209 rfl ?_
  refine Run.seq ?_
  refine Run.reg ?_
  refine X.assign (by rfl) (by rfl) ?_
  refine X.nil ?_
  refine Run.seq ?_
  refine Run.seq ?_
  refine Run.reg ?_
  refine X.move (by rfl) (by rfl) ?_
  refine X.len_s elt125 (by rfl) (by exact List.length_map ..) (by rfl) ?_
  refine X.move (by rfl) (by rfl) ?_
  refine X.len_s elt125 (by rfl) (by exact List.length_map ..) (by rfl) ?_
  refine X.bin (by rfl) (by rfl) (by rfl) (by rfl) (by intro h; cases h) (by rfl) ?_
  refine X.nil ?_
  refine R.cond (by rfl) (fun hc1 => ?_) (fun hc1 => ?_)
  · replace h := condT hc1 h
    refine Run.seq ?_
    refine Run.reg ?_
    refine X.assign (by rfl) (by rfl) ?_
    refine X.nil ?_
    cases h
    refine R.fin1 Try.results209 (by rfl) (by rfl) ?_
    rfl
  · replace h := condF hc1 h
    refine Run.skip ?_
    refine Run.seq ?_
    refine Run.seq ?_
    refine Run.reg ?_
    refine X.assign (by rfl) (by rfl) ?_
    refine X.nil ?_
    obtain ⟨o2, ho2, h⟩ := bindE h
    refine R.join2 (β := Unit) [] [] (fun p16 S => S) (fun p16 M => M) (fun p16 => (Sum.inl p16) = o2) ?_ ?_
    · intro JJ5 hmeet4
      have hup3 := h; clear h; have h := ho2; clear ho2
      refine Run.block ?_
      refine R.bndS (t := 0) (by rfl) (fun hbd8 => ?_)
      replace hbd8 : b0.length ≤ 9223372036854775807 := by first | (rw [List.length_map] at hbd8; exact hbd8) | simp
      refine R.loop2 (β := Int) [(0, .slice (b0.map eTMode)), (1, .slice (b1.map eTMode))] [] (fun bb S => (5, int bb) :: S) (fun bb M => M) (fun n bb => 0 ≤ bb ∧ bb + n = (b0.length : Int) ∧ w_eqModeS_L1 b1 (b0.drop bb.toNat) bb = some o2) b0.length (0 : Int) (by repeat (first | trivial | refine ⟨by first | rfl | simp [setL], ?_⟩)) (by repeat (first | trivial | refine ⟨by first | rfl | simp [setL], ?_⟩)) (by rfl) (by rfl) ⟨Int.le_refl _, by simp, h⟩ ?_
      clear h
      rintro JJ8 n8 z9 hag8 ⟨hza8, hzb8, h⟩
      refine Run.seq ?_
      refine Run.seq ?_
      refine Run.reg ?_
      refine X.move (by rfl) (by rfl) ?_
      refine X.move (by rfl) (by rfl) ?_
      refine X.len_s elt125 (by rfl) (by exact List.length_map ..) (by rfl) ?_
      refine X.bin (by rfl) (by rfl) (by rfl) (by rfl) (by intro h; cases h) (by rfl) ?_
      refine X.nil ?_
      refine R.cond (by rfl) (fun hc12 => ?_) (fun hc12 => ?_)
      · obtain ⟨x10, xs11, hd8, hx8, hds8, hlt8⟩ := drop_atI hza8 hc12
        rw [hd8] at h
        rw [w_eqModeS_L1] at h
        refine Run.skip ?_
        refine Run.seq ?_
        refine Run.block ?_
        refine Run.seq ?_
        refine Run.draw (footOf []) mixed (by kernel_rfl) (by kernel_rfl) ?_
        refine X.move (by rfl) (by rfl) ?_
        refine X.move (by rfl) (by rfl) ?_
        refine X.index_s elt125 (by rfl) (by rfl) (idxL_spec hx8).1 (idxL_map eTMode hx8) (by rfl) (by rfl) (by rfl) ?_
        refine X.load_c shp129 (by rfl) (by rfl) (by rfl) (by rfl) ?_
        refine X.move (by rfl) (by rfl) ?_
        refine X.move (by rfl) (by rfl) ?_
        obtain ⟨v13, hv13, h⟩ := bindE h
        refine X.index_s elt125 (by rfl) (by rfl) (idxL_spec hv13).1 (idxL_map eTMode hv13) (by rfl) (by rfl) (by rfl) ?_
        refine X.load_c shp129 (by rfl) (by rfl) (by rfl) (by rfl) ?_
        obtain ⟨v14, hv14, h⟩ := bindE h
        refine X.callP (w_eqMode_pc _ _ _ hv14) (by rfl) (by rfl) (by rfl) (by trivial) (by rfl) (by rfl) (by rfl) (by rfl) ?_
        refine X.un (by rfl) (by rfl) (by rfl) ?_
        refine X.nil ?_
        refine R.cond (by rfl) (fun hc15 => ?_) (fun hc15 => ?_)
        · replace h := condT hc15 h
          refine Run.seq ?_
          refine Run.reg ?_
          refine X.assign (by rfl) (by rfl) ?_
          refine X.nil ?_
          cases h
          have h := hup3
          replace h := elimR h
          cases h
          refine R.fin1 Try.results209 (by rfl) (by rfl) ?_
          rfl
        · replace h := condF hc15 h
          refine Run.skip ?_
          refine Run.blk ?_
          refine Run.reg ?_
          refine X.move (by rfl) (by rfl) ?_
          refine X.add (by rfl) (by rfl) (by omega) (by rfl) ?_
          refine X.assign (by rfl) (by rfl) ?_
          refine X.nil ?_
          exact hag8 (n8 - 1) (z9 + 1) _ _ (by omega) ⟨by first | omega | (dsimp only; omega), by first | omega | (dsimp only; omega), by first | (rw [hds8]; exact h) | (dsimp only; rw [hds8]; exact h)⟩ (by trivial) (by trivial) (by rfl) (by rfl)
      · rw [drop_endI hza8 hc12] at h
        rw [w_eqModeS_L1] at h
        refine Run.exit (by rfl) ?_
        exact hmeet4 () _ _ (Option.some.inj h) (by trivial) (by trivial) (by rfl) (by rfl)
    rintro p16 rfl
    replace h := elimL h
    refine Run.seq ?_
    refine Run.reg ?_
    refine X.assign (by rfl) (by rfl) ?_
    refine X.nil ?_
    cases h
    refine R.fin1 Try.results209 (by rfl) (by rfl) ?_
    rfl
theorem w_eqActivity_pc (b0 : TActivity) (b1 : TActivity) (r : Bool) (h : w_eqActivity b0 b1 = some r) : PC Try.prog 157 [eTActivity b0, eTActivity b1] (bool r) := by
  unfold w_eqActivity at h
  refine PC.start Try.func157 Try.ntmps157 rfl ok157 rfl ?_
  refine Run.seq ?_
  refine Run.reg ?_
  refine X.box (by rfl) (by rfl) (by repeat (first | trivial | refine ⟨by first | rfl | simp [setL], ?_⟩)) (by rfl) (by rfl) (by rfl) (by rfl) ?_
  refine X.box (by rfl) (by rfl) (by repeat (first | trivial | refine ⟨by first | rfl | simp [setL], ?_⟩)) (by rfl) (by rfl) (by rfl) (by rfl) ?_
  refine X.assign (by rfl) (by rfl) ?_
  refine X.nil ?_
  refine Run.seq ?_
  refine Run.seq ?_
  refine Run.reg ?_
  refine X.fieldAddr_l fld127_0 (by rfl) (by rfl) ?_
  refine X.load_l shp9 (by rfl) (by rfl) (by rfl) (by rfl) (by rfl) (by rfl) ?_
  refine X.fieldAddr_l fld127_0 (by rfl) (by rfl) ?_
  refine X.load_l shp9 (by rfl) (by rfl) (by rfl) (by rfl) (by rfl) (by rfl) ?_
  refine X.bin (by rfl) (by rfl) (by rfl) (by rfl) (by intro h; cases h) (by rfl) ?_
  refine X.nil ?_
  refine R.cond (by rfl) (fun hc1 => ?_) (fun hc1 => ?_)
  · replace h := condT hc1 h
    refine Run.seq ?_
    refine Run.reg ?_
    refine X.assign (by rfl) (by rfl) ?_
    refine X.nil ?_
    cases h
    refine R.fin1 Try.results157 (by rfl) (by rfl) ?_
    rfl
  · replace h := condF hc1 h
    refine Run.skip ?_
    refine Run.seq ?_
    refine Run.seq ?_
    refine Run.reg ?_
    refine X.fieldAddr_l fld127_1 (by rfl) (by rfl) ?_
    refine X.load_l shp3 (by rfl) (by rfl) (by rfl) (by rfl) (by rfl) (by rfl) ?_
    refine X.fieldAddr_l fld127_1 (by rfl) (by rfl) ?_
    refine X.load_l shp3 (by rfl) (by rfl) (by rfl) (by rfl) (by rfl) (by rfl) ?_
    refine X.bin (by rfl) (by rfl) (by rfl) (by rfl) (by intro h; cases h) (by rfl) ?_
    refine X.nil ?_
    refine R.cond (by rfl) (fun hc2 => ?_) (fun hc2 => ?_)
    · replace h := condT hc2 h
      refine Run.seq ?_
      refine Run.reg ?_
      refine X.assign (by rfl) (by rfl) ?_
      refine X.nil ?_
      cases h
      refine R.fin1 Try.results157 (by rfl) (by rfl) ?_
      rfl
    · replace h := condF hc2 h
      refine Run.skip ?_
      refine Run.seq ?_
      refine Run.seq ?_
      refine Run.reg ?_
      refine X.fieldAddr_l fld127_2 (by rfl) (by rfl) ?_
      refine X.load_l shp125 (by rfl) (by rfl) (by rfl) (by rfl) (by rfl) (by rfl) ?_
      refine X.fieldAddr_l fld127_2 (by rfl) (by rfl) ?_
      refine X.load_l shp125 (by rfl) (by rfl) (by rfl) (by rfl) (by rfl) (by rfl) ?_
      obtain ⟨v3, hv3, h⟩ := bindE h
      refine X.callP (w_eqModeS_pc _ _ _ hv3) (by rfl) (by rfl) (by rfl) (by trivial) (by rfl) (by rfl) (by rfl) (by rfl) ?_
      refine X.un (by rfl) (by rfl) (by rfl) ?_
      refine X.nil ?_
      refine R.cond (by rfl) (fun hc4 => ?_) (fun hc4 => ?_)
      · replace h := condT hc4 h
        refine Run.seq ?_
        refine Run.reg ?_
        refine X.assign (by rfl) (by rfl) ?_
        refine X.nil ?_
        cases h
        refine R.fin1 Try.results157 (by rfl) (by rfl) ?_
        rfl
      · replace h := condF hc4 h
        refine Run.skip ?_
        refine Run.seq ?_
        refine Run.reg ?_
        refine X.assign (by rfl) (by rfl) ?_
        refine X.nil ?_
        cases h
        refine R.fin1 Try.results157 (by rfl) (by rfl) ?_
        rfl
theorem w_eqActivityS_pc (b0 : List TActivity) (b1 : List TActivity) (r : Bool) (h : w_eqActivityS b0 b1 = some r) : PC Try.prog 78 [.slice (b0.map eTActivity), .slice (b1.map eTActivity)] (bool r) := by
  unfold w_eqActivityS at h
  refine PC.start Try.func78 Try.ntmps78 rfl ok78 rfl ?_
  refine Run.seq ?_
  refine Run.reg ?_
  refine X.assign (by rfl) (by rfl) ?_
  refine X.nil ?_
  refine Run.seq ?_
  refine Run.seq ?_
  refine Run.reg ?_
  refine X.move (by rfl) (by rfl) ?_
  refine X.len_s elt30 (by rfl) (by exact List.length_map ..) (by rfl) ?_
  refine X.move (by rfl) (by rfl) ?_
  refine X.len_s elt30 (by rfl) (by exact List.length_map ..) (by rfl) ?_
  refine X.bin (by rfl) (by rfl) (by rfl) (by rfl) (by intro h; cases h) (by rfl) ?_
  refine X.nil ?_
  refine R.cond (by rfl) (fun hc1 => ?_) (fun hc1 => ?_)
  · replace h := condT hc1 h
    refine Run.seq ?_
    refine Run.reg ?_
    refine X.assign (by rfl) (by rfl) ?_
    refine X.nil ?_
    cases h
    refine R.fin1 Try.results78 (by rfl) (by rfl) ?_
    rfl
  · replace h := condF hc1 h
    refine Run.skip ?_
    refine Run.seq ?_
    refine Run.seq ?_
    refine Run.reg ?_
    refine X.assign (by rfl) (by rfl) ?_
    refine X.nil ?_
    obtain ⟨o2, ho2, h⟩ := bindE h
    refine R.join2 (β := Unit) [] [] (fun p16 S => S) (fun p16 M => M) (fun p16 => (Sum.inl p16) = o2) ?_ ?_
    · intro JJ5 hmeet4
      have hup3 := h; clear h; have h := ho2; clear ho2
      refine Run.block ?_
      refine R.bndS (t := 0) (by rfl) (fun hbd8 => ?_)
      replace hbd8 : b0.length ≤ 9223372036854775807 := by first | (rw [List.length_map] at hbd8; exact hbd8) | simp
      refine R.loop2 (β := Int) [(0, .slice (b0.map eTActivity)), (1, .slice (b1.map eTActivity))] [] (fun bb S => (5, int bb) :: S) (fun bb M => M) (fun n bb => 0 ≤ bb ∧ bb + n = (b0.length : Int) ∧ w_eqActivityS_L1 b1 (b0.drop bb.toNat) bb = some o2) b0.length (0 : Int) (by repeat (first | trivial | refine ⟨by first | rfl | simp [setL], ?_⟩)) (by repeat (first | trivial | refine ⟨by first | rfl | simp [setL], ?_⟩)) (by rfl) (by rfl) ⟨Int.le_refl _, by simp, h⟩ ?_
      clear h
      rintro JJ8 n8 z9 hag8 ⟨hza8, hzb8, h⟩
      refine Run.seq ?_
      refine Run.seq ?_
      refine Run.reg ?_
      refine X.move (by rfl) (by rfl) ?_
      refine X.move (by rfl) (by rfl) ?_
      refine X.len_s elt30 (by rfl) (by exact List.length_map ..) (by rfl) ?_
      refine X.bin (by rfl) (by rfl) (by rfl) (by rfl) (by intro h; cases h) (by rfl) ?_
      refine X.nil ?_
      refine R.cond (by rfl) (fun hc12 => ?_) (fun hc12 => ?_)
      · obtain ⟨x10, xs11, hd8, hx8, hds8, hlt8⟩ := drop_atI hza8 hc12
        rw [hd8] at h
        rw [w_eqActivityS_L1] at h
        refine Run.skip ?_
        refine Run.seq ?_
        refine Run.block ?_
        refine Run.seq ?_
        refine Run.draw (footOf []) mixed (by kernel_rfl) (by kernel_rfl) ?_
        refine X.move (by rfl) (by rfl) ?_
        refine X.move (by rfl) (by rfl) ?_
        refine X.index_s elt30 (by rfl) (by rfl) (idxL_spec hx8).1 (idxL_map eTActivity hx8) (by rfl) (by rfl) (by rfl) ?_
        refine X.load_c shp127 (by rfl) (by rfl) (by rfl) (by rfl) ?_
        refine X.move (by rfl) (by rfl) ?_
        refine X.move (by rfl) (by rfl) ?_
        obtain ⟨v13, hv13, h⟩ := bindE h
        refine X.index_s elt30 (by rfl) (by rfl) (idxL_spec hv13).1 (idxL_map eTActivity hv13) (by rfl) (by rfl) (by rfl) ?_
        refine X.load_c shp127 (by rfl) (by rfl) (by rfl) (by rfl) ?_
        obtain ⟨v14, hv14, h⟩ := bindE h
        refine X.callP (w_eqActivity_pc _ _ _ hv14) (by rfl) (by rfl) (by rfl) (by trivial) (by rfl) (by rfl) (by rfl) (by rfl) ?_
        refine X.un (by rfl) (by rfl) (by rfl) ?_
        refine X.nil ?_
        refine R.cond (by rfl) (fun hc15 => ?_) (fun hc15 => ?_)
        · replace h := condT hc15 h
          refine Run.seq ?_
          refine Run.reg ?_
          refine X.assign (by rfl) (by rfl) ?_
          refine X.nil ?_
          cases h
          have h := hup3
          replace h := elimR h
          cases h
          refine R.fin1 Try.results78 (by rfl) (by rfl) ?_
          rfl
        · replace h := condF hc15 h
          refine Run.skip ?_
          refine Run.blk ?_
          refine Run.reg ?_
          refine X.move (by rfl) (by rfl) ?_
          refine X.add (by rfl) (by rfl) (by omega) (by rfl) ?_
          refine X.assign (by rfl) (by rfl) ?_
          refine X.nil ?_
          exact hag8 (n8 - 1) (z9 + 1) _ _ (by omega) ⟨by first | omega | (dsimp only; omega), by first | omega | (dsimp only; omega), by first | (rw [hds8]; exact h) | (dsimp only; rw [hds8]; exact h)⟩ (by trivial) (by trivial) (by rfl) (by rfl)
      · rw [drop_endI hza8 hc12] at h
        rw [w_eqActivityS_L1] at h
        refine Run.exit (by rfl) ?_
        exact hmeet4 () _ _ (Option.some.inj h) (by trivial) (by trivial) (by rfl) (by rfl)
    rintro p16 rfl
    replace h := elimL h
    refine Run.seq ?_
    refine Run.reg ?_
    refine X.assign (by rfl) (by rfl) ?_
    refine X.nil ?_
    cases h
    refine R.fin1 Try.results78 (by rfl) (by rfl) ?_
    rfl
theorem w_eqLink_pc (b0 : TLink) (b1 : TLink) (r : Bool) (h : w_eqLink b0 b1 = some r) : PC Try.prog 158 [eTLink b0, eTLink b1] (bool r) := by
  unfold w_eqLink at h
  refine PC.start Try.func158 Try.ntmps158 rfl ok158 rfl ?_
  refine Run.seq ?_
  refine Run.reg ?_
  refine X.box (by rfl) (by rfl) (by repeat (first | trivial | refine ⟨by first | rfl | simp [setL], ?_⟩)) (by rfl) (by rfl) (by rfl) (by rfl) ?_
  refine X.box (by rfl) (by rfl) (by repeat (first | trivial | refine ⟨by first | rfl | simp [setL], ?_⟩)) (by rfl) (by rfl) (by rfl) (by rfl) ?_
  refine X.assign (by rfl) (by rfl) ?_
  refine X.nil ?_
  refine Run.seq ?_
  refine Run.seq ?_
  refine Run.reg ?_
  refine X.fieldAddr_l fld174_0 (by rfl) (by rfl) ?_
  refine X.load_l shp3 (by rfl) (by rfl) (by rfl) (by rfl) (by rfl) (by rfl) ?_
  refine X.fieldAddr_l fld174_0 (by rfl) (by rfl) ?_
  refine X.load_l shp3 (by rfl) (by rfl) (by rfl) (by rfl) (by rfl) (by rfl) ?_
  refine X.bin (by rfl) (by rfl) (by rfl) (by rfl) (by intro h; cases h) (by rfl) ?_
  refine X.nil ?_
  refine R.cond (by rfl) (fun hc1 => ?_) (fun hc1 => ?_)
  · replace h := condT hc1 h
    refine Run.seq ?_
    refine Run.reg ?_
    refine X.assign (by rfl) (by rfl) ?_
    refine X.nil ?_
    cases h
    refine R.fin1 Try.results158 (by rfl) (by rfl) ?_
    rfl
  · replace h := condF hc1 h
    refine Run.skip ?_
    refine Run.seq ?_
    refine Run.seq ?_
    refine Run.reg ?_
    refine X.fieldAddr_l fld174_1 (by rfl) (by rfl) ?_
    refine X.load_l shp3 (by rfl) (by rfl) (by rfl) (by rfl) (by rfl) (by rfl) ?_
    refine X.fieldAddr_l fld174_1 (by rfl) (by rfl) ?_
    refine X.load_l shp3 (by rfl) (by rfl) (by rfl) (by rfl) (by rfl) (by rfl) ?_
    refine X.bin (by rfl) (by rfl) (by rfl) (by rfl) (by intro h; cases h) (by rfl) ?_
    refine X.nil ?_
    refine R.cond (by rfl) (fun hc2 => ?_) (fun hc2 => ?_)
    · replace h := condT hc2 h
      refine Run.seq ?_
      refine Run.reg ?_
      refine X.assign (by rfl) (by rfl) ?_
      refine X.nil ?_
      cases h
      refine R.fin1 Try.results158 (by rfl) (by rfl) ?_
      rfl
    · replace h := condF hc2 h
      refine Run.skip ?_
      refine Run.seq ?_
      refine Run.seq ?_
      refine Run.reg ?_
      refine X.fieldAddr_l fld174_2 (by rfl) (by rfl) ?_
      refine X.load_l shp4 (by rfl) (by rfl) (by rfl) (by rfl) (by rfl) (by rfl) ?_
      refine X.fieldAddr_l fld174_2 (by rfl) (by rfl) ?_
      refine X.load_l shp4 (by rfl) (by rfl) (by rfl) (by rfl) (by rfl) (by rfl) ?_
      refine X.neqBool Try.underlying4 (by rfl) (by rfl) (by rfl) ?_
      refine X.nil ?_
      refine R.cond (by rfl) (fun hc3 => ?_) (fun hc3 => ?_)
      · replace h := condT hc3 h
        refine Run.seq ?_
        refine Run.reg ?_
        refine X.assign (by rfl) (by rfl) ?_
        refine X.nil ?_
        cases h
        refine R.fin1 Try.results158 (by rfl) (by rfl) ?_
        rfl
      · replace h := condF hc3 h
        refine Run.skip ?_
        refine Run.seq ?_
        refine Run.seq ?_
        refine Run.reg ?_
        refine X.fieldAddr_l fld174_3 (by rfl) (by rfl) ?_
        refine X.load_l shp3 (by rfl) (by rfl) (by rfl) (by rfl) (by rfl) (by rfl) ?_
        refine X.fieldAddr_l fld174_3 (by rfl) (by rfl) ?_
        refine X.load_l shp3 (by rfl) (by rfl) (by rfl) (by rfl) (by rfl) (by rfl) ?_
        refine X.bin (by rfl) (by rfl) (by rfl) (by rfl) (by intro h; cases h) (by rfl) ?_
        refine X.nil ?_
        refine R.cond (by rfl) (fun hc4 => ?_) (fun hc4 => ?_)
        · replace h := condT hc4 h
          refine Run.seq ?_
          refine Run.reg ?_
          refine X.assign (by rfl) (by rfl) ?_
          refine X.nil ?_
          cases h
          refine R.fin1 Try.results158 (by rfl) (by rfl) ?_
          rfl
        · replace h := condF hc4 h
          refine Run.skip ?_
          refine Run.seq ?_
          refine Run.reg ?_
          refine X.assign (by rfl) (by rfl) ?_
          refine X.nil ?_
          cases h
          refine R.fin1 Try.results158 (by rfl) (by rfl) ?_
          rfl
theorem w_eqLinkS_pc (b0 : List TLink) (b1 : List TLink) (r : Bool) (h : w_eqLinkS b0 b1 = some r) : PC Try.prog 79 [.slice (b0.map eTLink), .slice (b1.map eTLink)] (bool r) := by
  unfold w_eqLinkS at h
  refine PC.start Try.func79 Try.ntmps79 rfl ok79 rfl ?_
  refine Run.seq ?_
  refine Run.reg ?_
  refine X.assign (by rfl) (by rfl) ?_
  refine X.nil ?_
  refine Run.seq ?_
  refine Run.seq ?_
  refine Run.reg ?_
  refine X.move (by rfl) (by rfl) ?_
  refine X.len_s elt31 (by rfl) (by exact List.length_map ..) (by rfl) ?_
  refine X.move (by rfl) (by rfl) ?_
  refine X.len_s elt31 (by rfl) (by exact List.length_map ..) (by rfl) ?_
  refine X.bin (by rfl) (by rfl) (by rfl) (by rfl) (by intro h; cases h) (by rfl) ?_
  refine X.nil ?_
  refine R.cond (by rfl) (fun hc1 => ?_) (fun hc1 => ?_)
  · replace h := condT hc1 h
    refine Run.seq ?_
    refine Run.reg ?_
    refine X.assign (by rfl) (by rfl) ?_
    refine X.nil ?_
    cases h
    refine R.fin1 Try.results79 (by rfl) (by rfl) ?_
    rfl
  · replace h := condF hc1 h
    refine Run.skip ?_
    refine Run.seq ?_
    refine Run.seq ?_
    refine Run.reg ?_
    refine X.assign (by rfl) (by rfl) ?_
    refine X.nil ?_
    obtain ⟨o2, ho2, h⟩ := bindE h
    refine R.join2 (β := Unit) [] [] (fun p16 S => S) (fun p16 M => M) (fun p16 => (Sum.inl p16) = o2) ?_ ?_
    · intro JJ5 hmeet4
      have hup3 := h; clear h; have h := ho2; clear ho2
      refine Run.block ?_
      refine R.bndS (t := 0) (by rfl) (fun hbd8 => ?_)
      replace hbd8 : b0.length ≤ 9223372036854775807 := by first | (rw [List.length_map] at hbd8; exact hbd8) | simp
      refine R.loop2 (β := Int) [(0, .slice (b0.map eTLink)), (1, .slice (b1.map eTLink))] [] (fun bb S => (5, int bb) :: S) (fun bb M => M) (fun n bb => 0 ≤ bb ∧ bb + n = (b0.length : Int) ∧ w_eqLinkS_L1 b1 (b0.drop bb.toNat) bb = some o2) b0.length (0 : Int) (by repeat (first | trivial | refine ⟨by first | rfl | simp [setL], ?_⟩)) (by repeat (first | trivial | refine ⟨by first | rfl | simp [setL], ?_⟩)) (by rfl) (by rfl) ⟨Int.le_refl _, by simp, h⟩ ?_
      clear h
      rintro JJ8 n8 z9 hag8 ⟨hza8, hzb8, h⟩
      refine Run.seq ?_
      refine Run.seq ?_
      refine Run.reg ?_
      refine X.move (by rfl) (by rfl) ?_
      refine X.move (by rfl) (by rfl) ?_
      refine X.len_s elt31 (by rfl) (by exact List.length_map ..) (by rfl) ?_
      refine X.bin (by rfl) (by rfl) (by rfl) (by rfl) (by intro h; cases h) (by rfl) ?_
      refine X.nil ?_
      refine R.cond (by rfl) (fun hc12 => ?_) (fun hc12 => ?_)
      · obtain ⟨x10, xs11, hd8, hx8, hds8, hlt8⟩ := drop_atI hza8 hc12
        rw [hd8] at h
        rw [w_eqLinkS_L1] at h
        refine Run.skip ?_
        refine Run.seq ?_
        refine Run.block ?_
        refine Run.seq ?_
        refine Run.draw (footOf []) mixed (by kernel_rfl) (by kernel_rfl) ?_
        refine X.move (by rfl) (by rfl) ?_
        refine X.move (by rfl) (by rfl) ?_
        refine X.index_s elt31 (by rfl) (by rfl) (idxL_spec hx8).1 (idxL_map eTLink hx8) (by rfl) (by rfl) (by rfl) ?_
        refine X.load_c shp174 (by rfl) (by rfl) (by rfl) (by rfl) ?_
        refine X.move (by rfl) (by rfl) ?_
        refine X.move (by rfl) (by rfl) ?_
        obtain ⟨v13, hv13, h⟩ := bindE h
        refine X.index_s elt31 (by rfl) (by rfl) (idxL_spec hv13).1 (idxL_map eTLink hv13) (by rfl) (by rfl) (by rfl) ?_
        refine X.load_c shp174 (by rfl) (by rfl) (by rfl) (by rfl) ?_
        obtain ⟨v14, hv14, h⟩ := bindE h
        refine X.callP (w_eqLink_pc _ _ _ hv14) (by rfl) (by rfl) (by rfl) (by trivial) (by rfl) (by rfl) (by rfl) (by rfl) ?_
        refine X.un (by rfl) (by rfl) (by rfl) ?_
        refine X.nil ?_
        refine R.cond (by rfl) (fun hc15 => ?_) (fun hc15 => ?_)
        · replace h := condT hc15 h
          refine Run.seq ?_
          refine Run.reg ?_
          refine X.assign (by rfl) (by rfl) ?_
          refine X.nil ?_
          cases h
          have h := hup3
          replace h := elimR h
          cases h
          refine R.fin1 Try.results79 (by rfl) (by rfl) ?_
          rfl
        · replace h := condF hc15 h
          refine Run.skip ?_
          refine Run.blk ?_
          refine Run.reg ?_
          refine X.move (by rfl) (by rfl) ?_
          refine X.add (by rfl) (by rfl) (by omega) (by rfl) ?_
          refine X.assign (by rfl) (by rfl) ?_
          refine X.nil ?_
          exact hag8 (n8 - 1) (z9 + 1) _ _ (by omega) ⟨by first | omega | (dsimp only; omega), by first | omega | (dsimp only; omega), by first | (rw [hds8]; exact h) | (dsimp only; rw [hds8]; exact h)⟩ (by trivial) (by trivial) (by rfl) (by rfl)
      · rw [drop_endI hza8 hc12] at h
        rw [w_eqLinkS_L1] at h
        refine Run.exit (by rfl) ?_
        exact hmeet4 () _ _ (Option.some.inj h) (by trivial) (by trivial) (by rfl) (by rfl)
    rintro p16 rfl
    replace h := elimL h
    refine Run.seq ?_
    refine Run.reg ?_
    refine X.assign (by rfl) (by rfl) ?_
    refine X.nil ?_
    cases h
    refine R.fin1 Try.results79 (by rfl) (by rfl) ?_
    rfl
theorem w_eqStep_pc (b0 : TStep) (b1 : TStep) (r : Bool) (h : w_eqStep b0 b1 = some r) : PC Try.prog 233 [eTStep b0, eTStep b1] (bool r) := by
  unfold w_eqStep at h
  refine PC.start Try.func233 Try.ntmps233 rfl ok233 rfl ?_
  refine Run.seq ?_
  refine Run.reg ?_
  refine X.box (by rfl) (by rfl) (by repeat (first | trivial | refine ⟨by first | rfl | simp [setL], ?_⟩)) (by rfl) (by rfl) (by rfl) (by rfl) ?_
  refine X.box (by rfl) (by rfl) (by repeat (first | trivial | refine ⟨by first | rfl | simp [setL], ?_⟩)) (by rfl) (by rfl) (by rfl) (by rfl) ?_
  refine X.assign (by rfl) (by rfl) ?_
  refine X.nil ?_
  refine Run.seq ?_
  refine Run.seq ?_
  refine Run.reg ?_
  refine X.fieldAddr_l fld208_0 (by rfl) (by rfl) ?_
  refine X.load_l shp3 (by rfl) (by rfl) (by rfl) (by rfl) (by rfl) (by rfl) ?_
  refine X.fieldAddr_l fld208_0 (by rfl) (by rfl) ?_
  refine X.load_l shp3 (by rfl) (by rfl) (by rfl) (by rfl) (by rfl) (by rfl) ?_
  refine X.bin (by rfl) (by rfl) (by rfl) (by rfl) (by intro h; cases h) (by rfl) ?_
  refine X.nil ?_
  refine R.cond (by rfl) (fun hc1 => ?_) (fun hc1 => ?_)
  · replace h := condT hc1 h
    refine Run.seq ?_
    refine Run.reg ?_
    refine X.assign (by rfl) (by rfl) ?_
    refine X.nil ?_
    cases h
    refine R.fin1 Try.results233 (by rfl) (by rfl) ?_
    rfl
  · replace h := condF hc1 h
    refine Run.skip ?_
    refine Run.seq ?_
    refine Run.seq ?_
    refine Run.reg ?_
    refine X.fieldAddr_l fld208_1 (by rfl) (by rfl) ?_
    refine X.load_l shp3 (by rfl) (by rfl) (by rfl) (by rfl) (by rfl) (by rfl) ?_
    refine X.fieldAddr_l fld208_1 (by rfl) (by rfl) ?_
    refine X.load_l shp3 (by rfl) (by rfl) (by rfl) (by rfl) (by rfl) (by rfl) ?_
    refine X.bin (by rfl) (by rfl) (by rfl) (by rfl) (by intro h; cases h) (by rfl) ?_
    refine X.nil ?_
    refine R.cond (by rfl) (fun hc2 => ?_) (fun hc2 => ?_)
    · replace h := condT hc2 h
      refine Run.seq ?_
      refine Run.reg ?_
      refine X.assign (by rfl) (by rfl) ?_
      refine X.nil ?_
      cases h
      refine R.fin1 Try.results233 (by rfl) (by rfl) ?_
      rfl
    · replace h := condF hc2 h
      refine Run.skip ?_
      refine Run.seq ?_
      refine Run.reg ?_
      refine X.assign (by rfl) (by rfl) ?_
      refine X.nil ?_
      cases h
      refine R.fin1 Try.results233 (by rfl) (by rfl) ?_
      rfl
theorem w_eqStepS_pc (b0 : List TStep) (b1 : List TStep) (r : Bool) (h : w_eqStepS b0 b1 = some r) : PC Try.prog 210 [.slice (b0.map eTStep), .slice (b1.map eTStep)] (bool r) := by
  unfold w_eqStepS at h
  refine PC.start Try.func210 Try.ntmps210 rfl ok210 rfl ?_
  refine Run.seq ?_
  refine Run.reg ?_
  refine X.assign (by rfl) (by rfl) ?_
  refine X.nil ?_
  refine Run.seq ?_
  refine Run.seq ?_
  refine Run.reg ?_
  refine X.move (by rfl) (by rfl) ?_
  refine X.len_s elt113 (by rfl) (by exact List.length_map ..) (by rfl) ?_
  refine X.move (by rfl) (by rfl) ?_
  refine X.len_s elt113 (by rfl) (by exact List.length_map ..) (by rfl) ?_
  refine X.bin (by rfl) (by rfl) (by rfl) (by rfl) (by intro h; cases h) (by rfl) ?_
  refine X.nil ?_
  refine R.cond (by rfl) (fun hc1 => ?_) (fun hc1 => ?_)
  · replace h := condT hc1 h
    refine Run.seq ?_
    refine Run.reg ?_
    refine X.assign (by rfl) (by rfl) ?_
    refine X.nil ?_
    cases h
    refine R.fin1 Try.results210 (by rfl) (by rfl) ?_
    rfl
  · replace h := condF hc1 h
    refine Run.skip ?_
    refine Run.seq ?_
    refine Run.seq ?_
    refine Run.reg ?_
    refine X.assign (by rfl) (by rfl) ?_
    refine X.nil ?_
    obtain ⟨o2, ho2, h⟩ := bindE h
    refine R.join2 (β := Unit) [] [] (fun p16 S => S) (fun p16 M => M) (fun p16 => (Sum.inl p16) = o2) ?_ ?_
    · intro JJ5 hmeet4
      have hup3 := h; clear h; have h := ho2; clear ho2
      refine Run.block ?_
      refine R.bndS (t := 0) (by rfl) (fun hbd8 => ?_)
      replace hbd8 : b0.length ≤ 9223372036854775807 := by first | (rw [List.length_map] at hbd8; exact hbd8) | simp
      refine R.loop2 (β := Int) [(0, .slice (b0.map eTStep)), (1, .slice (b1.map eTStep))] [] (fun bb S => (5, int bb) :: S) (fun bb M => M) (fun n bb => 0 ≤ bb ∧ bb + n = (b0.length : Int) ∧ w_eqStepS_L1 b1 (b0.drop bb.toNat) bb = some o2) b0.length (0 : Int) (by repeat (first | trivial | refine ⟨by first | rfl | simp [setL], ?_⟩)) (by repeat (first | trivial | refine ⟨by first | rfl | simp [setL], ?_⟩)) (by rfl) (by rfl) ⟨Int.le_refl _, by simp, h⟩ ?_
      clear h
      rintro JJ8 n8 z9 hag8 ⟨hza8, hzb8, h⟩
      refine Run.seq ?_
      refine Run.seq ?_
      refine Run.reg ?_
      refine X.move (by rfl) (by rfl) ?_
      refine X.move (by rfl) (by rfl) ?_
      refine X.len_s elt113 (by rfl) (by exact List.length_map ..) (by rfl) ?_
      refine X.bin (by rfl) (by rfl) (by rfl) (by rfl) (by intro h; cases h) (by rfl) ?_
      refine X.nil ?_
      refine R.cond (by rfl) (fun hc12 => ?_) (fun hc12 => ?_)
      · obtain ⟨x10, xs11, hd8, hx8, hds8, hlt8⟩ := drop_atI hza8 hc12
        rw [hd8] at h
        rw [w_eqStepS_L1] at h
        refine Run.skip ?_
        refine Run.seq ?_
        refine Run.block ?_
        refine Run.seq ?_
        refine Run.draw (footOf []) mixed (by kernel_rfl) (by kernel_rfl) ?_
        refine X.move (by rfl) (by rfl) ?_
        refine X.move (by rfl) (by rfl) ?_
        refine X.index_s elt113 (by rfl) (by rfl) (idxL_spec hx8).1 (idxL_map eTStep hx8) (by rfl) (by rfl) (by rfl) ?_
        refine X.load_c shp208 (by rfl) (by rfl) (by rfl) (by rfl) ?_
        refine X.move (by rfl) (by rfl) ?_
        refine X.move (by rfl) (by rfl) ?_
        obtain ⟨v13, hv13, h⟩ := bindE h
        refine X.index_s elt113 (by rfl) (by rfl) (idxL_spec hv13).1 (idxL_map eTStep hv13) (by rfl) (by rfl) (by rfl) ?_
        refine X.load_c shp208 (by rfl) (by rfl) (by rfl) (by rfl) ?_
        obtain ⟨v14, hv14, h⟩ := bindE h
        refine X.callP (w_eqStep_pc _ _ _ hv14) (by rfl) (by rfl) (by rfl) (by trivial) (by rfl) (by rfl) (by rfl) (by rfl) ?_
        refine X.un (by rfl) (by rfl) (by rfl) ?_
        refine X.nil ?_
        refine R.cond (by rfl) (fun hc15 => ?_) (fun hc15 => ?_)
        · replace h := condT hc15 h
          refine Run.seq ?_
          refine Run.reg ?_
          refine X.assign (by rfl) (by rfl) ?_
          refine X.nil ?_
          cases h
          have h := hup3
          replace h := elimR h
          cases h
          refine R.fin1 Try.results210 (by rfl) (by rfl) ?_
          rfl
        · replace h := condF hc15 h
          refine Run.skip ?_
          refine Run.blk ?_
          refine Run.reg ?_
          refine X.move (by rfl) (by rfl) ?_
          refine X.add (by rfl) (by rfl) (by omega) (by rfl) ?_
          refine X.assign (by rfl) (by rfl) ?_
          refine X.nil ?_
          exact hag8 (n8 - 1) (z9 + 1) _ _ (by omega) ⟨by first | omega | (dsimp only; omega), by first | omega | (dsimp only; omega), by first | (rw [hds8]; exact h) | (dsimp only; rw [hds8]; exact h)⟩ (by trivial) (by trivial) (by rfl) (by rfl)
      · rw [drop_endI hza8 hc12] at h
        rw [w_eqStepS_L1] at h
        refine Run.exit (by rfl) ?_
        exact hmeet4 () _ _ (Option.some.inj h) (by trivial) (by trivial) (by rfl) (by rfl)
    rintro p16 rfl
    replace h := elimL h
    refine Run.seq ?_
    refine Run.reg ?_
    refine X.assign (by rfl) (by rfl) ?_
    refine X.nil ?_
    cases h
    refine R.fin1 Try.results210 (by rfl) (by rfl) ?_
    rfl
theorem w_eqIntSS_pc (b0 : List (List Int)) (b1 : List (List Int)) (r : Bool) (h : w_eqIntSS b0 b1 = some r) : PC Try.prog 128 [.slice (b0.map l_int), .slice (b1.map l_int)] (bool r) := by
  unfold w_eqIntSS at h
  refine PC.start Try.func128 Try.ntmps128 rfl ok128 rfl ?_
  refine Run.seq ?_
  refine Run.reg ?_
  refine X.assign (by rfl) (by rfl) ?_
  refine X.nil ?_
  refine Run.seq ?_
  refine Run.seq ?_
  refine Run.reg ?_
  refine X.move (by rfl) (by rfl) ?_
  refine X.len_s elt63 (by rfl) (by exact List.length_map ..) (by rfl) ?_
  refine X.move (by rfl) (by rfl) ?_
  refine X.len_s elt63 (by rfl) (by exact List.length_map ..) (by rfl) ?_
  refine X.bin (by rfl) (by rfl) (by rfl) (by rfl) (by intro h; cases h) (by rfl) ?_
  refine X.nil ?_
  refine R.cond (by rfl) (fun hc1 => ?_) (fun hc1 => ?_)
  · replace h := condT hc1 h
    refine Run.seq ?_
    refine Run.reg ?_
    refine X.assign (by rfl) (by rfl) ?_
    refine X.nil ?_
    cases h
    refine R.fin1 Try.results128 (by rfl) (by rfl) ?_
    rfl
  · replace h := condF hc1 h
    refine Run.skip ?_
    refine Run.seq ?_
    refine Run.seq ?_
    refine Run.reg ?_
    refine X.assign (by rfl) (by rfl) ?_
    refine X.nil ?_
    obtain ⟨o2, ho2, h⟩ := bindE h
    refine R.join2 (β := Unit) [] [] (fun p16 S => S) (fun p16 M => M) (fun p16 => (Sum.inl p16) = o2) ?_ ?_
    · intro JJ5 hmeet4
      have hup3 := h; clear h; have h := ho2; clear ho2
      refine Run.block ?_
      refine R.bndS (t := 0) (by rfl) (fun hbd8 => ?_)
      replace hbd8 : b0.length ≤ 9223372036854775807 := by first | (rw [List.length_map] at hbd8; exact hbd8) | simp
      refine R.loop2 (β := Int) [(0, .slice (b0.map l_int)), (1, .slice (b1.map l_int))] [] (fun bb S => (5, int bb) :: S) (fun bb M => M) (fun n bb => 0 ≤ bb ∧ bb + n = (b0.length : Int) ∧ w_eqIntSS_L1 b1 (b0.drop bb.toNat) bb = some o2) b0.length (0 : Int) (by repeat (first | trivial | refine ⟨by first | rfl | simp [setL], ?_⟩)) (by repeat (first | trivial | refine ⟨by first | rfl | simp [setL], ?_⟩)) (by rfl) (by rfl) ⟨Int.le_refl _, by simp, h⟩ ?_
      clear h
      rintro JJ8 n8 z9 hag8 ⟨hza8, hzb8, h⟩
      refine Run.seq ?_
      refine Run.seq ?_
      refine Run.reg ?_
      refine X.move (by rfl) (by rfl) ?_
      refine X.move (by rfl) (by rfl) ?_
      refine X.len_s elt63 (by rfl) (by exact List.length_map ..) (by rfl) ?_
      refine X.bin (by rfl) (by rfl) (by rfl) (by rfl) (by intro h; cases h) (by rfl) ?_
      refine X.nil ?_
      refine R.cond (by rfl) (fun hc12 => ?_) (fun hc12 => ?_)
      · obtain ⟨x10, xs11, hd8, hx8, hds8, hlt8⟩ := drop_atI hza8 hc12
        rw [hd8] at h
        rw [w_eqIntSS_L1] at h
        refine Run.skip ?_
        refine Run.seq ?_
        refine Run.block ?_
        refine Run.seq ?_
        refine Run.draw (footOf []) mixed (by kernel_rfl) (by kernel_rfl) ?_
        refine X.move (by rfl) (by rfl) ?_
        refine X.move (by rfl) (by rfl) ?_
        refine X.index_s elt63 (by rfl) (by rfl) (idxL_spec hx8).1 (idxL_map l_int hx8) (by rfl) (by rfl) (by rfl) ?_
        refine X.load_c shp25 (by rfl) (by rfl) (by rfl) (by rfl) ?_
        refine X.move (by rfl) (by rfl) ?_
        refine X.move (by rfl) (by rfl) ?_
        obtain ⟨v13, hv13, h⟩ := bindE h
        refine X.index_s elt63 (by rfl) (by rfl) (idxL_spec hv13).1 (idxL_map l_int hv13) (by rfl) (by rfl) (by rfl) ?_
        refine X.load_c shp25 (by rfl) (by rfl) (by rfl) (by rfl) ?_
        obtain ⟨v14, hv14, h⟩ := bindE h
        refine X.callP (w_eqIntS_pc _ _ _ hv14) (by rfl) (by rfl) (by rfl) (by trivial) (by rfl) (by rfl) (by rfl) (by rfl) ?_
        refine X.un (by rfl) (by rfl) (by rfl) ?_
        refine X.nil ?_
        refine R.cond (by rfl) (fun hc15 => ?_) (fun hc15 => ?_)
        · replace h := condT hc15 h
          refine Run.seq ?_
          refine Run.reg ?_
          refine X.assign (by rfl) (by rfl) ?_
          refine X.nil ?_
          cases h
          have h := hup3
          replace h := elimR h
          cases h
          refine R.fin1 Try.results128 (by rfl) (by rfl) ?_
          rfl
        · replace h := condF hc15 h
          refine Run.skip ?_
          refine Run.blk ?_
          refine Run.reg ?_
          refine X.move (by rfl) (by rfl) ?_
          refine X.add (by rfl) (by rfl) (by omega) (by rfl) ?_
          refine X.assign (by rfl) (by rfl) ?_
          refine X.nil ?_
          exact hag8 (n8 - 1) (z9 + 1) _ _ (by omega) ⟨by first | omega | (dsimp only; omega), by first | omega | (dsimp only; omega), by first | (rw [hds8]; exact h) | (dsimp only; rw [hds8]; exact h)⟩ (by trivial) (by trivial) (by rfl) (by rfl)
      · rw [drop_endI hza8 hc12] at h
        rw [w_eqIntSS_L1] at h
        refine Run.exit (by rfl) ?_
        exact hmeet4 () _ _ (Option.some.inj h) (by trivial) (by trivial) (by rfl) (by rfl)
    rintro p16 rfl
    replace h := elimL h
    refine Run.seq ?_
    refine Run.reg ?_
    refine X.assign (by rfl) (by rfl) ?_
    refine X.nil ?_
    cases h
    refine R.fin1 Try.results128 (by rfl) (by rfl) ?_
    rfl
theorem w_eqResource_pc (b0 : TResource) (b1 : TResource) (r : Bool) (h : w_eqResource b0 b1 = some r) : PC Try.prog 159 [eTResource b0, eTResource b1] (bool r) := by
  unfold w_eqResource at h
  refine PC.start Try.func159 Try.ntmps159 rfl ok159 rfl ?_
  refine Run.seq ?_
  refine Run.reg ?_
  refine X.box (by rfl) (by rfl) (by repeat (first | trivial | refine ⟨by first | rfl | simp [setL], ?_⟩)) (by rfl) (by rfl) (by rfl) (by rfl) ?_
  refine X.box (by rfl) (by rfl) (by repeat (first | trivial | refine ⟨by first | rfl | simp [setL], ?_⟩)) (by rfl) (by rfl) (by rfl) (by rfl) ?_
  refine X.assign (by rfl) (by rfl) ?_
  refine X.nil ?_
  refine Run.seq ?_
  refine Run.seq ?_
  refine Run.reg ?_
  refine X.fieldAddr_l fld115_0 (by rfl) (by rfl) ?_
  refine X.load_l shp113 (by rfl) (by rfl) (by rfl) (by rfl) (by rfl) (by rfl) ?_
  refine X.fieldAddr_l fld115_0 (by rfl) (by rfl) ?_
  refine X.load_l shp113 (by rfl) (by rfl) (by rfl) (by rfl) (by rfl) (by rfl) ?_
  obtain ⟨v1, hv1, h⟩ := bindE h
  refine X.callP (w_eqStepS_pc _ _ _ hv1) (by rfl) (by rfl) (by rfl) (by trivial) (by rfl) (by rfl) (by rfl) (by rfl) ?_
  refine X.un (by rfl) (by rfl) (by rfl) ?_
  refine X.nil ?_
  refine R.cond (by rfl) (fun hc2 => ?_) (fun hc2 => ?_)
  · replace h := condT hc2 h
    refine Run.seq ?_
    refine Run.reg ?_
    refine X.assign (by rfl) (by rfl) ?_
    refine X.nil ?_
    cases h
    refine R.fin1 Try.results159 (by rfl) (by rfl) ?_
    rfl
  · replace h := condF hc2 h
    refine Run.skip ?_
    refine Run.seq ?_
    refine Run.seq ?_
    refine Run.reg ?_
    refine X.fieldAddr_l fld115_1 (by rfl) (by rfl) ?_
    refine X.load_l shp63 (by rfl) (by rfl) (by rfl) (by rfl) (by rfl) (by rfl) ?_
    refine X.fieldAddr_l fld115_1 (by rfl) (by rfl) ?_
    refine X.load_l shp63 (by rfl) (by rfl) (by rfl) (by rfl) (by rfl) (by rfl) ?_
    obtain ⟨v3, hv3, h⟩ := bindE h
    refine X.callP (w_eqIntSS_pc _ _ _ hv3) (by rfl) (by rfl) (by rfl) (by trivial) (by rfl) (by rfl) (by rfl) (by rfl) ?_
    refine X.un (by rfl) (by rfl) (by rfl) ?_
    refine X.nil ?_
    refine R.cond (by rfl) (fun hc4 => ?_) (fun hc4 => ?_)
    · replace h := condT hc4 h
      refine Run.seq ?_
      refine Run.reg ?_
      refine X.assign (by rfl) (by rfl) ?_
      refine X.nil ?_
      cases h
      refine R.fin1 Try.results159 (by rfl) (by rfl) ?_
      rfl
    · replace h := condF hc4 h
      refine Run.skip ?_
      refine Run.seq ?_
      refine Run.reg ?_
      refine X.assign (by rfl) (by rfl) ?_
      refine X.nil ?_
      cases h
      refine R.fin1 Try.results159 (by rfl) (by rfl) ?_
      rfl
theorem w_eqResourceS_pc (b0 : List TResource) (b1 : List TResource) (r : Bool) (h : w_eqResourceS b0 b1 = some r) : PC Try.prog 80 [.slice (b0.map eTResource), .slice (b1.map eTResource)] (bool r) := by
  unfold w_eqResourceS at h
  refine PC.start Try.func80 Try.ntmps80 rfl ok80 rfl ?_
  refine Run.seq ?_
  refine Run.reg ?_
  refine X.assign (by rfl) (by rfl) ?_
  refine X.nil ?_
  refine Run.seq ?_
  refine Run.seq ?_
  refine Run.reg ?_
  refine X.move (by rfl) (by rfl) ?_
  refine X.len_s elt32 (by rfl) (by exact List.length_map ..) (by rfl) ?_
  refine X.move (by rfl) (by rfl) ?_
  refine X.len_s elt32 (by rfl) (by exact List.length_map ..) (by rfl) ?_
  refine X.bin (by rfl) (by rfl) (by rfl) (by rfl) (by intro h; cases h) (by rfl) ?_
  refine X.nil ?_
  refine R.cond (by rfl) (fun hc1 => ?_) (fun hc1 => ?_)
  · replace h := condT hc1 h
    refine Run.seq ?_
    refine Run.reg ?_
    refine X.assign (by rfl) (by rfl) ?_
    refine X.nil ?_
    cases h
    refine R.fin1 Try.results80 (by rfl) (by rfl) ?_
    rfl
  · replace h := condF hc1 h
    refine Run.skip ?_
    refine Run.seq ?_
    refine Run.seq ?_
    refine Run.reg ?_
    refine X.assign (by rfl) (by rfl) ?_
    refine X.nil ?_
    obtain ⟨o2, ho2, h⟩ := bindE h
    refine R.join2 (β := Unit) [] [] (fun p16 S => S) (fun p16 M => M) (fun p16 => (Sum.inl p16) = o2) ?_ ?_
    · intro JJ5 hmeet4
      have hup3 := h; clear h; have h := ho2; clear ho2
      refine Run.block ?_
      refine R.bndS (t := 0) (by rfl) (fun hbd8 => ?_)
      replace hbd8 : b0.length ≤ 9223372036854775807 := by first | (rw [List.length_map] at hbd8; exact hbd8) | simp
      refine R.loop2 (β := Int) [(0, .slice (b0.map eTResource)), (1, .slice (b1.map eTResource))] [] (fun bb S => (5, int bb) :: S) (fun bb M => M) (fun n bb => 0 ≤ bb ∧ bb + n = (b0.length : Int) ∧ w_eqResourceS_L1 b1 (b0.drop bb.toNat) bb = some o2) b0.length (0 : Int) (by repeat (first | trivial | refine ⟨by first | rfl | simp [setL], ?_⟩)) (by repeat (first | trivial | refine ⟨by first | rfl | simp [setL], ?_⟩)) (by rfl) (by rfl) ⟨Int.le_refl _, by simp, h⟩ ?_
      clear h
      rintro JJ8 n8 z9 hag8 ⟨hza8, hzb8, h⟩
      refine Run.seq ?_
      refine Run.seq ?_
      refine Run.reg ?_
      refine X.move (by rfl) (by rfl) ?_
      refine X.move (by rfl) (by rfl) ?_
      refine X.len_s elt32 (by rfl) (by exact List.length_map ..) (by rfl) ?_
      refine X.bin (by rfl) (by rfl) (by rfl) (by rfl) (by intro h; cases h) (by rfl) ?_
      refine X.nil ?_
      refine R.cond (by rfl) (fun hc12 => ?_) (fun hc12 => ?_)
      · obtain ⟨x10, xs11, hd8, hx8, hds8, hlt8⟩ := drop_atI hza8 hc12
        rw [hd8] at h
        rw [w_eqResourceS_L1] at h
        refine Run.skip ?_
        refine Run.seq ?_
        refine Run.block ?_
        refine Run.seq ?_
        refine Run.draw (footOf []) mixed (by kernel_rfl) (by kernel_rfl) ?_
        refine X.move (by rfl) (by rfl) ?_
        refine X.move (by rfl) (by rfl) ?_
        refine X.index_s elt32 (by rfl) (by rfl) (idxL_spec hx8).1 (idxL_map eTResource hx8) (by rfl) (by rfl) (by rfl) ?_
        refine X.load_c shp115 (by rfl) (by rfl) (by rfl) (by rfl) ?_
        refine X.move (by rfl) (by rfl) ?_
        refine X.move (by rfl) (by rfl) ?_
        obtain ⟨v13, hv13, h⟩ := bindE h
        refine X.index_s elt32 (by rfl) (by rfl) (idxL_spec hv13).1 (idxL_map eTResource hv13) (by rfl) (by rfl) (by rfl) ?_
        refine X.load_c shp115 (by rfl) (by rfl) (by rfl) (by rfl) ?_
        obtain ⟨v14, hv14, h⟩ := bindE h
        refine X.callP (w_eqResource_pc _ _ _ hv14) (by rfl) (by rfl) (by rfl) (by trivial) (by rfl) (by rfl) (by rfl) (by rfl) ?_
        refine X.un (by rfl) (by rfl) (by rfl) ?_
        refine X.nil ?_
        refine R.cond (by rfl) (fun hc15 => ?_) (fun hc15 => ?_)
        · replace h := condT hc15 h
          refine Run.seq ?_
          refine Run.reg ?_
          refine X.assign (by rfl) (by rfl) ?_
          refine X.nil ?_
          cases h
          have h := hup3
          replace h := elimR h
          cases h
          refine R.fin1 Try.results80 (by rfl) (by rfl) ?_
          rfl
        · replace h := condF hc15 h
          refine Run.skip ?_
          refine Run.blk ?_
          refine Run.reg ?_
          refine X.move (by rfl) (by rfl) ?_
          refine X.add (by rfl) (by rfl) (by omega) (by rfl) ?_
          refine X.assign (by rfl) (by rfl) ?_
          refine X.nil ?_
          exact hag8 (n8 - 1) (z9 + 1) _ _ (by omega) ⟨by first | omega | (dsimp only; omega), by first | omega | (dsimp only; omega), by first | (rw [hds8]; exact h) | (dsimp only; rw [hds8]; exact h)⟩ (by trivial) (by trivial) (by rfl) (by rfl)
      · rw [drop_endI hza8 hc12] at h
        rw [w_eqResourceS_L1] at h
        refine Run.exit (by rfl) ?_
        exact hmeet4 () _ _ (Option.some.inj h) (by trivial) (by trivial) (by rfl) (by rfl)
    rintro p16 rfl
    replace h := elimL h
    refine Run.seq ?_
    refine Run.reg ?_
    refine X.assign (by rfl) (by rfl) ?_
    refine X.nil ?_
    cases h
    refine R.fin1 Try.results80 (by rfl) (by rfl) ?_
    rfl
theorem w_eqProject_pc (b0 : TProject) (b1 : TProject) (r : Bool) (h : w_eqProject b0 b1 = some r) : PC Try.prog 20 [eTProject b0, eTProject b1] (bool r) := by
  unfold w_eqProject at h
  refine PC.start Try.func20 Try.ntmps20 rfl ok20 rfl ?_
  refine Run.seq ?_
  refine Run.reg ?_
  refine X.box (by rfl) (by rfl) (by repeat (first | trivial | refine ⟨by first | rfl | simp [setL], ?_⟩)) (by rfl) (by rfl) (by rfl) (by rfl) ?_
  refine X.box (by rfl) (by rfl) (by repeat (first | trivial | refine ⟨by first | rfl | simp [setL], ?_⟩)) (by rfl) (by rfl) (by rfl) (by rfl) ?_
  refine X.assign (by rfl) (by rfl) ?_
  refine X.nil ?_
  refine Run.seq ?_
  refine Run.seq ?_
  refine Run.reg ?_
  refine X.fieldAddr_l fld34_0 (by rfl) (by rfl) ?_
  refine X.load_l shp3 (by rfl) (by rfl) (by rfl) (by rfl) (by rfl) (by rfl) ?_
  refine X.fieldAddr_l fld34_0 (by rfl) (by rfl) ?_
  refine X.load_l shp3 (by rfl) (by rfl) (by rfl) (by rfl) (by rfl) (by rfl) ?_
  refine X.bin (by rfl) (by rfl) (by rfl) (by rfl) (by intro h; cases h) (by rfl) ?_
  refine X.nil ?_
  refine R.cond (by rfl) (fun hc1 => ?_) (fun hc1 => ?_)
  · replace h := condT hc1 h
    refine Run.seq ?_
    refine Run.reg ?_
    refine X.assign (by rfl) (by rfl) ?_
    refine X.nil ?_
    cases h
    refine R.fin1 Try.results20 (by rfl) (by rfl) ?_
    rfl
  · replace h := condF hc1 h
    refine Run.skip ?_
    refine Run.seq ?_
    refine Run.seq ?_
    refine Run.reg ?_
    refine X.fieldAddr_l fld34_1 (by rfl) (by rfl) ?_
    refine X.load_l shp30 (by rfl) (by rfl) (by rfl) (by rfl) (by rfl) (by rfl) ?_
    refine X.fieldAddr_l fld34_1 (by rfl) (by rfl) ?_
    refine X.load_l shp30 (by rfl) (by rfl) (by rfl) (by rfl) (by rfl) (by rfl) ?_
    obtain ⟨v2, hv2, h⟩ := bindE h
    refine X.callP (w_eqActivityS_pc _ _ _ hv2) (by rfl) (by rfl) (by rfl) (by trivial) (by rfl) (by rfl) (by rfl) (by rfl) ?_
    refine X.un (by rfl) (by rfl) (by rfl) ?_
    refine X.nil ?_
    refine R.cond (by rfl) (fun hc3 => ?_) (fun hc3 => ?_)
    · replace h := condT hc3 h
      refine Run.seq ?_
      refine Run.reg ?_
      refine X.assign (by rfl) (by rfl) ?_
      refine X.nil ?_
      cases h
      refine R.fin1 Try.results20 (by rfl) (by rfl) ?_
      rfl
    · replace h := condF hc3 h
      refine Run.skip ?_
      refine Run.seq ?_
      refine Run.seq ?_
      refine Run.reg ?_
      refine X.fieldAddr_l fld34_2 (by rfl) (by rfl) ?_
      refine X.load_l shp31 (by rfl) (by rfl) (by rfl) (by rfl) (by rfl) (by rfl) ?_
      refine X.fieldAddr_l fld34_2 (by rfl) (by rfl) ?_
      refine X.load_l shp31 (by rfl) (by rfl) (by rfl) (by rfl) (by rfl) (by rfl) ?_
      obtain ⟨v4, hv4, h⟩ := bindE h
      refine X.callP (w_eqLinkS_pc _ _ _ hv4) (by rfl) (by rfl) (by rfl) (by trivial) (by rfl) (by rfl) (by rfl) (by rfl) ?_
      refine X.un (by rfl) (by rfl) (by rfl) ?_
      refine X.nil ?_
      refine R.cond (by rfl) (fun hc5 => ?_) (fun hc5 => ?_)
      · replace h := condT hc5 h
        refine Run.seq ?_
        refine Run.reg ?_
        refine X.assign (by rfl) (by rfl) ?_
        refine X.nil ?_
        cases h
        refine R.fin1 Try.results20 (by rfl) (by rfl) ?_
        rfl
      · replace h := condF hc5 h
        refine Run.skip ?_
        refine Run.seq ?_
        refine Run.seq ?_
        refine Run.reg ?_
        refine X.fieldAddr_l fld34_3 (by rfl) (by rfl) ?_
        refine X.load_l shp32 (by rfl) (by rfl) (by rfl) (by rfl) (by rfl) (by rfl) ?_
        refine X.fieldAddr_l fld34_3 (by rfl) (by rfl) ?_
        refine X.load_l shp32 (by rfl) (by rfl) (by rfl) (by rfl) (by rfl) (by rfl) ?_
        obtain ⟨v6, hv6, h⟩ := bindE h
        refine X.callP (w_eqResourceS_pc _ _ _ hv6) (by rfl) (by rfl) (by rfl) (by trivial) (by rfl) (by rfl) (by rfl) (by rfl) ?_
        refine X.un (by rfl) (by rfl) (by rfl) ?_
        refine X.nil ?_
        refine R.cond (by rfl) (fun hc7 => ?_) (fun hc7 => ?_)
        · replace h := condT hc7 h
          refine Run.seq ?_
          refine Run.reg ?_
          refine X.assign (by rfl) (by rfl) ?_
          refine X.nil ?_
          cases h
          refine R.fin1 Try.results20 (by rfl) (by rfl) ?_
          rfl
        · replace h := condF hc7 h
          refine Run.skip ?_
          refine Run.seq ?_
          refine Run.seq ?_
          refine Run.reg ?_
          refine X.fieldAddr_l fld34_4 (by rfl) (by rfl) ?_
          refine X.load_l shp25 (by rfl) (by rfl) (by rfl) (by rfl) (by rfl) (by rfl) ?_
          refine X.fieldAddr_l fld34_4 (by rfl) (by rfl) ?_
          refine X.load_l shp25 (by rfl) (by rfl) (by rfl) (by rfl) (by rfl) (by rfl) ?_
          obtain ⟨v8, hv8, h⟩ := bindE h
          refine X.callP (w_eqIntS_pc _ _ _ hv8) (by rfl) (by rfl) (by rfl) (by trivial) (by rfl) (by rfl) (by rfl) (by rfl) ?_
          refine X.un (by rfl) (by rfl) (by rfl) ?_
          refine X.nil ?_
          refine R.cond (by rfl) (fun hc9 => ?_) (fun hc9 => ?_)
          · replace h := condT hc9 h
            refine Run.seq ?_
            refine Run.reg ?_
            refine X.assign (by rfl) (by rfl) ?_
            refine X.nil ?_
            cases h
            refine R.fin1 Try.results20 (by rfl) (by rfl) ?_
            rfl
          · replace h := condF hc9 h
            refine Run.skip ?_
            refine Run.seq ?_
            refine Run.reg ?_
            refine X.assign (by rfl) (by rfl) ?_
            refine X.nil ?_
            cases h
            refine R.fin1 Try.results20 (by rfl) (by rfl) ?_
            rfl
theorem w_eqSchedule_pc (b0 : TSchedule) (b1 : TSchedule) (r : Bool) (h : w_eqSchedule b0 b1 = some r) : PC Try.prog 100 [eTSchedule b0, eTSchedule b1] (bool r) := by
  unfold w_eqSchedule at h
  refine PC.start Try.func100 Try.ntmps100 rfl ok100 rfl ?_
  refine Run.seq ?_
  refine Run.reg ?_
  refine X.box (by rfl) (by rfl) (by repeat (first | trivial | refine ⟨by first | rfl | simp [setL], ?_⟩)) (by rfl) (by rfl) (by rfl) (by rfl) ?_
  refine X.box (by rfl) (by rfl) (by repeat (first | trivial | refine ⟨by first | rfl | simp [setL], ?_⟩)) (by rfl) (by rfl) (by rfl) (by rfl) ?_
  refine X.assign (by rfl) (by rfl) ?_
  refine X.nil ?_
  refine Run.seq ?_
  refine Run.seq ?_
  refine Run.reg ?_
  refine X.fieldAddr_l fld53_0 (by rfl) (by rfl) ?_
  refine X.load_l shp25 (by rfl) (by rfl) (by rfl) (by rfl) (by rfl) (by rfl) ?_
  refine X.fieldAddr_l fld53_0 (by rfl) (by rfl) ?_
  refine X.load_l shp25 (by rfl) (by rfl) (by rfl) (by rfl) (by rfl) (by rfl) ?_
  obtain ⟨v1, hv1, h⟩ := bindE h
  refine X.callP (w_eqIntS_pc _ _ _ hv1) (by rfl) (by rfl) (by rfl) (by trivial) (by rfl) (by rfl) (by rfl) (by rfl) ?_
  refine X.un (by rfl) (by rfl) (by rfl) ?_
  refine X.nil ?_
  refine R.cond (by rfl) (fun hc2 => ?_) (fun hc2 => ?_)
  · replace h := condT hc2 h
    refine Run.seq ?_
    refine Run.reg ?_
    refine X.assign (by rfl) (by rfl) ?_
    refine X.nil ?_
    cases h
    refine R.fin1 Try.results100 (by rfl) (by rfl) ?_
    rfl
  · replace h := condF hc2 h
    refine Run.skip ?_
    refine Run.seq ?_
    refine Run.seq ?_
    refine Run.reg ?_
    refine X.fieldAddr_l fld53_1 (by rfl) (by rfl) ?_
    refine X.load_l shp25 (by rfl) (by rfl) (by rfl) (by rfl) (by rfl) (by rfl) ?_
    refine X.fieldAddr_l fld53_1 (by rfl) (by rfl) ?_
    refine X.load_l shp25 (by rfl) (by rfl) (by rfl) (by rfl) (by rfl) (by rfl) ?_
    obtain ⟨v3, hv3, h⟩ := bindE h
    refine X.callP (w_eqIntS_pc _ _ _ hv3) (by rfl) (by rfl) (by rfl) (by trivial) (by rfl) (by rfl) (by rfl) (by rfl) ?_
    refine X.un (by rfl) (by rfl) (by rfl) ?_
    refine X.nil ?_
    refine R.cond (by rfl) (fun hc4 => ?_) (fun hc4 => ?_)
    · replace h := condT hc4 h
      refine Run.seq ?_
      refine Run.reg ?_
      refine X.assign (by rfl) (by rfl) ?_
      refine X.nil ?_
      cases h
      refine R.fin1 Try.results100 (by rfl) (by rfl) ?_
      rfl
    · replace h := condF hc4 h
      refine Run.skip ?_
      refine Run.seq ?_
      refine Run.reg ?_
      refine X.assign (by rfl) (by rfl) ?_
      refine X.nil ?_
      cases h
      refine R.fin1 Try.results100 (by rfl) (by rfl) ?_
      rfl
theorem w_eqPlan_pc (b0 : TPlan) (b1 : TPlan) (r : Bool) (h : w_eqPlan b0 b1 = some r) : PC Try.prog 32 [eTPlan b0, eTPlan b1] (bool r) := by
  unfold w_eqPlan at h
  refine PC.start Try.func32 Try.ntmps32 rfl ok32 rfl ?_
  refine Run.seq ?_
  refine Run.reg ?_
  refine X.box (by rfl) (by rfl) (by repeat (first | trivial | refine ⟨by first | rfl | simp [setL], ?_⟩)) (by rfl) (by rfl) (by rfl) (by rfl) ?_
  refine X.box (by rfl) (by rfl) (by repeat (first | trivial | refine ⟨by first | rfl | simp [setL], ?_⟩)) (by rfl) (by rfl) (by rfl) (by rfl) ?_
  refine X.assign (by rfl) (by rfl) ?_
  refine X.nil ?_
  refine Run.seq ?_
  refine Run.seq ?_
  refine Run.reg ?_
  refine X.fieldAddr_l fld55_0 (by rfl) (by rfl) ?_
  refine X.load_l shp53 (by rfl) (by rfl) (by rfl) (by rfl) (by rfl) (by rfl) ?_
  refine X.fieldAddr_l fld55_0 (by rfl) (by rfl) ?_
  refine X.load_l shp53 (by rfl) (by rfl) (by rfl) (by rfl) (by rfl) (by rfl) ?_
  obtain ⟨v1, hv1, h⟩ := bindE h
  refine X.callP (w_eqSchedule_pc _ _ _ hv1) (by rfl) (by rfl) (by rfl) (by trivial) (by rfl) (by rfl) (by rfl) (by rfl) ?_
  refine X.un (by rfl) (by rfl) (by rfl) ?_
  refine X.nil ?_
  refine R.cond (by rfl) (fun hc2 => ?_) (fun hc2 => ?_)
  · replace h := condT hc2 h
    refine Run.seq ?_
    refine Run.reg ?_
    refine X.assign (by rfl) (by rfl) ?_
    refine X.nil ?_
    cases h
    refine R.fin1 Try.results32 (by rfl) (by rfl) ?_
    rfl
  · replace h := condF hc2 h
    refine Run.skip ?_
    refine Run.seq ?_
    refine Run.seq ?_
    refine Run.reg ?_
    refine X.fieldAddr_l fld55_1 (by rfl) (by rfl) ?_
    refine X.load_l shp25 (by rfl) (by rfl) (by rfl) (by rfl) (by rfl) (by rfl) ?_
    refine X.fieldAddr_l fld55_1 (by rfl) (by rfl) ?_
    refine X.load_l shp25 (by rfl) (by rfl) (by rfl) (by rfl) (by rfl) (by rfl) ?_
    obtain ⟨v3, hv3, h⟩ := bindE h
    refine X.callP (w_eqIntS_pc _ _ _ hv3) (by rfl) (by rfl) (by rfl) (by trivial) (by rfl) (by rfl) (by rfl) (by rfl) ?_
    refine X.un (by rfl) (by rfl) (by rfl) ?_
    refine X.nil ?_
    refine R.cond (by rfl) (fun hc4 => ?_) (fun hc4 => ?_)
    · replace h := condT hc4 h
      refine Run.seq ?_
      refine Run.reg ?_
      refine X.assign (by rfl) (by rfl) ?_
      refine X.nil ?_
      cases h
      refine R.fin1 Try.results32 (by rfl) (by rfl) ?_
      rfl
    · replace h := condF hc4 h
      refine Run.skip ?_
      refine Run.seq ?_
      refine Run.reg ?_
      refine X.assign (by rfl) (by rfl) ?_
      refine X.nil ?_
      cases h
      refine R.fin1 Try.results32 (by rfl) (by rfl) ?_
      rfl
theorem s_NewPlan_pc (b0 : TProject) (r : TPlan) (h : s_NewPlan b0 = some r) : PC Try.prog 33 [eTProject b0] (.agg [.fresh false 3 1 (r.Schedule.Starts.map int), .fresh false 3 1 (r.Schedule.Modes.map int), .fresh false 3 1 (r.Done.map int)]) := by
  unfold s_NewPlan at h
  refine PC.start Try.func33 Try.ntmps33 rfl ok33 rfl ?_
  refine Run.seq ?_
  refine Run.reg ?_
  refine X.box (by rfl) (by rfl) (by repeat (first | trivial | refine ⟨by first | rfl | simp [setL], ?_⟩)) (by rfl) (by rfl) (by rfl) (by rfl) ?_
  refine X.alloc zer55 (by rfl) (by rfl) (by rfl) ?_
  refine X.nil ?_
  refine Run.seq ?_
  refine Run.reg ?_
  refine X.build zer55 pl55 (by rfl) (by rfl) (by repeat (first | trivial | refine ⟨by first | rfl | simp [setL], ?_⟩)) (by rfl) (by rfl) (by rfl) ?_
  refine X.alloc zer55 (by rfl) (by rfl) (by rfl) ?_
  refine X.store_l shp55 (by rfl) (by rfl) (by rfl) (by rfl) (by repeat (first | trivial | refine ⟨by first | rfl | simp [setL], ?_⟩)) (by rfl) (by rfl) (by rfl) ?_
  refine X.nil ?_
  refine Run.seq ?_
  refine Run.seq ?_
  refine Run.reg ?_
  refine X.load_l shp34 (by rfl) (by rfl) (by rfl) (by rfl) (by rfl) (by rfl) ?_
  obtain ⟨v1, hv1, h⟩ := bindE h
  refine X.callP (s_ProjectOk_pc _ _ hv1) (by rfl) (by rfl) (by rfl) (by trivial) (by rfl) (by rfl) (by rfl) (by rfl) ?_
  refine X.un (by rfl) (by rfl) (by rfl) ?_
  refine X.nil ?_
  refine R.cond (by rfl) (fun hc2 => ?_) (fun hc2 => ?_)
  · replace h := condT hc2 h
    refine Run.seq ?_
    refine Run.reg ?_
    refine X.load_l shp55 (by rfl) (by rfl) (by rfl) (by rfl) (by rfl) (by rfl) ?_
    refine X.store_l shp55 (by rfl) (by rfl) (by rfl) (by rfl) (by repeat (first | trivial | refine ⟨by first | rfl | simp [setL], ?_⟩)) (by rfl) (by rfl) (by rfl) ?_
    refine X.nil ?_
    cases h
    refine R.nilOwnB (m := 128) 0 168 false 3 1 (by rfl) (by rfl) (by rfl) (by rfl) (by rfl) ?_
    refine R.nilOwnB (m := 128) 1 169 false 3 1 (by rfl) (by rfl) (by rfl) (by rfl) (by rfl) ?_
    refine R.nilOwnB (m := 128) 2 170 false 3 1 (by rfl) (by rfl) (by rfl) (by rfl) (by rfl) ?_
    refine R.finC Try.results33 shp55 (by rfl) (by rfl) (by rfl) (by rfl) (by repeat (first | trivial | refine ⟨by first | rfl | simp [setL], ?_⟩)) ?_
    rfl
  · replace h := condF hc2 h
    refine Run.skip ?_
    refine Run.seq ?_
    refine Run.reg ?_
    refine X.fieldAddr_l fld34_1 (by rfl) (by rfl) ?_
    refine X.load_l shp30 (by rfl) (by rfl) (by rfl) (by rfl) (by rfl) (by rfl) ?_
    refine X.len_s elt30 (by rfl) (by exact List.length_map ..) (by rfl) ?_
    obtain ⟨v3, hv3, h⟩ := bindE h
    refine X.makeSlice2 int hv3 elt25 zer3 (by rfl) (by rfl) (by rfl) (by simp [PV.plain]) (by rfl) (by rfl) (by rfl) (by rfl) (by rfl) (by rfl) ?_
    refine X.fieldAddr_l fld55_0 (by rfl) (by rfl) ?_
    refine X.fieldAddr_l fld53_0 (by rfl) (by rfl) ?_
    refine X.store_l shp25 (by rfl) (by rfl) (by rfl) (by rfl) (by repeat (first | trivial | refine ⟨by first | rfl | simp [setL], ?_⟩)) (by rfl) (by rfl) (by rfl) ?_
    refine X.nil ?_
    refine Run.seq ?_
    refine Run.reg ?_
    refine X.fieldAddr_l fld34_1 (by rfl) (by rfl) ?_
    refine X.load_l shp30 (by rfl) (by rfl) (by rfl) (by rfl) (by rfl) (by rfl) ?_
    refine X.len_s elt30 (by rfl) (by exact List.length_map ..) (by rfl) ?_
    obtain ⟨v4, hv4, h⟩ := bindE h
    refine X.makeSlice2 int hv4 elt25 zer3 (by rfl) (by rfl) (by rfl) (by simp [PV.plain]) (by rfl) (by rfl) (by rfl) (by rfl) (by rfl) (by rfl) ?_
    refine X.fieldAddr_l fld55_0 (by rfl) (by rfl) ?_
    refine X.fieldAddr_l fld53_1 (by rfl) (by rfl) ?_
    refine X.store_l shp25 (by rfl) (by rfl) (by rfl) (by rfl) (by repeat (first | trivial | refine ⟨by first | rfl | simp [setL], ?_⟩)) (by rfl) (by rfl) (by rfl) ?_
    refine X.nil ?_
    refine Run.seq ?_
    refine Run.reg ?_
    refine X.load_l shp55 (by rfl) (by rfl) (by rfl) (by rfl) (by rfl) (by rfl) ?_
    refine X.store_l shp55 (by rfl) (by rfl) (by rfl) (by rfl) (by repeat (first | trivial | refine ⟨by first | rfl | simp [setL], ?_⟩)) (by rfl) (by rfl) (by rfl) ?_
    refine X.nil ?_
    cases h
    refine R.pubObj (n := 768) (by rfl) ?_
    refine R.pubObj (n := 1152) (by rfl) ?_
    refine R.nilOwnB (m := 128) 2 170 false 3 1 (by rfl) (by rfl) (by rfl) (by rfl) (by rfl) ?_
    refine R.finC Try.results33 shp55 (by rfl) (by rfl) (by rfl) (by rfl) (by repeat (first | trivial | refine ⟨by first | rfl | simp [setL], ?_⟩)) ?_
    rfl
theorem i_NewPlan_pc (b0 : TProject) (r : TPlan) (h : i_NewPlan b0 = some r) : PC Try.prog 34 [eTProject b0] (.agg [.fresh true 3 1 (r.Schedule.Starts.map int), .fresh true 3 1 (r.Schedule.Modes.map int), .fresh true 3 1 (r.Done.map int)]) := by
  unfold i_NewPlan at h
  refine PC.start Try.func34 Try.ntmps34 rfl ok34 rfl ?_
  refine Run.seq ?_
  refine Run.reg ?_
  refine X.box (by rfl) (by rfl) (by repeat (first | trivial | refine ⟨by first | rfl | simp [setL], ?_⟩)) (by rfl) (by rfl) (by rfl) (by rfl) ?_
  refine X.alloc zer55 (by rfl) (by rfl) (by rfl) ?_
  refine X.nil ?_
  refine Run.seq ?_
  refine Run.reg ?_
  refine X.build zer55 pl55 (by rfl) (by rfl) (by repeat (first | trivial | refine ⟨by first | rfl | simp [setL], ?_⟩)) (by rfl) (by rfl) (by rfl) ?_
  refine X.alloc zer55 (by rfl) (by rfl) (by rfl) ?_
  refine X.store_l shp55 (by rfl) (by rfl) (by rfl) (by rfl) (by repeat (first | trivial | refine ⟨by first | rfl | simp [setL], ?_⟩)) (by rfl) (by rfl) (by rfl) ?_
  refine X.nil ?_
  refine Run.seq ?_
  refine Run.seq ?_
  refine Run.reg ?_
  refine X.load_l shp34 (by rfl) (by rfl) (by rfl) (by rfl) (by rfl) (by rfl) ?_
  obtain ⟨v1, hv1, h⟩ := bindE h
  refine X.callP (i_ProjectOk_pc _ _ hv1) (by rfl) (by rfl) (by rfl) (by trivial) (by rfl) (by rfl) (by rfl) (by rfl) ?_
  refine X.un (by rfl) (by rfl) (by rfl) ?_
  refine X.nil ?_
  refine R.cond (by rfl) (fun hc2 => ?_) (fun hc2 => ?_)
  · replace h := condT hc2 h
    refine Run.seq ?_
    refine Run.reg ?_
    refine X.load_l shp55 (by rfl) (by rfl) (by rfl) (by rfl) (by rfl) (by rfl) ?_
    refine X.store_l shp55 (by rfl) (by rfl) (by rfl) (by rfl) (by repeat (first | trivial | refine ⟨by first | rfl | simp [setL], ?_⟩)) (by rfl) (by rfl) (by rfl) ?_
    refine X.nil ?_
    cases h
    refine R.nilOwnB (m := 128) 0 168 true 3 1 (by rfl) (by rfl) (by rfl) (by rfl) (by rfl) ?_
    refine R.nilOwnB (m := 128) 1 169 true 3 1 (by rfl) (by rfl) (by rfl) (by rfl) (by rfl) ?_
    refine R.nilOwnB (m := 128) 2 170 true 3 1 (by rfl) (by rfl) (by rfl) (by rfl) (by rfl) ?_
    refine R.finC Try.results34 shp55 (by rfl) (by rfl) (by rfl) (by rfl) (by repeat (first | trivial | refine ⟨by first | rfl | simp [setL], ?_⟩)) ?_
    rfl
  · replace h := condF hc2 h
    refine Run.skip ?_
    refine Run.seq ?_
    refine Run.seq ?_
    refine Run.reg ?_
    refine X.fieldAddr_l fld34_1 (by rfl) (by rfl) ?_
    refine X.load_l shp30 (by rfl) (by rfl) (by rfl) (by rfl) (by rfl) (by rfl) ?_
    refine X.len_s elt30 (by rfl) (by exact List.length_map ..) (by rfl) ?_
    refine X.move (by rfl) (by rfl) ?_
    refine X.nil ?_
    obtain ⟨o3, ho3, h⟩ := bindE h
    refine R.join2 (β := (List Int) × (List Int)) [(2, .lptr 128 0), (3, .lptr 192 0)] [(128, .blk true [.nils, .nils, .nils])] (fun p18 S => S) (fun p18 M => (192, .blk true [.own 1152 (p18.1.map int).length, .own 1472 (p18.2.map int).length, .nils]) :: (1152, .obj true 3 1 (p18.1.map int)) :: (1472, .obj true 3 1 (p18.2.map int)) :: M) (fun p18 => p18 = o3) ?_ ?_
    · intro JJ6 hmeet5
      have hup4 := h; clear h; have h := ho3; clear ho3
      refine Run.block ?_
      refine R.nilOwnB (m := 192) 0 1152 true 3 1 (by rfl) (by rfl) (by rfl) (by rfl) (by rfl) ?_
      refine R.nilOwnB (m := 192) 1 1472 true 3 1 (by rfl) (by rfl) (by rfl) (by rfl) (by rfl) ?_
      refine R.bndS (t := 10) (by rfl) (fun hbd9 => ?_)
      replace hbd9 : b0.Activities.length ≤ 9223372036854775807 := by first | (rw [List.length_map] at hbd9; exact hbd9) | simp
      refine R.loop2 (β := Int × (List Int) × (List Int)) [(2, .lptr 128 0), (3, .lptr 192 0), (11, int (b0.Activities.length : Int))] [(128, .blk true [.nils, .nils, .nils])] (fun bb S => (12, int bb.1) :: S) (fun bb M => (192, .blk true [.own 1152 (bb.2.1.map int).length, .own 1472 (bb.2.2.map int).length, .nils]) :: (1152, .obj true 3 1 (bb.2.1.map int)) :: (1472, .obj true 3 1 (bb.2.2.map int)) :: M) (fun n bb => 0 ≤ bb.1 ∧ bb.1 + n = (b0.Activities.length : Int) ∧ i_NewPlan_L1 (b0.Activities.drop bb.1.toNat) bb.1 bb.2.1 bb.2.2 = some o3) b0.Activities.length (0, ([] : List Int), ([] : List Int)) (by repeat (first | trivial | refine ⟨by first | rfl | simp [setL], ?_⟩)) (by repeat (first | trivial | refine ⟨by first | rfl | simp [setL], ?_⟩)) (by rfl) (by rfl) ⟨Int.le_refl _, by simp, h⟩ ?_
      clear h
      rintro JJ9 n9 ⟨z10, a11, a12⟩ hag9 ⟨hza9, hzb9, h⟩
      dsimp only at hza9 hzb9 h
      refine Run.seq ?_
      refine Run.reg ?_
      refine X.bin (by rfl) (by rfl) (by rfl) (by rfl) (by intro h; cases h) (by rfl) ?_
      refine X.nil ?_
      refine Run.seq ?_
      refine R.cond (by rfl) (fun hc15 => ?_) (fun hc15 => ?_)
      · obtain ⟨x13, xs14, hd9, hx9, hds9, hlt9⟩ := drop_atI hza9 hc15
        rw [hd9] at h
        rw [i_NewPlan_L1] at h
        refine Run.skip ?_
        refine Run.seq ?_
        refine Run.block ?_
        refine Run.draw (footOf [(2, ([192], [], [], [])), (3, ([1088], [1088], [], [])), (4, ([1088, 1152], [1152], [], [])), (7, ([192], [], [], [])), (8, ([1408], [1408], [], [])), (9, ([1408, 1472], [1472], [], [])), (12, ([192, 1152], [192], [], [])), (15, ([192, 1472], [192], [], []))]) mixed (by kernel_rfl) (by kernel_rfl) ?_
        refine X.fieldAddr_l fld55_0 (by rfl) (by rfl) ?_
        refine X.fieldAddr_l fld53_0 (by rfl) (by rfl) ?_
        refine X.load_l shp25 (by rfl) (by rfl) (by rfl) (by rfl) (by rfl) (by rfl) ?_
        refine X.buildSlice true elt25 zer3 (by rfl) (by rfl) (by rfl) (by rfl) (by rfl) (by rfl) (by repeat (first | trivial | refine ⟨by first | rfl | simp [setL], ?_⟩)) (allSz_spec (by rfl)) (by rfl) (by rfl) (by rfl) ?_
        obtain ⟨v16, hv16, h⟩ := bindE h
        refine X.append elt25 zer3 (by rfl) (by rfl) (by first | rfl | simp [setL] | omega) (by rfl) (.own _ _ _ _ _ _ (look_mem (by rfl)) (by first | rfl | simp [setL] | omega)) (allSz_spec (by rfl)) (appL_len int hv16) (appL_map int hv16) (by rfl) (by rfl) (by rfl) (by rfl) ?_
        refine X.fieldAddr_l fld55_0 (by rfl) (by rfl) ?_
        refine X.fieldAddr_l fld53_1 (by rfl) (by rfl) ?_
        refine X.load_l shp25 (by rfl) (by rfl) (by rfl) (by rfl) (by rfl) (by rfl) ?_
        refine X.buildSlice true elt25 zer3 (by rfl) (by rfl) (by rfl) (by rfl) (by rfl) (by rfl) (by repeat (first | trivial | refine ⟨by first | rfl | simp [setL], ?_⟩)) (allSz_spec (by rfl)) (by rfl) (by rfl) (by rfl) ?_
        obtain ⟨v17, hv17, h⟩ := bindE h
        refine X.append elt25 zer3 (by rfl) (by rfl) (by first | rfl | simp [setL] | omega) (by rfl) (.own _ _ _ _ _ _ (look_mem (by rfl)) (by first | rfl | simp [setL] | omega)) (allSz_spec (by rfl)) (appL_len int hv17) (appL_map int hv17) (by rfl) (by rfl) (by rfl) (by rfl) ?_
        refine X.fieldAddr_l fld55_0 (by rfl) (by rfl) ?_
        refine X.fieldAddr_l fld53_0 (by rfl) (by rfl) ?_
        refine X.store_l shp25 (by rfl) (by rfl) (by rfl) (by rfl) (by repeat (first | trivial | refine ⟨by first | rfl | simp [setL], ?_⟩)) (by rfl) (by rfl) (by rfl) ?_
        refine X.fieldAddr_l fld55_0 (by rfl) (by rfl) ?_
        refine X.fieldAddr_l fld53_1 (by rfl) (by rfl) ?_
        refine X.store_l shp25 (by rfl) (by rfl) (by rfl) (by rfl) (by repeat (first | trivial | refine ⟨by first | rfl | simp [setL], ?_⟩)) (by rfl) (by rfl) (by rfl) ?_
        refine X.nil ?_
        refine Run.blk ?_
        refine Run.reg ?_
        refine X.add (by rfl) (by rfl) (by omega) (by rfl) ?_
        refine X.move (by rfl) (by rfl) ?_
        refine X.nil ?_
        exact hag9 (n9 - 1) (z10 + 1, v16, v17) _ _ (by omega) ⟨by first | omega | (dsimp only; omega), by first | omega | (dsimp only; omega), by first | (rw [hds9]; exact h) | (dsimp only; rw [hds9]; exact h)⟩ (by repeat (first | trivial | refine ⟨by first | rfl | simp [setL], ?_⟩)) (by repeat (first | trivial | refine ⟨by first | rfl | simp [setL], ?_⟩)) (by rfl) (by rfl)
      · rw [drop_endI hza9 hc15] at h
        rw [i_NewPlan_L1] at h
        refine Run.exit (by rfl) ?_
        exact hmeet5 (a11, a12) _ _ (Option.some.inj h) (by repeat (first | trivial | refine ⟨by first | rfl | simp [setL], ?_⟩)) (by repeat (first | trivial | refine ⟨by first | rfl | simp [setL], ?_⟩)) (by rfl) (by rfl)
    rintro p18 rfl
    refine Run.seq ?_
    refine Run.reg ?_
    refine X.load_l shp55 (by rfl) (by rfl) (by rfl) (by rfl) (by rfl) (by rfl) ?_
    refine X.store_l shp55 (by rfl) (by rfl) (by rfl) (by rfl) (by repeat (first | trivial | refine ⟨by first | rfl | simp [setL], ?_⟩)) (by rfl) (by rfl) (by rfl) ?_
    refine X.nil ?_
    cases h
    refine R.nilOwnB (m := 128) 2 170 true 3 1 (by rfl) (by rfl) (by rfl) (by rfl) (by rfl) ?_
    refine R.finC Try.results34 shp55 (by rfl) (by rfl) (by rfl) (by rfl) (by repeat (first | trivial | refine ⟨by first | rfl | simp [setL], ?_⟩)) ?_
    rfl
theorem w_markText_pc (b0 : Int) (r : ByteArray) (h : w_markText b0 = some r) : PC Try.prog 167 [int b0] (str r) := by
  unfold w_markText at h
  refine PC.start Try.func167 Try.ntmps167 rfl ok167 rfl ?_
  refine Run.seq ?_
  refine Run.reg ?_
  refine X.assign (by rfl) (by rfl) ?_
  refine X.nil ?_
  refine Run.seq ?_
  refine Run.seq ?_
  refine Run.reg ?_
  refine X.move (by rfl) (by rfl) ?_
  refine X.bin (by rfl) (by rfl) (by rfl) (by rfl) (by intro h; cases h) (by rfl) ?_
  refine X.nil ?_
  refine R.cond (by rfl) (fun hc1 => ?_) (fun hc1 => ?_)
  · replace h := condT hc1 h
    refine Run.seq ?_
    refine Run.reg ?_
    refine X.assign (by rfl) (by rfl) ?_
    refine X.nil ?_
    cases h
    refine R.fin1 Try.results167 (by rfl) (by rfl) ?_
    rfl
  · replace h := condF hc1 h
    refine Run.skip ?_
    refine Run.seq ?_
    refine Run.reg ?_
    refine X.assign (by rfl) (by rfl) ?_
    refine X.nil ?_
    refine Run.seq ?_
    obtain ⟨o2, ho2, h⟩ := bindE h
    refine R.join2 (β := ByteArray) [] [] (fun p13 S => (3, str p13) :: S) (fun p13 M => M) (fun p13 => p13 = o2) ?_ ?_
    · intro JJ5 hmeet4
      have hup3 := h; clear h; have h := ho2; clear ho2
      refine Run.block ?_
      refine R.loop2 (β := Int × ByteArray) [] [] (fun bb S => (0, int bb.1) :: (3, str bb.2) :: S) (fun bb M => M) (fun n bb => w_markText_L1 n bb.1 bb.2 = some o2) F0 (b0, ByteArray.empty) (by repeat (first | trivial | refine ⟨by first | rfl | simp [setL], ?_⟩)) (by repeat (first | trivial | refine ⟨by first | rfl | simp [setL], ?_⟩)) (by rfl) (by rfl) h ?_
      clear h
      rintro JJ5 n5 ⟨a7, a8⟩ hag5 h
      dsimp only at h
      obtain _ | n5 := n5
      · exact absurd h (by simp [w_markText_L1])
      rw [w_markText_L1] at h
      refine Run.seq ?_
      refine Run.seq ?_
      refine Run.reg ?_
      refine X.move (by rfl) (by rfl) ?_
      refine X.bin (by rfl) (by rfl) (by rfl) (by rfl) (by intro h; cases h) (by rfl) ?_
      refine X.nil ?_
      refine R.cond (by rfl) (fun hc11 => ?_) (fun hc11 => ?_)
      · replace h := condT hc11 h
        refine Run.skip ?_
        refine Run.block ?_
        refine Run.seq ?_
        refine Run.reg ?_
        refine X.move (by rfl) (by rfl) ?_
        refine X.bin (by rfl) (by rfl) (by rfl) (by rfl) (by intro h; cases h) (by rfl) ?_
        refine X.addW (by rfl) (by rfl) (by rfl) ?_
        refine X.conv Try.underlying5 (by rw [Try.underlying3]; rfl) (by rfl) (by rfl) ?_
        refine X.buildSlice false elt215 zer5 (by rfl) (by rfl) (by rfl) (by rfl) (by rfl) (by rfl) (by repeat (first | trivial | refine ⟨by first | rfl | simp [setL], ?_⟩)) (allSz_spec (by rfl)) (by rfl) (by rfl) (by rfl) ?_
        refine X.convBS ([(IntKind.u8.wrap (W (48 + (a7.tmod 10))))] : List Int) Try.underlying215 Try.underlying5 Try.underlying9 (by rfl) (.own _ _ _ _ _ _ (look_mem (by rfl)) (by first | rfl | simp [setL] | omega)) (by rfl) (by rfl) (by rfl) ?_
        refine X.move (by rfl) (by rfl) ?_
        obtain ⟨v12, hv12, h⟩ := bindE h
        refine X.cat2 hv12 (by rfl) (by rfl) (by rfl) ?_
        refine X.assign (by rfl) (by rfl) ?_
        refine X.nil ?_
        refine Run.reg ?_
        refine X.move (by rfl) (by rfl) ?_
        refine X.bin (by rfl) (by rfl) (by rfl) (by rfl) (by intro h; cases h) (by rfl) ?_
        refine X.assign (by rfl) (by rfl) ?_
        refine X.nil ?_
        refine Run.blk ?_
        exact hag5 n5 ((W (a7.tdiv 10)), v12) _ _ (by omega) h (by repeat (first | trivial | refine ⟨by first | rfl | simp [setL], ?_⟩)) (by repeat (first | trivial | refine ⟨by first | rfl | simp [setL], ?_⟩)) (by rfl) (by rfl)
      · replace h := condF hc11 h
        refine Run.exit (by rfl) ?_
        exact hmeet4 a8 _ _ (Option.some.inj h) (by trivial) (by trivial) (by rfl) (by rfl)
    rintro p13 rfl
    refine Run.seq ?_
    refine Run.reg ?_
    refine X.move (by rfl) (by rfl) ?_
    obtain ⟨v14, hv14, h⟩ := bindE h
    refine X.cat2 hv14 (by rfl) (by rfl) (by rfl) ?_
    refine X.assign (by rfl) (by rfl) ?_
    refine X.nil ?_
    cases h
    refine R.fin1 Try.results167 (by rfl) (by rfl) ?_
    rfl
theorem w_markIntS_k_pc (b0 : List Int) (b1 : Int) (r : Int) (h : w_markIntS_k b0 b1 = some r) : PCM Try.prog 104 [.ysk 63 (.slice (b0.map int)), int b1] [(63, .yreg true true)] (int r) [(63, .yreg true true)] := by
  unfold w_markIntS_k at h
  refine PCM.start Try.func104 Try.ntmps104 rfl ok104 rfl (by rfl) (by rfl) (by rfl) (by rfl) (by rfl) ?_
  refine Run.seq ?_
  refine Run.reg ?_
  refine X.assign (by rfl) (by rfl) ?_
  refine X.nil ?_
  refine Run.seq ?_
  refine Run.seq ?_
  refine Run.reg ?_
  refine X.assign (by rfl) (by rfl) ?_
  refine X.nil ?_
  obtain ⟨o1, ho1, h⟩ := bindE h
  refine R.join2 (β := Int) [] [(63, .yreg true true)] (fun p13 S => (1, int p13) :: S) (fun p13 M => M) (fun p13 => p13 = o1) ?_ ?_
  · intro JJ4 hmeet3
    have hup2 := h; clear h; have h := ho1; clear ho1
    refine Run.block ?_
    refine R.bndY true 63 (t := 0) (by rfl) (fun hbd7 => ?_)
    replace hbd7 : b0.length ≤ 9223372036854775807 := by first | (rw [List.length_map] at hbd7; exact hbd7) | simp
    refine R.loop2 (β := Int × Int) [(0, .ysk 63 (.slice (b0.map int)))] [(63, .yreg true true)] (fun bb S => (1, int bb.2) :: (5, int bb.1) :: S) (fun bb M => M) (fun n bb => 0 ≤ bb.1 ∧ bb.1 + n = (b0.length : Int) ∧ w_markIntS_k_L1 (b0.drop bb.1.toNat) bb.1 bb.2 = some o1) b0.length (0, b1) (by repeat (first | trivial | refine ⟨by first | rfl | simp [setL], ?_⟩)) (by repeat (first | trivial | refine ⟨by first | rfl | simp [setL], ?_⟩)) (by rfl) (by rfl) ⟨Int.le_refl _, by simp, h⟩ ?_
    clear h
    rintro JJ7 n7 ⟨z8, a9⟩ hag7 ⟨hza7, hzb7, h⟩
    dsimp only at hza7 hzb7 h
    refine Run.seq ?_
    refine Run.seq ?_
    refine Run.reg ?_
    refine X.move (by rfl) (by rfl) ?_
    refine X.move (by rfl) (by rfl) ?_
    refine X.lenY true 63 elt25 (by rfl) (by exact List.length_map ..) (by rfl) ?_
    refine X.bin (by rfl) (by rfl) (by rfl) (by rfl) (by intro h; cases h) (by rfl) ?_
    refine X.nil ?_
    refine R.cond (by rfl) (fun hc12 => ?_) (fun hc12 => ?_)
    · obtain ⟨x10, xs11, hd7, hx7, hds7, hlt7⟩ := drop_atI hza7 hc12
      rw [hd7] at h
      rw [w_markIntS_k_L1] at h
      refine Run.skip ?_
      refine Run.seq ?_
      refine Run.block ?_
      refine Run.seq ?_
      refine Run.reg ?_
      refine X.move (by rfl) (by rfl) ?_
      refine X.move (by rfl) (by rfl) ?_
      refine X.move (by rfl) (by rfl) ?_
      refine X.indexY true 63 elt25 (by rfl) (by rfl) (idxL_spec hx7).1 (idxL_map int hx7) (by rfl) (by rfl) ?_
      refine X.storeY 63 shp3 (by rfl) (by rfl) (by rfl) (by rfl) (by rfl) (by rfl) (by rfl) ?_
      refine X.nil ?_
      refine Run.reg ?_
      refine X.move (by rfl) (by rfl) ?_
      refine X.addW (by rfl) (by rfl) (by rfl) ?_
      refine X.assign (by rfl) (by rfl) ?_
      refine X.nil ?_
      refine Run.blk ?_
      refine Run.reg ?_
      refine X.move (by rfl) (by rfl) ?_
      refine X.add (by rfl) (by rfl) (by omega) (by rfl) ?_
      refine X.assign (by rfl) (by rfl) ?_
      refine X.nil ?_
      exact hag7 (n7 - 1) (z8 + 1, (W (a9 + 1))) _ _ (by omega) ⟨by first | omega | (dsimp only; omega), by first | omega | (dsimp only; omega), by first | (rw [hds7]; exact h) | (dsimp only; rw [hds7]; exact h)⟩ (by trivial) (by trivial) (by rfl) (by rfl)
    · rw [drop_endI hza7 hc12] at h
      rw [w_markIntS_k_L1] at h
      refine Run.exit (by rfl) ?_
      exact hmeet3 a9 _ _ (Option.some.inj h) (by trivial) (by trivial) (by rfl) (by rfl)
  rintro p13 rfl
  refine Run.seq ?_
  refine Run.reg ?_
  refine X.move (by rfl) (by rfl) ?_
  refine X.assign (by rfl) (by rfl) ?_
  refine X.nil ?_
  cases h
  exact R.finM1 Try.results104 (by rfl) (by rfl) (by repeat (first | exact trivial | refine ⟨by rfl, ?_⟩)) rfl
theorem w_markModeS_k_pc (b0 : List TMode) (b1 : Int) (r : Int) (h : w_markModeS_k b0 b1 = some r) : PCM Try.prog 168 [.ysk 63 (.slice (b0.map eTMode)), int b1] [(63, .yreg true true)] (int r) [(63, .yreg true true)] := by
  unfold w_markModeS_k at h
  refine PCM.start Try.func168 Try.ntmps168 rfl ok168 rfl (by rfl) (by rfl) (by rfl) (by rfl) (by rfl) ?_
  refine Run.seq ?_
  refine Run.reg ?_
  refine X.assign (by rfl) (by rfl) ?_
  refine X.nil ?_
  refine Run.seq ?_
  refine Run.seq ?_
  refine Run.reg ?_
  refine X.assign (by rfl) (by rfl) ?_
  refine X.nil ?_
  obtain ⟨o1, ho1, h⟩ := bindE h
  refine R.join2 (β := Int) [] [(63, .yreg true true)] (fun p15 S => (1, int p15) :: S) (fun p15 M => M) (fun p15 => p15 = o1) ?_ ?_
  · intro JJ4 hmeet3
    have hup2 := h; clear h; have h := ho1; clear ho1
    refine Run.block ?_
    refine R.bndY true 63 (t := 0) (by rfl) (fun hbd7 => ?_)
    replace hbd7 : b0.length ≤ 9223372036854775807 := by first | (rw [List.length_map] at hbd7; exact hbd7) | simp
    refine R.loop2 (β := Int × Int) [(0, .ysk 63 (.slice (b0.map eTMode)))] [(63, .yreg true true)] (fun bb S => (1, int bb.2) :: (5, int bb.1) :: S) (fun bb M => M) (fun n bb => 0 ≤ bb.1 ∧ bb.1 + n = (b0.length : Int) ∧ w_markModeS_k_L1 (b0.drop bb.1.toNat) bb.1 bb.2 = some o1) b0.length (0, b1) (by repeat (first | trivial | refine ⟨by first | rfl | simp [setL], ?_⟩)) (by repeat (first | trivial | refine ⟨by first | rfl | simp [setL], ?_⟩)) (by rfl) (by rfl) ⟨Int.le_refl _, by simp, h⟩ ?_
    clear h
    rintro JJ7 n7 ⟨z8, a9⟩ hag7 ⟨hza7, hzb7, h⟩
    dsimp only at hza7 hzb7 h
    refine Run.seq ?_
    refine Run.seq ?_
    refine Run.reg ?_
    refine X.move (by rfl) (by rfl) ?_
    refine X.move (by rfl) (by rfl) ?_
    refine X.lenY true 63 elt125 (by rfl) (by exact List.length_map ..) (by rfl) ?_
    refine X.bin (by rfl) (by rfl) (by rfl) (by rfl) (by intro h; cases h) (by rfl) ?_
    refine X.nil ?_
    refine R.cond (by rfl) (fun hc12 => ?_) (fun hc12 => ?_)
    · obtain ⟨x10, xs11, hd7, hx7, hds7, hlt7⟩ := drop_atI hza7 hc12
      rw [hd7] at h
      rw [w_markModeS_k_L1] at h
      refine Run.skip ?_
      refine Run.seq ?_
      refine Run.block ?_
      refine Run.seq ?_
      refine Run.reg ?_
      refine X.move (by rfl) (by rfl) ?_
      refine X.move (by rfl) (by rfl) ?_
      refine X.move (by rfl) (by rfl) ?_
      refine X.indexY true 63 elt125 (by rfl) (by rfl) (idxL_spec hx7).1 (idxL_map eTMode hx7) (by rfl) (by rfl) ?_
      refine X.fieldY true 63 fld129_0 (by rfl) (by rfl) ?_
      refine X.storeY 63 shp3 (by rfl) (by rfl) (by rfl) (by rfl) (by rfl) (by rfl) (by rfl) ?_
      refine X.nil ?_
      refine Run.seq ?_
      refine Run.reg ?_
      refine X.move (by rfl) (by rfl) ?_
      refine X.addW (by rfl) (by rfl) (by rfl) ?_
      refine X.assign (by rfl) (by rfl) ?_
      refine X.nil ?_
      refine Run.seq ?_
      refine Run.reg ?_
      refine X.move (by rfl) (by rfl) ?_
      refine X.move (by rfl) (by rfl) ?_
      refine X.indexY true 63 elt125 (by rfl) (by rfl) (idxL_spec hx7).1 (idxL_map eTMode hx7) (by rfl) (by rfl) ?_
      refine X.fieldY true 63 fld129_1 (by rfl) (by rfl) ?_
      refine X.loadY true 63 shp25 (by rfl) (by rfl) (by rfl) (by rfl) ?_
      refine X.move (by rfl) (by rfl) ?_
      obtain ⟨v13, hv13, h⟩ := bindE h
      refine X.callM [(63, 63)] (w_markIntS_k_pc _ _ _ hv13) (by rfl) (by rfl) (.yskB 63 (by rfl) (by rfl) (.pureB (by rfl) (by repeat (first | trivial | refine ⟨by first | rfl | simp [setL], ?_⟩)) .nil)) (by rfl) ⟨rfl, rfl, ⟨_, by rfl, by constructor⟩, by constructor, trivial⟩ (by rfl) (by rfl) (by rfl) (by rfl) (by rfl) (by rfl) (by rfl) (by rfl) (by rfl) ?_
      refine X.assign (by rfl) (by rfl) ?_
      refine X.nil ?_
      refine Run.reg ?_
      refine X.move (by rfl) (by rfl) ?_
      refine X.move (by rfl) (by rfl) ?_
      refine X.indexY true 63 elt125 (by rfl) (by rfl) (idxL_spec hx7).1 (idxL_map eTMode hx7) (by rfl) (by rfl) ?_
      refine X.fieldY true 63 fld129_2 (by rfl) (by rfl) ?_
      refine X.loadY true 63 shp25 (by rfl) (by rfl) (by rfl) (by rfl) ?_
      refine X.move (by rfl) (by rfl) ?_
      obtain ⟨v14, hv14, h⟩ := bindE h
      refine X.callM [(63, 63)] (w_markIntS_k_pc _ _ _ hv14) (by rfl) (by rfl) (.yskB 63 (by rfl) (by rfl) (.pureB (by rfl) (by repeat (first | trivial | refine ⟨by first | rfl | simp [setL], ?_⟩)) .nil)) (by rfl) ⟨rfl, rfl, ⟨_, by rfl, by constructor⟩, by constructor, trivial⟩ (by rfl) (by rfl) (by rfl) (by rfl) (by rfl) (by rfl) (by rfl) (by rfl) (by rfl) ?_
      refine X.assign (by rfl) (by rfl) ?_
      refine X.nil ?_
      refine Run.blk ?_
      refine Run.reg ?_
      refine X.move (by rfl) (by rfl) ?_
      refine X.add (by rfl) (by rfl) (by omega) (by rfl) ?_
      refine X.assign (by rfl) (by rfl) ?_
      refine X.nil ?_
      exact hag7 (n7 - 1) (z8 + 1, v14) _ _ (by omega) ⟨by first | omega | (dsimp only; omega), by first | omega | (dsimp only; omega), by first | (rw [hds7]; exact h) | (dsimp only; rw [hds7]; exact h)⟩ (by trivial) (by trivial) (by rfl) (by rfl)
    · rw [drop_endI hza7 hc12] at h
      rw [w_markModeS_k_L1] at h
      refine Run.exit (by rfl) ?_
      exact hmeet3 a9 _ _ (Option.some.inj h) (by trivial) (by trivial) (by rfl) (by rfl)
  rintro p15 rfl
  refine Run.seq ?_
  refine Run.reg ?_
  refine X.move (by rfl) (by rfl) ?_
  refine X.assign (by rfl) (by rfl) ?_
  refine X.nil ?_
  cases h
  exact R.finM1 Try.results168 (by rfl) (by rfl) (by repeat (first | exact trivial | refine ⟨by rfl, ?_⟩)) rfl
theorem w_markActivityS_k_pc (b0 : List TActivity) (b1 : Int) (r : Int) (h : w_markActivityS_k b0 b1 = some r) : PCM Try.prog 101 [.ysk 63 (.slice (b0.map eTActivity)), int b1] [(63, .yreg true true)] (int r) [(63, .yreg true true)] := by
  unfold w_markActivityS_k at h
  refine PCM.start Try.func101 Try.ntmps101 rfl ok101 rfl (by rfl) (by rfl) (by rfl) (by rfl) (by rfl) ?_
  refine Run.seq ?_
  refine Run.reg ?_
  refine X.assign (by rfl) (by rfl) ?_
  refine X.nil ?_
  refine Run.seq ?_
  refine Run.seq ?_
  refine Run.reg ?_
  refine X.assign (by rfl) (by rfl) ?_
  refine X.nil ?_
  obtain ⟨o1, ho1, h⟩ := bindE h
  refine R.join2 (β := Int) [] [(63, .yreg true true)] (fun p15 S => (1, int p15) :: S) (fun p15 M => M) (fun p15 => p15 = o1) ?_ ?_
  · intro JJ4 hmeet3
    have hup2 := h; clear h; have h := ho1; clear ho1
    refine Run.block ?_
    refine R.bndY true 63 (t := 0) (by rfl) (fun hbd7 => ?_)
    replace hbd7 : b0.length ≤ 9223372036854775807 := by first | (rw [List.length_map] at hbd7; exact hbd7) | simp
    refine R.loop2 (β := Int × Int) [(0, .ysk 63 (.slice (b0.map eTActivity)))] [(63, .yreg true true)] (fun bb S => (1, int bb.2) :: (5, int bb.1) :: S) (fun bb M => M) (fun n bb => 0 ≤ bb.1 ∧ bb.1 + n = (b0.length : Int) ∧ w_markActivityS_k_L1 (b0.drop bb.1.toNat) bb.1 bb.2 = some o1) b0.length (0, b1) (by repeat (first | trivial | refine ⟨by first | rfl | simp [setL], ?_⟩)) (by repeat (first | trivial | refine ⟨by first | rfl | simp [setL], ?_⟩)) (by rfl) (by rfl) ⟨Int.le_refl _, by simp, h⟩ ?_
    clear h
    rintro JJ7 n7 ⟨z8, a9⟩ hag7 ⟨hza7, hzb7, h⟩
    dsimp only at hza7 hzb7 h
    refine Run.seq ?_
    refine Run.seq ?_
    refine Run.reg ?_
    refine X.move (by rfl) (by rfl) ?_
    refine X.move (by rfl) (by rfl) ?_
    refine X.lenY true 63 elt30 (by rfl) (by exact List.length_map ..) (by rfl) ?_
    refine X.bin (by rfl) (by rfl) (by rfl) (by rfl) (by intro h; cases h) (by rfl) ?_
    refine X.nil ?_
    refine R.cond (by rfl) (fun hc12 => ?_) (fun hc12 => ?_)
    · obtain ⟨x10, xs11, hd7, hx7, hds7, hlt7⟩ := drop_atI hza7 hc12
      rw [hd7] at h
      rw [w_markActivityS_k_L1] at h
      refine Run.skip ?_
      refine Run.seq ?_
      refine Run.block ?_
      refine Run.seq ?_
      refine Run.reg ?_
      refine X.move (by rfl) (by rfl) ?_
      refine X.move (by rfl) (by rfl) ?_
      refine X.move (by rfl) (by rfl) ?_
      obtain ⟨v13, hv13, h⟩ := bindE h
      refine X.callP (w_markText_pc _ _ hv13) (by rfl) (by rfl) (by rfl) (by trivial) (by rfl) (by rfl) (by rfl) (by rfl) ?_
      refine X.indexY true 63 elt30 (by rfl) (by rfl) (idxL_spec hx7).1 (idxL_map eTActivity hx7) (by rfl) (by rfl) ?_
      refine X.fieldY true 63 fld127_0 (by rfl) (by rfl) ?_
      refine X.storeY 63 shp9 (by rfl) (by rfl) (by rfl) (by rfl) (by rfl) (by rfl) (by rfl) ?_
      refine X.nil ?_
      refine Run.seq ?_
      refine Run.reg ?_
      refine X.move (by rfl) (by rfl) ?_
      refine X.addW (by rfl) (by rfl) (by rfl) ?_
      refine X.assign (by rfl) (by rfl) ?_
      refine X.nil ?_
      refine Run.seq ?_
      refine Run.reg ?_
      refine X.move (by rfl) (by rfl) ?_
      refine X.move (by rfl) (by rfl) ?_
      refine X.move (by rfl) (by rfl) ?_
      refine X.indexY true 63 elt30 (by rfl) (by rfl) (idxL_spec hx7).1 (idxL_map eTActivity hx7) (by rfl) (by rfl) ?_
      refine X.fieldY true 63 fld127_1 (by rfl) (by rfl) ?_
      refine X.storeY 63 shp3 (by rfl) (by rfl) (by rfl) (by rfl) (by rfl) (by rfl) (by rfl) ?_
      refine X.nil ?_
      refine Run.seq ?_
      refine Run.reg ?_
      refine X.move (by rfl) (by rfl) ?_
      refine X.addW (by rfl) (by rfl) (by rfl) ?_
      refine X.assign (by rfl) (by rfl) ?_
      refine X.nil ?_
      refine Run.reg ?_
      refine X.move (by rfl) (by rfl) ?_
      refine X.move (by rfl) (by rfl) ?_
      refine X.indexY true 63 elt30 (by rfl) (by rfl) (idxL_spec hx7).1 (idxL_map eTActivity hx7) (by rfl) (by rfl) ?_
      refine X.fieldY true 63 fld127_2 (by rfl) (by rfl) ?_
      refine X.loadY true 63 shp125 (by rfl) (by rfl) (by rfl) (by rfl) ?_
      refine X.move (by rfl) (by rfl) ?_
      obtain ⟨v14, hv14, h⟩ := bindE h
      refine X.callM [(63, 63)] (w_markModeS_k_pc _ _ _ hv14) (by rfl) (by rfl) (.yskB 63 (by rfl) (by rfl) (.pureB (by rfl) (by repeat (first | trivial | refine ⟨by first | rfl | simp [setL], ?_⟩)) .nil)) (by rfl) ⟨rfl, rfl, ⟨_, by rfl, by constructor⟩, by constructor, trivial⟩ (by rfl) (by rfl) (by rfl) (by rfl) (by rfl) (by rfl) (by rfl) (by rfl) (by rfl) ?_
      refine X.assign (by rfl) (by rfl) ?_
      refine X.nil ?_
      refine Run.blk ?_
      refine Run.reg ?_
      refine X.move (by rfl) (by rfl) ?_
      refine X.add (by rfl) (by rfl) (by omega) (by rfl) ?_
      refine X.assign (by rfl) (by rfl) ?_
      refine X.nil ?_
      exact hag7 (n7 - 1) (z8 + 1, v14) _ _ (by omega) ⟨by first | omega | (dsimp only; omega), by first | omega | (dsimp only; omega), by first | (rw [hds7]; exact h) | (dsimp only; rw [hds7]; exact h)⟩ (by trivial) (by trivial) (by rfl) (by rfl)
    · rw [drop_endI hza7 hc12] at h
      rw [w_markActivityS_k_L1] at h
      refine Run.exit (by rfl) ?_
      exact hmeet3 a9 _ _ (Option.some.inj h) (by trivial) (by trivial) (by rfl) (by rfl)
  rintro p15 rfl
  refine Run.seq ?_
  refine Run.reg ?_
  refine X.move (by rfl) (by rfl) ?_
  refine X.assign (by rfl) (by rfl) ?_
  refine X.nil ?_
  cases h
  exact R.finM1 Try.results101 (by rfl) (by rfl) (by repeat (first | exact trivial | refine ⟨by rfl, ?_⟩)) rfl
theorem w_markLinkS_k_pc (b0 : List TLink) (b1 : Int) (r : Int) (h : w_markLinkS_k b0 b1 = some r) : PCM Try.prog 102 [.ysk 63 (.slice (b0.map eTLink)), int b1] [(63, .yreg true true)] (int r) [(63, .yreg true true)] := by
  unfold w_markLinkS_k at h
  refine PCM.start Try.func102 Try.ntmps102 rfl ok102 rfl (by rfl) (by rfl) (by rfl) (by rfl) (by rfl) ?_
  refine Run.seq ?_
  refine Run.reg ?_
  refine X.assign (by rfl) (by rfl) ?_
  refine X.nil ?_
  refine Run.seq ?_
  refine Run.seq ?_
  refine Run.reg ?_
  refine X.assign (by rfl) (by rfl) ?_
  refine X.nil ?_
  obtain ⟨o1, ho1, h⟩ := bindE h
  refine R.join2 (β := Int) [] [(63, .yreg true true)] (fun p13 S => (1, int p13) :: S) (fun p13 M => M) (fun p13 => p13 = o1) ?_ ?_
  · intro JJ4 hmeet3
    have hup2 := h; clear h; have h := ho1; clear ho1
    refine Run.block ?_
    refine R.bndY true 63 (t := 0) (by rfl) (fun hbd7 => ?_)
    replace hbd7 : b0.length ≤ 9223372036854775807 := by first | (rw [List.length_map] at hbd7; exact hbd7) | simp
    refine R.loop2 (β := Int × Int) [(0, .ysk 63 (.slice (b0.map eTLink)))] [(63, .yreg true true)] (fun bb S => (1, int bb.2) :: (5, int bb.1) :: S) (fun bb M => M) (fun n bb => 0 ≤ bb.1 ∧ bb.1 + n = (b0.length : Int) ∧ w_markLinkS_k_L1 (b0.drop bb.1.toNat) bb.1 bb.2 = some o1) b0.length (0, b1) (by repeat (first | trivial | refine ⟨by first | rfl | simp [setL], ?_⟩)) (by repeat (first | trivial | refine ⟨by first | rfl | simp [setL], ?_⟩)) (by rfl) (by rfl) ⟨Int.le_refl _, by simp, h⟩ ?_
    clear h
    rintro JJ7 n7 ⟨z8, a9⟩ hag7 ⟨hza7, hzb7, h⟩
    dsimp only at hza7 hzb7 h
    refine Run.seq ?_
    refine Run.seq ?_
    refine Run.reg ?_
    refine X.move (by rfl) (by rfl) ?_
    refine X.move (by rfl) (by rfl) ?_
    refine X.lenY true 63 elt31 (by rfl) (by exact List.length_map ..) (by rfl) ?_
    refine X.bin (by rfl) (by rfl) (by rfl) (by rfl) (by intro h; cases h) (by rfl) ?_
    refine X.nil ?_
    refine R.cond (by rfl) (fun hc12 => ?_) (fun hc12 => ?_)
    · obtain ⟨x10, xs11, hd7, hx7, hds7, hlt7⟩ := drop_atI hza7 hc12
      rw [hd7] at h
      rw [w_markLinkS_k_L1] at h
      refine Run.skip ?_
      refine Run.seq ?_
      refine Run.block ?_
      refine Run.seq ?_
      refine Run.reg ?_
      refine X.move (by rfl) (by rfl) ?_
      refine X.move (by rfl) (by rfl) ?_
      refine X.move (by rfl) (by rfl) ?_
      refine X.indexY true 63 elt31 (by rfl) (by rfl) (idxL_spec hx7).1 (idxL_map eTLink hx7) (by rfl) (by rfl) ?_
      refine X.fieldY true 63 fld174_0 (by rfl) (by rfl) ?_
      refine X.storeY 63 shp3 (by rfl) (by rfl) (by rfl) (by rfl) (by rfl) (by rfl) (by rfl) ?_
      refine X.nil ?_
      refine Run.seq ?_
      refine Run.reg ?_
      refine X.move (by rfl) (by rfl) ?_
      refine X.addW (by rfl) (by rfl) (by rfl) ?_
      refine X.assign (by rfl) (by rfl) ?_
      refine X.nil ?_
      refine Run.seq ?_
      refine Run.reg ?_
      refine X.move (by rfl) (by rfl) ?_
      refine X.move (by rfl) (by rfl) ?_
      refine X.move (by rfl) (by rfl) ?_
      refine X.indexY true 63 elt31 (by rfl) (by rfl) (idxL_spec hx7).1 (idxL_map eTLink hx7) (by rfl) (by rfl) ?_
      refine X.fieldY true 63 fld174_1 (by rfl) (by rfl) ?_
      refine X.storeY 63 shp3 (by rfl) (by rfl) (by rfl) (by rfl) (by rfl) (by rfl) (by rfl) ?_
      refine X.nil ?_
      refine Run.seq ?_
      refine Run.reg ?_
      refine X.move (by rfl) (by rfl) ?_
      refine X.addW (by rfl) (by rfl) (by rfl) ?_
      refine X.assign (by rfl) (by rfl) ?_
      refine X.nil ?_
      refine Run.seq ?_
      refine Run.reg ?_
      refine X.move (by rfl) (by rfl) ?_
      refine X.move (by rfl) (by rfl) ?_
      refine X.move (by rfl) (by rfl) ?_
      refine X.bin (by rfl) (by rfl) (by rfl) (by rfl) (by intro h; cases h) (by rfl) ?_
      refine X.bin (by rfl) (by rfl) (by rfl) (by rfl) (by intro h; cases h) (by rfl) ?_
      refine X.indexY true 63 elt31 (by rfl) (by rfl) (idxL_spec hx7).1 (idxL_map eTLink hx7) (by rfl) (by rfl) ?_
      refine X.fieldY true 63 fld174_2 (by rfl) (by rfl) ?_
      refine X.storeY 63 shp4 (by rfl) (by rfl) (by rfl) (by rfl) (by rfl) (by rfl) (by rfl) ?_
      refine X.nil ?_
      refine Run.seq ?_
      refine Run.reg ?_
      refine X.move (by rfl) (by rfl) ?_
      refine X.addW (by rfl) (by rfl) (by rfl) ?_
      refine X.assign (by rfl) (by rfl) ?_
      refine X.nil ?_
      refine Run.seq ?_
      refine Run.reg ?_
      refine X.move (by rfl) (by rfl) ?_
      refine X.move (by rfl) (by rfl) ?_
      refine X.move (by rfl) (by rfl) ?_
      refine X.indexY true 63 elt31 (by rfl) (by rfl) (idxL_spec hx7).1 (idxL_map eTLink hx7) (by rfl) (by rfl) ?_
      refine X.fieldY true 63 fld174_3 (by rfl) (by rfl) ?_
      refine X.storeY 63 shp3 (by rfl) (by rfl) (by rfl) (by rfl) (by rfl) (by rfl) (by rfl) ?_
      refine X.nil ?_
      refine Run.reg ?_
      refine X.move (by rfl) (by rfl) ?_
      refine X.addW (by rfl) (by rfl) (by rfl) ?_
      refine X.assign (by rfl) (by rfl) ?_
      refine X.nil ?_
      refine Run.blk ?_
      refine Run.reg ?_
      refine X.move (by rfl) (by rfl) ?_
      refine X.add (by rfl) (by rfl) (by omega) (by rfl) ?_
      refine X.assign (by rfl) (by rfl) ?_
      refine X.nil ?_
      exact hag7 (n7 - 1) (z8 + 1, (W ((W ((W ((W (a9 + 1)) + 1)) + 1)) + 1))) _ _ (by omega) ⟨by first | omega | (dsimp only; omega), by first | omega | (dsimp only; omega), by first | (rw [hds7]; exact h) | (dsimp only; rw [hds7]; exact h)⟩ (by trivial) (by trivial) (by rfl) (by rfl)
    · rw [drop_endI hza7 hc12] at h
      rw [w_markLinkS_k_L1] at h
      refine Run.exit (by rfl) ?_
      exact hmeet3 a9 _ _ (Option.some.inj h) (by trivial) (by trivial) (by rfl) (by rfl)
  rintro p13 rfl
  refine Run.seq ?_
  refine Run.reg ?_
  refine X.move (by rfl) (by rfl) ?_
  refine X.assign (by rfl) (by rfl) ?_
  refine X.nil ?_
  cases h
  exact R.finM1 Try.results102 (by rfl) (by rfl) (by repeat (first | exact trivial | refine ⟨by rfl, ?_⟩)) rfl
theorem w_markStepS_k_pc (b0 : List TStep) (b1 : Int) (r : Int) (h : w_markStepS_k b0 b1 = some r) : PCM Try.prog 169 [.ysk 63 (.slice (b0.map eTStep)), int b1] [(63, .yreg true true)] (int r) [(63, .yreg true true)] := by
  unfold w_markStepS_k at h
  refine PCM.start Try.func169 Try.ntmps169 rfl ok169 rfl (by rfl) (by rfl) (by rfl) (by rfl) (by rfl) ?_
  refine Run.seq ?_
  refine Run.reg ?_
  refine X.assign (by rfl) (by rfl) ?_
  refine X.nil ?_
  refine Run.seq ?_
  refine Run.seq ?_
  refine Run.reg ?_
  refine X.assign (by rfl) (by rfl) ?_
  refine X.nil ?_
  obtain ⟨o1, ho1, h⟩ := bindE h
  refine R.join2 (β := Int) [] [(63, .yreg true true)] (fun p13 S => (1, int p13) :: S) (fun p13 M => M) (fun p13 => p13 = o1) ?_ ?_
  · intro JJ4 hmeet3
    have hup2 := h; clear h; have h := ho1; clear ho1
    refine Run.block ?_
    refine R.bndY true 63 (t := 0) (by rfl) (fun hbd7 => ?_)
    replace hbd7 : b0.length ≤ 9223372036854775807 := by first | (rw [List.length_map] at hbd7; exact hbd7) | simp
    refine R.loop2 (β := Int × Int) [(0, .ysk 63 (.slice (b0.map eTStep)))] [(63, .yreg true true)] (fun bb S => (1, int bb.2) :: (5, int bb.1) :: S) (fun bb M => M) (fun n bb => 0 ≤ bb.1 ∧ bb.1 + n = (b0.length : Int) ∧ w_markStepS_k_L1 (b0.drop bb.1.toNat) bb.1 bb.2 = some o1) b0.length (0, b1) (by repeat (first | trivial | refine ⟨by first | rfl | simp [setL], ?_⟩)) (by repeat (first | trivial | refine ⟨by first | rfl | simp [setL], ?_⟩)) (by rfl) (by rfl) ⟨Int.le_refl _, by simp, h⟩ ?_
    clear h
    rintro JJ7 n7 ⟨z8, a9⟩ hag7 ⟨hza7, hzb7, h⟩
    dsimp only at hza7 hzb7 h
    refine Run.seq ?_
    refine Run.seq ?_
    refine Run.reg ?_
    refine X.move (by rfl) (by rfl) ?_
    refine X.move (by rfl) (by rfl) ?_
    refine X.lenY true 63 elt113 (by rfl) (by exact List.length_map ..) (by rfl) ?_
    refine X.bin (by rfl) (by rfl) (by rfl) (by rfl) (by intro h; cases h) (by rfl) ?_
    refine X.nil ?_
    refine R.cond (by rfl) (fun hc12 => ?_) (fun hc12 => ?_)
    · obtain ⟨x10, xs11, hd7, hx7, hds7, hlt7⟩ := drop_atI hza7 hc12
      rw [hd7] at h
      rw [w_markStepS_k_L1] at h
      refine Run.skip ?_
      refine Run.seq ?_
      refine Run.block ?_
      refine Run.seq ?_
      refine Run.reg ?_
      refine X.move (by rfl) (by rfl) ?_
      refine X.move (by rfl) (by rfl) ?_
      refine X.move (by rfl) (by rfl) ?_
      refine X.indexY true 63 elt113 (by rfl) (by rfl) (idxL_spec hx7).1 (idxL_map eTStep hx7) (by rfl) (by rfl) ?_
      refine X.fieldY true 63 fld208_0 (by rfl) (by rfl) ?_
      refine X.storeY 63 shp3 (by rfl) (by rfl) (by rfl) (by rfl) (by rfl) (by rfl) (by rfl) ?_
      refine X.nil ?_
      refine Run.seq ?_
      refine Run.reg ?_
      refine X.move (by rfl) (by rfl) ?_
      refine X.addW (by rfl) (by rfl) (by rfl) ?_
      refine X.assign (by rfl) (by rfl) ?_
      refine X.nil ?_
      refine Run.seq ?_
      refine Run.reg ?_
      refine X.move (by rfl) (by rfl) ?_
      refine X.move (by rfl) (by rfl) ?_
      refine X.move (by rfl) (by rfl) ?_
      refine X.indexY true 63 elt113 (by rfl) (by rfl) (idxL_spec hx7).1 (idxL_map eTStep hx7) (by rfl) (by rfl) ?_
      refine X.fieldY true 63 fld208_1 (by rfl) (by rfl) ?_
      refine X.storeY 63 shp3 (by rfl) (by rfl) (by rfl) (by rfl) (by rfl) (by rfl) (by rfl) ?_
      refine X.nil ?_
      refine Run.reg ?_
      refine X.move (by rfl) (by rfl) ?_
      refine X.addW (by rfl) (by rfl) (by rfl) ?_
      refine X.assign (by rfl) (by rfl) ?_
      refine X.nil ?_
      refine Run.blk ?_
      refine Run.reg ?_
      refine X.move (by rfl) (by rfl) ?_
      refine X.add (by rfl) (by rfl) (by omega) (by rfl) ?_
      refine X.assign (by rfl) (by rfl) ?_
      refine X.nil ?_
      exact hag7 (n7 - 1) (z8 + 1, (W ((W (a9 + 1)) + 1))) _ _ (by omega) ⟨by first | omega | (dsimp only; omega), by first | omega | (dsimp only; omega), by first | (rw [hds7]; exact h) | (dsimp only; rw [hds7]; exact h)⟩ (by trivial) (by trivial) (by rfl) (by rfl)
    · rw [drop_endI hza7 hc12] at h
      rw [w_markStepS_k_L1] at h
      refine Run.exit (by rfl) ?_
      exact hmeet3 a9 _ _ (Option.some.inj h) (by trivial) (by trivial) (by rfl) (by rfl)
  rintro p13 rfl
  refine Run.seq ?_
  refine Run.reg ?_
  refine X.move (by rfl) (by rfl) ?_
  refine X.assign (by rfl) (by rfl) ?_
  refine X.nil ?_
  cases h
  exact R.finM1 Try.results169 (by rfl) (by rfl) (by repeat (first | exact trivial | refine ⟨by rfl, ?_⟩)) rfl
theorem w_markIntSS_k_pc (b0 : List (List Int)) (b1 : Int) (r : Int) (h : w_markIntSS_k b0 b1 = some r) : PCM Try.prog 170 [.ysk 63 (.slice (b0.map l_int)), int b1] [(63, .yreg true true)] (int r) [(63, .yreg true true)] := by
  unfold w_markIntSS_k at h
  refine PCM.start Try.func170 Try.ntmps170 rfl ok170 rfl (by rfl) (by rfl) (by rfl) (by rfl) (by rfl) ?_
  refine Run.seq ?_
  refine Run.reg ?_
  refine X.assign (by rfl) (by rfl) ?_
  refine X.nil ?_
  refine Run.seq ?_
  refine Run.seq ?_
  refine Run.reg ?_
  refine X.assign (by rfl) (by rfl) ?_
  refine X.nil ?_
  obtain ⟨o1, ho1, h⟩ := bindE h
  refine R.join2 (β := Int) [] [(63, .yreg true true)] (fun p14 S => (1, int p14) :: S) (fun p14 M => M) (fun p14 => p14 = o1) ?_ ?_
  · intro JJ4 hmeet3
    have hup2 := h; clear h; have h := ho1; clear ho1
    refine Run.block ?_
    refine R.bndY true 63 (t := 0) (by rfl) (fun hbd7 => ?_)
    replace hbd7 : b0.length ≤ 9223372036854775807 := by first | (rw [List.length_map] at hbd7; exact hbd7) | simp
    refine R.loop2 (β := Int × Int) [(0, .ysk 63 (.slice (b0.map l_int)))] [(63, .yreg true true)] (fun bb S => (1, int bb.2) :: (5, int bb.1) :: S) (fun bb M => M) (fun n bb => 0 ≤ bb.1 ∧ bb.1 + n = (b0.length : Int) ∧ w_markIntSS_k_L1 (b0.drop bb.1.toNat) bb.1 bb.2 = some o1) b0.length (0, b1) (by repeat (first | trivial | refine ⟨by first | rfl | simp [setL], ?_⟩)) (by repeat (first | trivial | refine ⟨by first | rfl | simp [setL], ?_⟩)) (by rfl) (by rfl) ⟨Int.le_refl _, by simp, h⟩ ?_
    clear h
    rintro JJ7 n7 ⟨z8, a9⟩ hag7 ⟨hza7, hzb7, h⟩
    dsimp only at hza7 hzb7 h
    refine Run.seq ?_
    refine Run.seq ?_
    refine Run.reg ?_
    refine X.move (by rfl) (by rfl) ?_
    refine X.move (by rfl) (by rfl) ?_
    refine X.lenY true 63 elt63 (by rfl) (by exact List.length_map ..) (by rfl) ?_
    refine X.bin (by rfl) (by rfl) (by rfl) (by rfl) (by intro h; cases h) (by rfl) ?_
    refine X.nil ?_
    refine R.cond (by rfl) (fun hc12 => ?_) (fun hc12 => ?_)
    · obtain ⟨x10, xs11, hd7, hx7, hds7, hlt7⟩ := drop_atI hza7 hc12
      rw [hd7] at h
      rw [w_markIntSS_k_L1] at h
      refine Run.skip ?_
      refine Run.seq ?_
      refine Run.block ?_
      refine Run.reg ?_
      refine X.move (by rfl) (by rfl) ?_
      refine X.move (by rfl) (by rfl) ?_
      refine X.indexY true 63 elt63 (by rfl) (by rfl) (idxL_spec hx7).1 (idxL_map l_int hx7) (by rfl) (by rfl) ?_
      refine X.loadY true 63 shp25 (by rfl) (by rfl) (by rfl) (by rfl) ?_
      refine X.move (by rfl) (by rfl) ?_
      obtain ⟨v13, hv13, h⟩ := bindE h
      refine X.callM [(63, 63)] (w_markIntS_k_pc _ _ _ hv13) (by rfl) (by rfl) (.yskB 63 (by rfl) (by rfl) (.pureB (by rfl) (by repeat (first | trivial | refine ⟨by first | rfl | simp [setL], ?_⟩)) .nil)) (by rfl) ⟨rfl, rfl, ⟨_, by rfl, by constructor⟩, by constructor, trivial⟩ (by rfl) (by rfl) (by rfl) (by rfl) (by rfl) (by rfl) (by rfl) (by rfl) (by rfl) ?_
      refine X.assign (by rfl) (by rfl) ?_
      refine X.nil ?_
      refine Run.blk ?_
      refine Run.reg ?_
      refine X.move (by rfl) (by rfl) ?_
      refine X.add (by rfl) (by rfl) (by omega) (by rfl) ?_
      refine X.assign (by rfl) (by rfl) ?_
      refine X.nil ?_
      exact hag7 (n7 - 1) (z8 + 1, v13) _ _ (by omega) ⟨by first | omega | (dsimp only; omega), by first | omega | (dsimp only; omega), by first | (rw [hds7]; exact h) | (dsimp only; rw [hds7]; exact h)⟩ (by trivial) (by trivial) (by rfl) (by rfl)
    · rw [drop_endI hza7 hc12] at h
      rw [w_markIntSS_k_L1] at h
      refine Run.exit (by rfl) ?_
      exact hmeet3 a9 _ _ (Option.some.inj h) (by trivial) (by trivial) (by rfl) (by rfl)
  rintro p14 rfl
  refine Run.seq ?_
  refine Run.reg ?_
  refine X.move (by rfl) (by rfl) ?_
  refine X.assign (by rfl) (by rfl) ?_
  refine X.nil ?_
  cases h
  exact R.finM1 Try.results170 (by rfl) (by rfl) (by repeat (first | exact trivial | refine ⟨by rfl, ?_⟩)) rfl
theorem w_markResourceS_k_pc (b0 : List TResource) (b1 : Int) (r : Int) (h : w_markResourceS_k b0 b1 = some r) : PCM Try.prog 103 [.ysk 63 (.slice (b0.map eTResource)), int b1] [(63, .yreg true true)] (int r) [(63, .yreg true true)] := by
  unfold w_markResourceS_k at h
  refine PCM.start Try.func103 Try.ntmps103 rfl ok103 rfl (by rfl) (by rfl) (by rfl) (by rfl) (by rfl) ?_
  refine Run.seq ?_
  refine Run.reg ?_
  refine X.assign (by rfl) (by rfl) ?_
  refine X.nil ?_
  refine Run.seq ?_
  refine Run.seq ?_
  refine Run.reg ?_
  refine X.assign (by rfl) (by rfl) ?_
  refine X.nil ?_
  obtain ⟨o1, ho1, h⟩ := bindE h
  refine R.join2 (β := Int) [] [(63, .yreg true true)] (fun p15 S => (1, int p15) :: S) (fun p15 M => M) (fun p15 => p15 = o1) ?_ ?_
  · intro JJ4 hmeet3
    have hup2 := h; clear h; have h := ho1; clear ho1
    refine Run.block ?_
    refine R.bndY true 63 (t := 0) (by rfl) (fun hbd7 => ?_)
    replace hbd7 : b0.length ≤ 9223372036854775807 := by first | (rw [List.length_map] at hbd7; exact hbd7) | simp
    refine R.loop2 (β := Int × Int) [(0, .ysk 63 (.slice (b0.map eTResource)))] [(63, .yreg true true)] (fun bb S => (1, int bb.2) :: (5, int bb.1) :: S) (fun bb M => M) (fun n bb => 0 ≤ bb.1 ∧ bb.1 + n = (b0.length : Int) ∧ w_markResourceS_k_L1 (b0.drop bb.1.toNat) bb.1 bb.2 = some o1) b0.length (0, b1) (by repeat (first | trivial | refine ⟨by first | rfl | simp [setL], ?_⟩)) (by repeat (first | trivial | refine ⟨by first | rfl | simp [setL], ?_⟩)) (by rfl) (by rfl) ⟨Int.le_refl _, by simp, h⟩ ?_
    clear h
    rintro JJ7 n7 ⟨z8, a9⟩ hag7 ⟨hza7, hzb7, h⟩
    dsimp only at hza7 hzb7 h
    refine Run.seq ?_
    refine Run.seq ?_
    refine Run.reg ?_
    refine X.move (by rfl) (by rfl) ?_
    refine X.move (by rfl) (by rfl) ?_
    refine X.lenY true 63 elt32 (by rfl) (by exact List.length_map ..) (by rfl) ?_
    refine X.bin (by rfl) (by rfl) (by rfl) (by rfl) (by intro h; cases h) (by rfl) ?_
    refine X.nil ?_
    refine R.cond (by rfl) (fun hc12 => ?_) (fun hc12 => ?_)
    · obtain ⟨x10, xs11, hd7, hx7, hds7, hlt7⟩ := drop_atI hza7 hc12
      rw [hd7] at h
      rw [w_markResourceS_k_L1] at h
      refine Run.skip ?_
      refine Run.seq ?_
      refine Run.block ?_
      refine Run.seq ?_
      refine Run.reg ?_
      refine X.move (by rfl) (by rfl) ?_
      refine X.move (by rfl) (by rfl) ?_
      refine X.indexY true 63 elt32 (by rfl) (by rfl) (idxL_spec hx7).1 (idxL_map eTResource hx7) (by rfl) (by rfl) ?_
      refine X.fieldY true 63 fld115_0 (by rfl) (by rfl) ?_
      refine X.loadY true 63 shp113 (by rfl) (by rfl) (by rfl) (by rfl) ?_
      refine X.move (by rfl) (by rfl) ?_
      obtain ⟨v13, hv13, h⟩ := bindE h
      refine X.callM [(63, 63)] (w_markStepS_k_pc _ _ _ hv13) (by rfl) (by rfl) (.yskB 63 (by rfl) (by rfl) (.pureB (by rfl) (by repeat (first | trivial | refine ⟨by first | rfl | simp [setL], ?_⟩)) .nil)) (by rfl) ⟨rfl, rfl, ⟨_, by rfl, by constructor⟩, by constructor, trivial⟩ (by rfl) (by rfl) (by rfl) (by rfl) (by rfl) (by rfl) (by rfl) (by rfl) (by rfl) ?_
      refine X.assign (by rfl) (by rfl) ?_
      refine X.nil ?_
      refine Run.reg ?_
      refine X.move (by rfl) (by rfl) ?_
      refine X.move (by rfl) (by rfl) ?_
      refine X.indexY true 63 elt32 (by rfl) (by rfl) (idxL_spec hx7).1 (idxL_map eTResource hx7) (by rfl) (by rfl) ?_
      refine X.fieldY true 63 fld115_1 (by rfl) (by rfl) ?_
      refine X.loadY true 63 shp63 (by rfl) (by rfl) (by rfl) (by rfl) ?_
      refine X.move (by rfl) (by rfl) ?_
      obtain ⟨v14, hv14, h⟩ := bindE h
      refine X.callM [(63, 63)] (w_markIntSS_k_pc _ _ _ hv14) (by rfl) (by rfl) (.yskB 63 (by rfl) (by rfl) (.pureB (by rfl) (by repeat (first | trivial | refine ⟨by first | rfl | simp [setL], ?_⟩)) .nil)) (by rfl) ⟨rfl, rfl, ⟨_, by rfl, by constructor⟩, by constructor, trivial⟩ (by rfl) (by rfl) (by rfl) (by rfl) (by rfl) (by rfl) (by rfl) (by rfl) (by rfl) ?_
      refine X.assign (by rfl) (by rfl) ?_
      refine X.nil ?_
      refine Run.blk ?_
      refine Run.reg ?_
      refine X.move (by rfl) (by rfl) ?_
      refine X.add (by rfl) (by rfl) (by omega) (by rfl) ?_
      refine X.assign (by rfl) (by rfl) ?_
      refine X.nil ?_
      exact hag7 (n7 - 1) (z8 + 1, v14) _ _ (by omega) ⟨by first | omega | (dsimp only; omega), by first | omega | (dsimp only; omega), by first | (rw [hds7]; exact h) | (dsimp only; rw [hds7]; exact h)⟩ (by trivial) (by trivial) (by rfl) (by rfl)
    · rw [drop_endI hza7 hc12] at h
      rw [w_markResourceS_k_L1] at h
      refine Run.exit (by rfl) ?_
      exact hmeet3 a9 _ _ (Option.some.inj h) (by trivial) (by trivial) (by rfl) (by rfl)
  rintro p15 rfl
  refine Run.seq ?_
  refine Run.reg ?_
  refine X.move (by rfl) (by rfl) ?_
  refine X.assign (by rfl) (by rfl) ?_
  refine X.nil ?_
  cases h
  exact R.finM1 Try.results103 (by rfl) (by rfl) (by repeat (first | exact trivial | refine ⟨by rfl, ?_⟩)) rfl
theorem w_markProject_k_pc (b0 : TProject) (b1 : Int) (r : Int) (h : w_markProject_k b0 b1 = some r) : PCM Try.prog 35 [.agg [int b0.Deadline, .ysk 63 (.slice (b0.Activities.map eTActivity)), .ysk 63 (.slice (b0.Links.map eTLink)), .ysk 63 (.slice (b0.Resources.map eTResource)), .ysk 63 (.slice (b0.Stocks.map int))], int b1] [(63, .yreg true true)] (int r) [(63, .yreg true true)] := by
  unfold w_markProject_k at h
  refine PCM.start Try.func35 Try.ntmps35 rfl ok35 rfl (by rfl) (by rfl) (by rfl) (by rfl) (by rfl) ?_
  refine Run.seq ?_
  refine Run.reg ?_
  refine X.box (by rfl) (by rfl) (by repeat (first | trivial | refine ⟨by first | rfl | simp [setL], ?_⟩)) (by rfl) (by rfl) (by rfl) (by rfl) ?_
  refine X.assign (by rfl) (by rfl) ?_
  refine X.nil ?_
  refine Run.seq ?_
  refine Run.reg ?_
  refine X.fieldAddr_l fld34_1 (by rfl) (by rfl) ?_
  refine X.load_l shp30 (by rfl) (by rfl) (by rfl) (by rfl) (by rfl) (by rfl) ?_
  refine X.move (by rfl) (by rfl) ?_
  obtain ⟨v1, hv1, h⟩ := bindE h
  refine X.callM [(63, 63)] (w_markActivityS_k_pc _ _ _ hv1) (by rfl) (by rfl) (.yskB 63 (by rfl) (by rfl) (.pureB (by rfl) (by repeat (first | trivial | refine ⟨by first | rfl | simp [setL], ?_⟩)) .nil)) (by rfl) ⟨rfl, rfl, ⟨_, by rfl, by constructor⟩, by constructor, trivial⟩ (by rfl) (by rfl) (by rfl) (by rfl) (by rfl) (by rfl) (by rfl) (by rfl) (by rfl) ?_
  refine X.assign (by rfl) (by rfl) ?_
  refine X.nil ?_
  refine Run.seq ?_
  refine Run.reg ?_
  refine X.fieldAddr_l fld34_2 (by rfl) (by rfl) ?_
  refine X.load_l shp31 (by rfl) (by rfl) (by rfl) (by rfl) (by rfl) (by rfl) ?_
  refine X.move (by rfl) (by rfl) ?_
  obtain ⟨v2, hv2, h⟩ := bindE h
  refine X.callM [(63, 63)] (w_markLinkS_k_pc _ _ _ hv2) (by rfl) (by rfl) (.yskB 63 (by rfl) (by rfl) (.pureB (by rfl) (by repeat (first | trivial | refine ⟨by first | rfl | simp [setL], ?_⟩)) .nil)) (by rfl) ⟨rfl, rfl, ⟨_, by rfl, by constructor⟩, by constructor, trivial⟩ (by rfl) (by rfl) (by rfl) (by rfl) (by rfl) (by rfl) (by rfl) (by rfl) (by rfl) ?_
  refine X.assign (by rfl) (by rfl) ?_
  refine X.nil ?_
  refine Run.seq ?_
  refine Run.reg ?_
  refine X.fieldAddr_l fld34_3 (by rfl) (by rfl) ?_
  refine X.load_l shp32 (by rfl) (by rfl) (by rfl) (by rfl) (by rfl) (by rfl) ?_
  refine X.move (by rfl) (by rfl) ?_
  obtain ⟨v3, hv3, h⟩ := bindE h
  refine X.callM [(63, 63)] (w_markResourceS_k_pc _ _ _ hv3) (by rfl) (by rfl) (.yskB 63 (by rfl) (by rfl) (.pureB (by rfl) (by repeat (first | trivial | refine ⟨by first | rfl | simp [setL], ?_⟩)) .nil)) (by rfl) ⟨rfl, rfl, ⟨_, by rfl, by constructor⟩, by constructor, trivial⟩ (by rfl) (by rfl) (by rfl) (by rfl) (by rfl) (by rfl) (by rfl) (by rfl) (by rfl) ?_
  refine X.assign (by rfl) (by rfl) ?_
  refine X.nil ?_
  refine Run.seq ?_
  refine Run.reg ?_
  refine X.fieldAddr_l fld34_4 (by rfl) (by rfl) ?_
  refine X.load_l shp25 (by rfl) (by rfl) (by rfl) (by rfl) (by rfl) (by rfl) ?_
  refine X.move (by rfl) (by rfl) ?_
  obtain ⟨v4, hv4, h⟩ := bindE h
  refine X.callM [(63, 63)] (w_markIntS_k_pc _ _ _ hv4) (by rfl) (by rfl) (.yskB 63 (by rfl) (by rfl) (.pureB (by rfl) (by repeat (first | trivial | refine ⟨by first | rfl | simp [setL], ?_⟩)) .nil)) (by rfl) ⟨rfl, rfl, ⟨_, by rfl, by constructor⟩, by constructor, trivial⟩ (by rfl) (by rfl) (by rfl) (by rfl) (by rfl) (by rfl) (by rfl) (by rfl) (by rfl) ?_
  refine X.assign (by rfl) (by rfl) ?_
  refine X.nil ?_
  refine Run.seq ?_
  refine Run.reg ?_
  refine X.move (by rfl) (by rfl) ?_
  refine X.assign (by rfl) (by rfl) ?_
  refine X.nil ?_
  cases h
  exact R.finM1 Try.results35 (by rfl) (by rfl) (by repeat (first | exact trivial | refine ⟨by rfl, ?_⟩)) rfl
theorem w_markIntS_L1_len : ∀ (fuel : Nat) (k i : Int) (l : List Int) (r : Int × (List Int)), w_markIntS_L1 fuel k i l = some r → r.2.length = l.length
  | 0, _, _, _, _, h => by cases h
  | fuel + 1, k, i, l, r, h => by
    rw [w_markIntS_L1] at h
    cases hc : decide (i < (l.length : Int)) <;> rw [hc] at h <;> simp only [cond_true, cond_false] at h
    · obtain rfl := Option.some.inj h; rfl
    · obtain ⟨_, _, h⟩ := Option.bind_eq_some_iff.1 h
      have := w_markIntS_L1_len _ _ _ _ _ h
      simpa [setL] using this
theorem w_markIntS_len {b0 : List Int} {b1 : Int} {r : Int × (List Int)} (h : w_markIntS b0 b1 = some r) : r.2.length = b0.length := by
  unfold w_markIntS at h
  obtain ⟨p, hp, h⟩ := Option.bind_eq_some_iff.1 h
  obtain rfl := Option.some.inj h
  exact w_markIntS_L1_len _ _ _ _ _ hp
theorem w_markIntS_pc (b0 : List Int) (b1 : Int) (r : Int × (List Int)) (h : w_markIntS b0 b1 = some r) : PCM Try.prog 104 [.own 63 (b0.map int).length, int b1] [(63, .obj true 3 1 (b0.map int))] (int r.1) [(63, .obj true 3 1 (r.2.map int))] := by
  unfold w_markIntS at h
  refine PCM.start Try.func104 Try.ntmps104 rfl ok104 rfl (by rfl) (by rfl) (by rfl) (by rfl) (by rfl) ?_
  refine Run.seq ?_
  refine Run.reg ?_
  refine X.assign (by rfl) (by rfl) ?_
  refine X.nil ?_
  refine Run.seq ?_
  refine Run.seq ?_
  refine Run.reg ?_
  refine X.assign (by rfl) (by rfl) ?_
  refine X.nil ?_
  obtain ⟨o1, ho1, h⟩ := bindE h
  refine R.join2 (β := Int × (List Int)) [] [] (fun p14 S => (1, int p14.1) :: S) (fun p14 M => (63, .obj true 3 1 (p14.2.map int)) :: M) (fun p14 => p14 = o1) ?_ ?_
  · intro JJ4 hmeet3
    have hup2 := h; clear h; have h := ho1; clear ho1
    refine Run.block ?_
    refine R.loop2 (β := Int × Int × (List Int)) [] [] (fun bb S => (0, .own 63 (bb.2.2.map int).length) :: (1, int bb.1) :: (5, int bb.2.1) :: S) (fun bb M => (63, .obj true 3 1 (bb.2.2.map int)) :: M) (fun n bb => w_markIntS_L1 n bb.1 bb.2.1 bb.2.2 = some o1) F0 (b1, 0, b0) (by repeat (first | trivial | refine ⟨by first | rfl | simp [setL], ?_⟩)) (by repeat (first | trivial | refine ⟨by first | rfl | simp [setL], ?_⟩)) (by rfl) (by rfl) h ?_
    clear h
    rintro JJ5 n5 ⟨a7, a8, a9⟩ hag5 h
    dsimp only at h
    obtain _ | n5 := n5
    · exact absurd h (by simp [w_markIntS_L1])
    rw [w_markIntS_L1] at h
    refine Run.seq ?_
    refine Run.seq ?_
    refine Run.reg ?_
    refine X.move (by rfl) (by rfl) ?_
    refine X.move (by rfl) (by rfl) ?_
    refine X.len_o elt25 (by rfl) (by rfl) (by first | rfl | simp [setL] | omega) (by first | exact List.length_map .. | rfl) (by rfl) (by rfl) ?_
    refine X.bin (by rfl) (by rfl) (by rfl) (by rfl) (by intro h; cases h) (by rfl) ?_
    refine X.nil ?_
    refine R.cond (by rfl) (fun hc12 => ?_) (fun hc12 => ?_)
    · replace h := condT hc12 h
      refine Run.skip ?_
      refine Run.seq ?_
      refine Run.block ?_
      refine Run.seq ?_
      refine Run.reg ?_
      refine X.move (by rfl) (by rfl) ?_
      refine X.move (by rfl) (by rfl) ?_
      refine X.move (by rfl) (by rfl) ?_
      obtain ⟨v13, hv13, h⟩ := bindE h
      refine X.index_xs elt25 (by rfl) (by rfl) (by first | rfl | simp [setL] | omega) (by rfl) (by exact (Int.toNat_of_nonneg (idxL_spec hv13).1).symm) (by have := idxL_lt hv13; simpa using this) (by rfl) (by rfl) ?_
      refine X.store_es shp3 (by rfl) (by rfl) (by first | rfl | simp [setL] | omega) (idxL_map _ hv13) (by rfl) (by rfl) (by repeat (first | trivial | refine ⟨by first | rfl | simp [setL], ?_⟩)) (by rfl) (by rfl) (by rfl) (by rfl) (by exact setL_map _ _ _ a7) ?_
      refine X.nil ?_
      refine Run.reg ?_
      refine X.move (by rfl) (by rfl) ?_
      refine X.addW (by rfl) (by rfl) (by rfl) ?_
      refine X.assign (by rfl) (by rfl) ?_
      refine X.nil ?_
      refine Run.blk ?_
      refine Run.reg ?_
      refine X.move (by rfl) (by rfl) ?_
      refine X.addW (by rfl) (by rfl) (by rfl) ?_
      refine X.assign (by rfl) (by rfl) ?_
      refine X.nil ?_
      refine R.castS (t := 0) (.own 63 ((setL a9 a8 a7).map int).length) (by rfl) (.inl (by first | rfl | simp [setL])) ?_
      exact hag5 n5 ((W (a7 + 1)), (W (a8 + 1)), (setL a9 a8 a7)) _ _ (by omega) h (by repeat (first | trivial | refine ⟨by first | rfl | simp [setL], ?_⟩)) (by repeat (first | trivial | refine ⟨by first | rfl | simp [setL], ?_⟩)) (by rfl) (by rfl)
    · replace h := condF hc12 h
      refine Run.exit (by rfl) ?_
      exact hmeet3 (a7, a9) _ _ (Option.some.inj h) (by repeat (first | trivial | refine ⟨by first | rfl | simp [setL], ?_⟩)) (by repeat (first | trivial | refine ⟨by first | rfl | simp [setL], ?_⟩)) (by rfl) (by rfl)
  rintro p14 rfl
  refine Run.seq ?_
  refine Run.reg ?_
  refine X.move (by rfl) (by rfl) ?_
  refine X.assign (by rfl) (by rfl) ?_
  refine X.nil ?_
  cases h
  exact R.finM1 Try.results104 (by rfl) (by rfl) (by repeat (first | exact trivial | refine ⟨by rfl, ?_⟩)) rfl
theorem w_markSchedule_len {b0 : TSchedule} {b1 : Int} {r : Int × (List Int) × (List Int)} (h : w_markSchedule b0 b1 = some r) : r.2.1.length = b0.Starts.length ∧ r.2.2.length = b0.Modes.length := by
  unfold w_markSchedule at h
  obtain ⟨v0, h0, h⟩ := Option.bind_eq_some_iff.1 h
  have l0 := w_markIntS_len h0
  obtain ⟨v1, h1, h⟩ := Option.bind_eq_some_iff.1 h
  have l1 := w_markIntS_len h1
  obtain rfl := Option.some.inj h
  simp [l0, l1]
theorem w_markSchedule_pc (b0 : TSchedule) (b1 : Int) (r : Int × (List Int) × (List Int)) (h : w_markSchedule b0 b1 = some r) : PCM Try.prog 105 [.agg [.own 6463 (b0.Starts.map int).length, .own 6527 (b0.Modes.map int).length], int b1] [(6463, .obj true 3 1 (b0.Starts.map int)), (6527, .obj true 3 1 (b0.Modes.map int))] (int r.1) [(6463, .obj true 3 1 (r.2.1.map int)), (6527, .obj true 3 1 (r.2.2.map int))] := by
  unfold w_markSchedule at h
  refine PCM.start Try.func105 Try.ntmps105 rfl ok105 rfl (by rfl) (by rfl) (by rfl) (by rfl) (by rfl) ?_
  refine Run.seq ?_
  refine Run.reg ?_
  refine X.box (by rfl) (by rfl) (by repeat (first | trivial | refine ⟨by first | rfl | simp [setL], ?_⟩)) (by rfl) (by rfl) (by rfl) (by rfl) ?_
  refine X.assign (by rfl) (by rfl) ?_
  refine X.nil ?_
  refine Run.seq ?_
  refine Run.reg ?_
  refine X.fieldAddr_l fld53_0 (by rfl) (by rfl) ?_
  refine X.load_l shp25 (by rfl) (by rfl) (by rfl) (by rfl) (by rfl) (by rfl) ?_
  refine X.move (by rfl) (by rfl) ?_
  obtain ⟨v1, hv1, h⟩ := bindE h
  refine X.callR [(63, 6463)] [(6463, (b0.Starts.map int).length)] [(6463, (v1.2.map int).length)] (w_markIntS_pc _ _ _ hv1) (by rfl) (by rfl) (.ownB 63 (by rfl) (by first | rfl | simp [setL] | omega) (by rfl) (.pureB (by rfl) (by repeat (first | trivial | refine ⟨by first | rfl | simp [setL], ?_⟩)) .nil)) (by rfl) ⟨rfl, rfl, ⟨_, by rfl, by constructor⟩, by constructor, trivial⟩ (by rfl) (by rfl) (by rfl) (by rfl) ⟨rfl, ⟨_, _, _, _, by rfl, by rfl⟩, ⟨_, _, _, _, by rfl, by rfl⟩, trivial⟩ (by rfl) (by repeat (first | trivial | refine ⟨by first | rfl | simp [setL], ?_⟩)) (by rfl) (by rfl) (by rfl) (by rfl) (by rfl) ?_
  have hlv1 := w_markIntS_len hv1
  refine X.relM [(6463, (v1.2.map int).length)] (by repeat (first | trivial | refine ⟨by first | rfl | simp [setL, hlv1], ?_⟩)) (by rfl) ?_
  refine X.assign (by rfl) (by rfl) ?_
  refine X.nil ?_
  refine Run.seq ?_
  refine Run.reg ?_
  refine X.fieldAddr_l fld53_1 (by rfl) (by rfl) ?_
  refine X.load_l shp25 (by rfl) (by rfl) (by rfl) (by rfl) (by rfl) (by rfl) ?_
  refine X.move (by rfl) (by rfl) ?_
  obtain ⟨v2, hv2, h⟩ := bindE h
  refine X.callR [(63, 6527)] [(6527, (b0.Modes.map int).length)] [(6527, (v2.2.map int).length)] (w_markIntS_pc _ _ _ hv2) (by rfl) (by rfl) (.ownB 63 (by rfl) (by first | rfl | simp [setL] | omega) (by rfl) (.pureB (by rfl) (by repeat (first | trivial | refine ⟨by first | rfl | simp [setL], ?_⟩)) .nil)) (by rfl) ⟨rfl, rfl, ⟨_, by rfl, by constructor⟩, by constructor, trivial⟩ (by rfl) (by rfl) (by rfl) (by rfl) ⟨rfl, ⟨_, _, _, _, by rfl, by rfl⟩, ⟨_, _, _, _, by rfl, by rfl⟩, trivial⟩ (by rfl) (by repeat (first | trivial | refine ⟨by first | rfl | simp [setL], ?_⟩)) (by rfl) (by rfl) (by rfl) (by rfl) (by rfl) ?_
  have hlv2 := w_markIntS_len hv2
  refine X.relM [(6527, (v2.2.map int).length)] (by repeat (first | trivial | refine ⟨by first | rfl | simp [setL, hlv2], ?_⟩)) (by rfl) ?_
  refine X.assign (by rfl) (by rfl) ?_
  refine X.nil ?_
  refine Run.seq ?_
  refine Run.reg ?_
  refine X.move (by rfl) (by rfl) ?_
  refine X.assign (by rfl) (by rfl) ?_
  refine X.nil ?_
  cases h
  exact R.finM1 Try.results105 (by rfl) (by rfl) (by repeat (first | exact trivial | refine ⟨by rfl, ?_⟩)) rfl
theorem w_markPlan_len {b0 : TPlan} {b1 : Int} {r : Int × (List Int) × (List Int) × (List Int)} (h : w_markPlan b0 b1 = some r) : r.2.1.length = b0.Schedule.Starts.length ∧ r.2.2.1.length = b0.Schedule.Modes.length ∧ r.2.2.2.length = b0.Done.length := by
  unfold w_markPlan at h
  obtain ⟨v0, h0, h⟩ := Option.bind_eq_some_iff.1 h
  have l0 := w_markSchedule_len h0
  obtain ⟨v1, h1, h⟩ := Option.bind_eq_some_iff.1 h
  have l1 := w_markIntS_len h1
  obtain rfl := Option.some.inj h
  simp [l0, l1]
theorem w_markPlan_pc (b0 : TPlan) (b1 : Int) (r : Int × (List Int) × (List Int) × (List Int)) (h : w_markPlan b0 b1 = some r) : PCM Try.prog 36 [.agg [.own 6463 (b0.Schedule.Starts.map int).length, .own 6527 (b0.Schedule.Modes.map int).length, .own 6591 (b0.Done.map int).length], int b1] [(6463, .obj true 3 1 (b0.Schedule.Starts.map int)), (6527, .obj true 3 1 (b0.Schedule.Modes.map int)), (6591, .obj true 3 1 (b0.Done.map int))] (int r.1) [(6463, .obj true 3 1 (r.2.1.map int)), (6527, .obj true 3 1 (r.2.2.1.map int)), (6591, .obj true 3 1 (r.2.2.2.map int))] := by
  unfold w_markPlan at h
  refine PCM.start Try.func36 Try.ntmps36 rfl ok36 rfl (by rfl) (by rfl) (by rfl) (by rfl) (by rfl) ?_
  refine Run.seq ?_
  refine Run.reg ?_
  refine X.box (by rfl) (by rfl) (by repeat (first | trivial | refine ⟨by first | rfl | simp [setL], ?_⟩)) (by rfl) (by rfl) (by rfl) (by rfl) ?_
  refine X.assign (by rfl) (by rfl) ?_
  refine X.nil ?_
  refine Run.seq ?_
  refine Run.reg ?_
  refine X.fieldAddr_l fld55_0 (by rfl) (by rfl) ?_
  refine X.load_l shp53 (by rfl) (by rfl) (by rfl) (by rfl) (by rfl) (by rfl) ?_
  refine X.move (by rfl) (by rfl) ?_
  obtain ⟨v1, hv1, h⟩ := bindE h
  refine X.callR [(6463, 6463), (6527, 6527)] [(6463, (b0.Schedule.Starts.map int).length), (6527, (b0.Schedule.Modes.map int).length)] [(6463, (v1.2.1.map int).length), (6527, (v1.2.2.map int).length)] (w_markSchedule_pc _ _ _ hv1) (by rfl) (by rfl) (.agg _ _ _ _ _ _ (.ownB 6463 (by rfl) (by first | rfl | simp [setL] | omega) (by rfl) (.ownB 6527 (by rfl) (by first | rfl | simp [setL] | omega) (by rfl) .nil)) (.pureB (by rfl) (by repeat (first | trivial | refine ⟨by first | rfl | simp [setL], ?_⟩)) .nil)) (by rfl) ⟨rfl, rfl, ⟨_, by rfl, by constructor⟩, by constructor, ⟨rfl, rfl, ⟨_, by rfl, by constructor⟩, by constructor, trivial⟩⟩ (by rfl) (by rfl) (by rfl) (by rfl) ⟨rfl, ⟨_, _, _, _, by rfl, by rfl⟩, ⟨_, _, _, _, by rfl, by rfl⟩, ⟨rfl, ⟨_, _, _, _, by rfl, by rfl⟩, ⟨_, _, _, _, by rfl, by rfl⟩, trivial⟩⟩ (by rfl) (by repeat (first | trivial | refine ⟨by first | rfl | simp [setL], ?_⟩)) (by rfl) (by rfl) (by rfl) (by rfl) (by rfl) ?_
  have hlv1 := w_markSchedule_len hv1
  refine X.relM [(6463, (v1.2.1.map int).length), (6527, (v1.2.2.map int).length)] (by repeat (first | trivial | refine ⟨by first | rfl | simp [setL, hlv1], ?_⟩)) (by rfl) ?_
  refine X.assign (by rfl) (by rfl) ?_
  refine X.nil ?_
  refine Run.seq ?_
  refine Run.reg ?_
  refine X.fieldAddr_l fld55_1 (by rfl) (by rfl) ?_
  refine X.load_l shp25 (by rfl) (by rfl) (by rfl) (by rfl) (by rfl) (by rfl) ?_
  refine X.move (by rfl) (by rfl) ?_
  obtain ⟨v2, hv2, h⟩ := bindE h
  refine X.callR [(63, 6591)] [(6591, (b0.Done.map int).length)] [(6591, (v2.2.map int).length)] (w_markIntS_pc _ _ _ hv2) (by rfl) (by rfl) (.ownB 63 (by rfl) (by first | rfl | simp [setL] | omega) (by rfl) (.pureB (by rfl) (by repeat (first | trivial | refine ⟨by first | rfl | simp [setL], ?_⟩)) .nil)) (by rfl) ⟨rfl, rfl, ⟨_, by rfl, by constructor⟩, by constructor, trivial⟩ (by rfl) (by rfl) (by rfl) (by rfl) ⟨rfl, ⟨_, _, _, _, by rfl, by rfl⟩, ⟨_, _, _, _, by rfl, by rfl⟩, trivial⟩ (by rfl) (by repeat (first | trivial | refine ⟨by first | rfl | simp [setL], ?_⟩)) (by rfl) (by rfl) (by rfl) (by rfl) (by rfl) ?_
  have hlv2 := w_markIntS_len hv2
  refine X.relM [(6591, (v2.2.map int).length)] (by repeat (first | trivial | refine ⟨by first | rfl | simp [setL, hlv2], ?_⟩)) (by rfl) ?_
  refine X.assign (by rfl) (by rfl) ?_
  refine X.nil ?_
  refine Run.seq ?_
  refine Run.reg ?_
  refine X.move (by rfl) (by rfl) ?_
  refine X.assign (by rfl) (by rfl) ?_
  refine X.nil ?_
  cases h
  exact R.finM1 Try.results36 (by rfl) (by rfl) (by repeat (first | exact trivial | refine ⟨by rfl, ?_⟩)) rfl
theorem w_heldIntS_pc (b0 : List Int) (b1 : Int) (r : Int) (h : w_heldIntS b0 b1 = some r) : PC Try.prog 107 [.slice (b0.map int), int b1] (int r) := by
  unfold w_heldIntS at h
  refine PC.start Try.func107 Try.ntmps107 rfl ok107 rfl ?_
  refine Run.seq ?_
  refine Run.reg ?_
  refine X.assign (by rfl) (by rfl) ?_
  refine X.nil ?_
  refine Run.seq ?_
  refine Run.seq ?_
  refine Run.reg ?_
  refine X.assign (by rfl) (by rfl) ?_
  refine X.nil ?_
  obtain ⟨o1, ho1, h⟩ := bindE h
  refine R.join2 (β := Int) [] [] (fun p14 S => (1, int p14) :: S) (fun p14 M => M) (fun p14 => (Sum.inl p14) = o1) ?_ ?_
  · intro JJ4 hmeet3
    have hup2 := h; clear h; have h := ho1; clear ho1
    refine Run.block ?_
    refine R.bndS (t := 0) (by rfl) (fun hbd7 => ?_)
    replace hbd7 : b0.length ≤ 9223372036854775807 := by first | (rw [List.length_map] at hbd7; exact hbd7) | simp
    refine R.loop2 (β := Int × Int) [(0, .slice (b0.map int))] [] (fun bb S => (1, int bb.2) :: (5, int bb.1) :: S) (fun bb M => M) (fun n bb => 0 ≤ bb.1 ∧ bb.1 + n = (b0.length : Int) ∧ w_heldIntS_L1 (b0.drop bb.1.toNat) bb.1 bb.2 = some o1) b0.length (0, b1) (by repeat (first | trivial | refine ⟨by first | rfl | simp [setL], ?_⟩)) (by repeat (first | trivial | refine ⟨by first | rfl | simp [setL], ?_⟩)) (by rfl) (by rfl) ⟨Int.le_refl _, by simp, h⟩ ?_
    clear h
    rintro JJ7 n7 ⟨z8, a9⟩ hag7 ⟨hza7, hzb7, h⟩
    dsimp only at hza7 hzb7 h
    refine Run.seq ?_
    refine Run.seq ?_
    refine Run.reg ?_
    refine X.move (by rfl) (by rfl) ?_
    refine X.move (by rfl) (by rfl) ?_
    refine X.len_s elt25 (by rfl) (by exact List.length_map ..) (by rfl) ?_
    refine X.bin (by rfl) (by rfl) (by rfl) (by rfl) (by intro h; cases h) (by rfl) ?_
    refine X.nil ?_
    refine R.cond (by rfl) (fun hc12 => ?_) (fun hc12 => ?_)
    · obtain ⟨x10, xs11, hd7, hx7, hds7, hlt7⟩ := drop_atI hza7 hc12
      rw [hd7] at h
      rw [w_heldIntS_L1] at h
      refine Run.skip ?_
      refine Run.seq ?_
      refine Run.block ?_
      refine Run.seq ?_
      refine Run.seq ?_
      refine Run.reg ?_
      refine X.move (by rfl) (by rfl) ?_
      refine X.move (by rfl) (by rfl) ?_
      refine X.index_s elt25 (by rfl) (by rfl) (idxL_spec hx7).1 (idxL_map int hx7) (by rfl) (by rfl) (by rfl) ?_
      refine X.load_c shp3 (by rfl) (by rfl) (by rfl) (by rfl) ?_
      refine X.move (by rfl) (by rfl) ?_
      refine X.bin (by rfl) (by rfl) (by rfl) (by rfl) (by intro h; cases h) (by rfl) ?_
      refine X.nil ?_
      refine R.cond (by rfl) (fun hc13 => ?_) (fun hc13 => ?_)
      · replace h := condT hc13 h
        refine Run.seq ?_
        refine Run.reg ?_
        refine X.assign (by rfl) (by rfl) ?_
        refine X.nil ?_
        cases h
        have h := hup2
        replace h := elimR h
        cases h
        refine R.fin1 Try.results107 (by rfl) (by rfl) ?_
        rfl
      · replace h := condF hc13 h
        refine Run.skip ?_
        refine Run.reg ?_
        refine X.move (by rfl) (by rfl) ?_
        refine X.addW (by rfl) (by rfl) (by rfl) ?_
        refine X.assign (by rfl) (by rfl) ?_
        refine X.nil ?_
        refine Run.blk ?_
        refine Run.reg ?_
        refine X.move (by rfl) (by rfl) ?_
        refine X.add (by rfl) (by rfl) (by omega) (by rfl) ?_
        refine X.assign (by rfl) (by rfl) ?_
        refine X.nil ?_
        exact hag7 (n7 - 1) (z8 + 1, (W (a9 + 1))) _ _ (by omega) ⟨by first | omega | (dsimp only; omega), by first | omega | (dsimp only; omega), by first | (rw [hds7]; exact h) | (dsimp only; rw [hds7]; exact h)⟩ (by trivial) (by trivial) (by rfl) (by rfl)
    · rw [drop_endI hza7 hc12] at h
      rw [w_heldIntS_L1] at h
      refine Run.exit (by rfl) ?_
      exact hmeet3 a9 _ _ (Option.some.inj h) (by trivial) (by trivial) (by rfl) (by rfl)
  rintro p14 rfl
  replace h := elimL h
  refine Run.seq ?_
  refine Run.reg ?_
  refine X.move (by rfl) (by rfl) ?_
  refine X.assign (by rfl) (by rfl) ?_
  refine X.nil ?_
  cases h
  refine R.fin1 Try.results107 (by rfl) (by rfl) ?_
  rfl
theorem w_heldSchedule_pc (b0 : TSchedule) (b1 : Int) (r : Int) (h : w_heldSchedule b0 b1 = some r) : PC Try.prog 106 [eTSchedule b0, int b1] (int r) := by
  unfold w_heldSchedule at h
  refine PC.start Try.func106 Try.ntmps106 rfl ok106 rfl ?_
  refine Run.seq ?_
  refine Run.reg ?_
  refine X.box (by rfl) (by rfl) (by repeat (first | trivial | refine ⟨by first | rfl | simp [setL], ?_⟩)) (by rfl) (by rfl) (by rfl) (by rfl) ?_
  refine X.assign (by rfl) (by rfl) ?_
  refine X.nil ?_
  refine Run.seq ?_
  refine Run.reg ?_
  refine X.fieldAddr_l fld53_0 (by rfl) (by rfl) ?_
  refine X.load_l shp25 (by rfl) (by rfl) (by rfl) (by rfl) (by rfl) (by rfl) ?_
  refine X.move (by rfl) (by rfl) ?_
  obtain ⟨v1, hv1, h⟩ := bindE h
  refine X.callP (w_heldIntS_pc _ _ _ hv1) (by rfl) (by rfl) (by rfl) (by trivial) (by rfl) (by rfl) (by rfl) (by rfl) ?_
  refine X.assign (by rfl) (by rfl) ?_
  refine X.nil ?_
  refine Run.seq ?_
  refine Run.seq ?_
  refine Run.reg ?_
  refine X.move (by rfl) (by rfl) ?_
  refine X.bin (by rfl) (by rfl) (by rfl) (by rfl) (by intro h; cases h) (by rfl) ?_
  refine X.nil ?_
  refine R.cond (by rfl) (fun hc2 => ?_) (fun hc2 => ?_)
  · replace h := condT hc2 h
    refine Run.seq ?_
    refine Run.reg ?_
    refine X.assign (by rfl) (by rfl) ?_
    refine X.nil ?_
    cases h
    refine R.fin1 Try.results106 (by rfl) (by rfl) ?_
    rfl
  · replace h := condF hc2 h
    refine Run.skip ?_
    refine Run.seq ?_
    refine Run.reg ?_
    refine X.fieldAddr_l fld53_1 (by rfl) (by rfl) ?_
    refine X.load_l shp25 (by rfl) (by rfl) (by rfl) (by rfl) (by rfl) (by rfl) ?_
    refine X.move (by rfl) (by rfl) ?_
    obtain ⟨v3, hv3, h⟩ := bindE h
    refine X.callP (w_heldIntS_pc _ _ _ hv3) (by rfl) (by rfl) (by rfl) (by trivial) (by rfl) (by rfl) (by rfl) (by rfl) ?_
    refine X.assign (by rfl) (by rfl) ?_
    refine X.nil ?_
    refine Run.seq ?_
    refine Run.seq ?_
    refine Run.reg ?_
    refine X.move (by rfl) (by rfl) ?_
    refine X.bin (by rfl) (by rfl) (by rfl) (by rfl) (by intro h; cases h) (by rfl) ?_
    refine X.nil ?_
    refine R.cond (by rfl) (fun hc4 => ?_) (fun hc4 => ?_)
    · replace h := condT hc4 h
      refine Run.seq ?_
      refine Run.reg ?_
      refine X.assign (by rfl) (by rfl) ?_
      refine X.nil ?_
      cases h
      refine R.fin1 Try.results106 (by rfl) (by rfl) ?_
      rfl
    · replace h := condF hc4 h
      refine Run.skip ?_
      refine Run.seq ?_
      refine Run.reg ?_
      refine X.move (by rfl) (by rfl) ?_
      refine X.assign (by rfl) (by rfl) ?_
      refine X.nil ?_
      cases h
      refine R.fin1 Try.results106 (by rfl) (by rfl) ?_
      rfl
theorem w_heldPlan_pc (b0 : TPlan) (b1 : Int) (r : Int) (h : w_heldPlan b0 b1 = some r) : PC Try.prog 37 [eTPlan b0, int b1] (int r) := by
  unfold w_heldPlan at h
  refine PC.start Try.func37 Try.ntmps37 rfl ok37 rfl ?_
  refine Run.seq ?_
  refine Run.reg ?_
  refine X.box (by rfl) (by rfl) (by repeat (first | trivial | refine ⟨by first | rfl | simp [setL], ?_⟩)) (by rfl) (by rfl) (by rfl) (by rfl) ?_
  refine X.assign (by rfl) (by rfl) ?_
  refine X.nil ?_
  refine Run.seq ?_
  refine Run.reg ?_
  refine X.fieldAddr_l fld55_0 (by rfl) (by rfl) ?_
  refine X.load_l shp53 (by rfl) (by rfl) (by rfl) (by rfl) (by rfl) (by rfl) ?_
  refine X.move (by rfl) (by rfl) ?_
  obtain ⟨v1, hv1, h⟩ := bindE h
  refine X.callP (w_heldSchedule_pc _ _ _ hv1) (by rfl) (by rfl) (by rfl) (by trivial) (by rfl) (by rfl) (by rfl) (by rfl) ?_
  refine X.assign (by rfl) (by rfl) ?_
  refine X.nil ?_
  refine Run.seq ?_
  refine Run.seq ?_
  refine Run.reg ?_
  refine X.move (by rfl) (by rfl) ?_
  refine X.bin (by rfl) (by rfl) (by rfl) (by rfl) (by intro h; cases h) (by rfl) ?_
  refine X.nil ?_
  refine R.cond (by rfl) (fun hc2 => ?_) (fun hc2 => ?_)
  · replace h := condT hc2 h
    refine Run.seq ?_
    refine Run.reg ?_
    refine X.assign (by rfl) (by rfl) ?_
    refine X.nil ?_
    cases h
    refine R.fin1 Try.results37 (by rfl) (by rfl) ?_
    rfl
  · replace h := condF hc2 h
    refine Run.skip ?_
    refine Run.seq ?_
    refine Run.reg ?_
    refine X.fieldAddr_l fld55_1 (by rfl) (by rfl) ?_
    refine X.load_l shp25 (by rfl) (by rfl) (by rfl) (by rfl) (by rfl) (by rfl) ?_
    refine X.move (by rfl) (by rfl) ?_
    obtain ⟨v3, hv3, h⟩ := bindE h
    refine X.callP (w_heldIntS_pc _ _ _ hv3) (by rfl) (by rfl) (by rfl) (by trivial) (by rfl) (by rfl) (by rfl) (by rfl) ?_
    refine X.assign (by rfl) (by rfl) ?_
    refine X.nil ?_
    refine Run.seq ?_
    refine Run.seq ?_
    refine Run.reg ?_
    refine X.move (by rfl) (by rfl) ?_
    refine X.bin (by rfl) (by rfl) (by rfl) (by rfl) (by intro h; cases h) (by rfl) ?_
    refine X.nil ?_
    refine R.cond (by rfl) (fun hc4 => ?_) (fun hc4 => ?_)
    · replace h := condT hc4 h
      refine Run.seq ?_
      refine Run.reg ?_
      refine X.assign (by rfl) (by rfl) ?_
      refine X.nil ?_
      cases h
      refine R.fin1 Try.results37 (by rfl) (by rfl) ?_
      rfl
    · replace h := condF hc4 h
      refine Run.skip ?_
      refine Run.seq ?_
      refine Run.reg ?_
      refine X.move (by rfl) (by rfl) ?_
      refine X.assign (by rfl) (by rfl) ?_
      refine X.nil ?_
      cases h
      refine R.fin1 Try.results37 (by rfl) (by rfl) ?_
      rfl
theorem w_FnExactNewPlan_pc (b0 : TProject) (r : Bool) (h : w_FnExactNewPlan b0 = some r) : PC Try.prog 7 [eTProject b0] (bool r) := by
  unfold w_FnExactNewPlan at h
  refine PC.start Try.func7 Try.ntmps7 rfl ok7 rfl ?_
  refine Run.seq ?_
  refine Run.reg ?_
  refine X.box (by rfl) (by rfl) (by repeat (first | trivial | refine ⟨by first | rfl | simp [setL], ?_⟩)) (by rfl) (by rfl) (by rfl) (by rfl) ?_
  refine X.assign (by rfl) (by rfl) ?_
  refine X.nil ?_
  refine Run.seq ?_
  refine Run.reg ?_
  refine X.assign (by rfl) (by rfl) ?_
  refine X.nil ?_
  refine Run.seq ?_
  refine Run.reg ?_
  refine X.load_l shp27 (by rfl) (by rfl) (by rfl) (by rfl) (by rfl) (by rfl) ?_
  refine X.move (by rfl) (by rfl) ?_
  obtain ⟨v1, hv1, h⟩ := bindE h
  refine X.callP (w_szProject_pc _ _ _ hv1) (by rfl) (by rfl) (by rfl) (by trivial) (by rfl) (by rfl) (by rfl) (by rfl) ?_
  refine X.assign (by rfl) (by rfl) ?_
  refine X.nil ?_
  refine Run.seq ?_
  refine Run.seq ?_
  refine Run.reg ?_
  refine X.move (by rfl) (by rfl) ?_
  refine X.bin (by rfl) (by rfl) (by rfl) (by rfl) (by intro h; cases h) (by rfl) ?_
  refine X.nil ?_
  refine R.cond (by rfl) (fun hc2 => ?_) (fun hc2 => ?_)
  · replace h := condT hc2 h
    refine Run.seq ?_
    refine Run.reg ?_
    refine X.assign (by rfl) (by rfl) ?_
    refine X.nil ?_
    cases h
    refine R.fin1 Try.results7 (by rfl) (by rfl) ?_
    rfl
  · replace h := condF hc2 h
    refine Run.skip ?_
    refine Run.seq ?_
    refine Run.reg ?_
    refine X.load_l shp27 (by rfl) (by rfl) (by rfl) (by rfl) (by rfl) (by rfl) ?_
    obtain ⟨v3, hv3, h⟩ := bindE h
    refine X.callA (PC.ofY (ps := [eTProject b0]) (w_toProject_pc _ _ hv3) (by rfl) (by rfl)) (by rfl) (by rfl) (by rfl) (by trivial) (by rfl) (by rfl) (by rfl) (by rfl) (by rfl) (by rfl) ?_
    obtain ⟨v4, hv4, h⟩ := bindE h
    refine X.callA (s_NewPlan_pc _ _ hv4) (by rfl) (by rfl) (by rfl) (by repeat (first | trivial | refine ⟨by first | rfl | simp [setL], ?_⟩)) (by rfl) (by rfl) (by rfl) (by rfl) (by rfl) (by rfl) ?_
    refine X.alloc zer55 (by rfl) (by rfl) (by rfl) ?_
    refine X.store_l shp55 (by rfl) (by rfl) (by rfl) (by rfl) (by repeat (first | trivial | refine ⟨by first | rfl | simp [setL], ?_⟩)) (by rfl) (by rfl) (by rfl) ?_
    refine X.nil ?_
    refine Run.seq ?_
    refine Run.reg ?_
    refine X.load_l shp27 (by rfl) (by rfl) (by rfl) (by rfl) (by rfl) (by rfl) ?_
    obtain ⟨v5, hv5, h⟩ := bindE h
    refine X.callY (w_toProject_pc _ _ hv5) (by rfl) (by rfl) (by rfl) (by trivial) (by rfl) (by rfl) (by rfl) (by rfl) (by rfl) (by rfl) (by rfl) ?_
    refine X.alloc zer34 (by rfl) (by rfl) (by rfl) ?_
    refine X.store_l shp34 (by rfl) (by rfl) (by rfl) (by rfl) (by repeat (first | trivial | refine ⟨by first | rfl | simp [setL], ?_⟩)) (by rfl) (by rfl) (by rfl) ?_
    refine X.nil ?_
    refine Run.seq ?_
    refine Run.reg ?_
    refine X.load_l shp34 (by rfl) (by rfl) (by rfl) (by rfl) (by rfl) (by rfl) ?_
    obtain ⟨v6, hv6, h⟩ := bindE h
    refine X.callM [(6527, 1280)] (PC.lend (M0 := [(6527, .yreg false false)]) (i_NewPlan_pc _ _ hv6) (FlatR.aggL ⟨(FlatR.freshM (fun _ => (by repeat (first | exact trivial | refine ⟨trivial, ?_⟩)))), (FlatR.freshM (fun _ => (by repeat (first | exact trivial | refine ⟨trivial, ?_⟩)))), (FlatR.freshM (fun _ => (by repeat (first | exact trivial | refine ⟨trivial, ?_⟩)))), trivial⟩) (by rfl) (.agg _ _ _ _ (.same _ _ _ (by rfl) (.yng 6527 _ _ _ _ (by rfl) (.yng 6527 _ _ _ _ (by rfl) (.yng 6527 _ _ _ _ (by rfl) (.yng 6527 _ _ _ _ (by rfl) .nil))))) .nil)) (by rfl) (by rfl) (.agg _ _ _ _ _ _ (.pureB (by rfl) (by repeat (first | trivial | refine ⟨by first | rfl | simp [setL], ?_⟩)) (.yngB 6527 (by rfl) (by rfl) (.yngB 6527 (by rfl) (by rfl) (.yngB 6527 (by rfl) (by rfl) (.yngB 6527 (by rfl) (by rfl) .nil))))) .nil) (by rfl) ⟨rfl, rfl, ⟨_, by rfl, by constructor⟩, by constructor, trivial⟩ (by rfl) (by rfl) (by rfl) (by rfl) (by rfl) (by rfl) (by rfl) (by rfl) (by rfl) ?_
    refine X.alloc zer55 (by rfl) (by rfl) (by rfl) ?_
    refine X.store_l shp55 (by rfl) (by rfl) (by rfl) (by rfl) (by repeat (first | trivial | refine ⟨by first | rfl | simp [setL], ?_⟩)) (by rfl) (by rfl) (by rfl) ?_
    refine X.nil ?_
    refine Run.seq ?_
    refine Run.seq ?_
    refine Run.reg ?_
    refine X.load_l shp55 (by rfl) (by rfl) (by rfl) (by rfl) (by rfl) (by rfl) ?_
    refine X.load_l shp55 (by rfl) (by rfl) (by rfl) (by rfl) (by rfl) (by rfl) ?_
    obtain ⟨v7, hv7, h⟩ := bindE h
    refine X.callM [(6463, 1408), (6527, 1409), (6591, 1410)] (PC.lend (M0 := [(6463, .obj true 3 1 (v6.Schedule.Starts.map int)), (6527, .obj true 3 1 (v6.Schedule.Modes.map int)), (6591, .obj true 3 1 (v6.Done.map int))]) (w_eqPlan_pc _ _ _ hv7) (.lit _) (by rfl) (.agg _ _ _ _ (.own 6463 _ _ _ _ _ _ _ (by rfl) (by first | rfl | simp [setL] | omega) (.own 6527 _ _ _ _ _ _ _ (by rfl) (by first | rfl | simp [setL] | omega) (.own 6591 _ _ _ _ _ _ _ (by rfl) (by first | rfl | simp [setL] | omega) .nil))) (.agg _ _ _ _ (.same _ _ _ (by rfl) (.same _ _ _ (by rfl) (.same _ _ _ (by rfl) .nil))) .nil))) (by rfl) (by rfl) (.agg _ _ _ _ _ _ (.ownB 6463 (by rfl) (by first | rfl | simp [setL] | omega) (by rfl) (.ownB 6527 (by rfl) (by first | rfl | simp [setL] | omega) (by rfl) (.ownB 6591 (by rfl) (by first | rfl | simp [setL] | omega) (by rfl) .nil))) (.pureB (by rfl) (by repeat (first | trivial | refine ⟨by first | rfl | simp [setL], ?_⟩)) .nil)) (by rfl) ⟨rfl, rfl, ⟨_, by rfl, by constructor⟩, by constructor, ⟨rfl, rfl, ⟨_, by rfl, by constructor⟩, by constructor, ⟨rfl, rfl, ⟨_, by rfl, by constructor⟩, by constructor, trivial⟩⟩⟩ (by rfl) (by rfl) (by rfl) (by rfl) (by rfl) (by rfl) (by rfl) (by rfl) (by rfl) ?_
    refine X.un (by rfl) (by rfl) (by rfl) ?_
    refine X.nil ?_
    refine R.cond (by rfl) (fun hc8 => ?_) (fun hc8 => ?_)
    · replace h := condT hc8 h
      refine Run.seq ?_
      refine Run.reg ?_
      refine X.assign (by rfl) (by rfl) ?_
      refine X.nil ?_
      cases h
      refine R.fin1 Try.results7 (by rfl) (by rfl) ?_
      rfl
    · replace h := condF hc8 h
      refine Run.skip ?_
      refine Run.seq ?_
      refine Run.seq ?_
      refine Run.draw (footOf [(0, ([320], [], [], [])), (1, ([64], [], [], [])), (2, ([], [1856, 1857, 1858, 1859], [], [])), (3, ([1280, 1856, 1857, 1858, 1859], [1280], [], []))]) mixed (by kernel_rfl) (by kernel_rfl) ?_
      refine X.load_l shp34 (by rfl) (by rfl) (by rfl) (by rfl) (by rfl) (by rfl) ?_
      refine X.load_l shp27 (by rfl) (by rfl) (by rfl) (by rfl) (by rfl) (by rfl) ?_
      obtain ⟨v9, hv9, h⟩ := bindE h
      refine X.callA (PC.ofY (ps := [eTProject b0]) (w_toProject_pc _ _ hv9) (by rfl) (by rfl)) (by rfl) (by rfl) (by rfl) (by trivial) (by rfl) (by rfl) (by rfl) (by rfl) (by rfl) (by rfl) ?_
      obtain ⟨v10, hv10, h⟩ := bindE h
      refine X.callM [(6527, 1280)] (PC.lend (M0 := [(6527, .yreg false false)]) (w_eqProject_pc _ _ _ hv10) (.lit _) (by rfl) (.agg _ _ _ _ (.same _ _ _ (by rfl) (.yng 6527 _ _ _ _ (by rfl) (.yng 6527 _ _ _ _ (by rfl) (.yng 6527 _ _ _ _ (by rfl) (.yng 6527 _ _ _ _ (by rfl) .nil))))) (.agg _ _ _ _ (.same _ _ _ (by rfl) (.same _ _ _ (by rfl) (.same _ _ _ (by rfl) (.same _ _ _ (by rfl) (.same _ _ _ (by rfl) .nil))))) .nil))) (by rfl) (by rfl) (.agg _ _ _ _ _ _ (.pureB (by rfl) (by repeat (first | trivial | refine ⟨by first | rfl | simp [setL], ?_⟩)) (.yngB 6527 (by rfl) (by rfl) (.yngB 6527 (by rfl) (by rfl) (.yngB 6527 (by rfl) (by rfl) (.yngB 6527 (by rfl) (by rfl) .nil))))) (.pureB (by rfl) (by repeat (first | trivial | refine ⟨by first | rfl | simp [setL], ?_⟩)) .nil)) (by rfl) ⟨rfl, rfl, ⟨_, by rfl, by constructor⟩, by constructor, trivial⟩ (by rfl) (by rfl) (by rfl) (by rfl) (by rfl) (by rfl) (by rfl) (by rfl) (by rfl) ?_
      refine X.un (by rfl) (by rfl) (by rfl) ?_
      refine X.nil ?_
      refine R.cond (by rfl) (fun hc11 => ?_) (fun hc11 => ?_)
      · replace h := condT hc11 h
        refine Run.seq ?_
        refine Run.reg ?_
        refine X.assign (by rfl) (by rfl) ?_
        refine X.nil ?_
        cases h
        refine R.fin1 Try.results7 (by rfl) (by rfl) ?_
        rfl
      · replace h := condF hc11 h
        refine Run.skip ?_
        refine Run.seq ?_
        refine Run.reg ?_
        refine X.assign (by rfl) (by rfl) ?_
        refine X.nil ?_
        refine Run.seq ?_
        refine R.demote 1280 (by rfl) (by rfl) (by rfl) (by rfl) (by rfl) (by rfl) ?_
        refine Run.reg ?_
        refine X.load_l shp34 (by rfl) (by rfl) (by rfl) (by rfl) (by rfl) (by rfl) ?_
        refine X.move (by rfl) (by rfl) ?_
        obtain ⟨v12, hv12, h⟩ := bindE h
        refine X.callM [(63, 1280)] (w_markProject_k_pc _ _ _ hv12) (by rfl) (by rfl) (.agg _ _ _ _ _ _ (.pureB (by rfl) (by repeat (first | trivial | refine ⟨by first | rfl | simp [setL], ?_⟩)) (.yskB 63 (by rfl) (by rfl) (.yskB 63 (by rfl) (by rfl) (.yskB 63 (by rfl) (by rfl) (.yskB 63 (by rfl) (by rfl) .nil))))) (.pureB (by rfl) (by repeat (first | trivial | refine ⟨by first | rfl | simp [setL], ?_⟩)) .nil)) (by rfl) ⟨rfl, rfl, ⟨_, by rfl, by constructor⟩, by constructor, trivial⟩ (by rfl) (by rfl) (by rfl) (by rfl) (by rfl) (by rfl) (by rfl) (by rfl) (by rfl) ?_
        refine X.assign (by rfl) (by rfl) ?_
        refine X.nil ?_
        refine Run.seq ?_
        refine Run.seq ?_
        obtain ⟨e13, he13, h2⟩ := bindE h
        refine R.regG [(1, .lptr 64 0), (4, .lptr 256 0), (6, .lptr 384 0), (42, bool e13)] [(64, .blk true [int b0.Deadline, .slice (b0.Activities.map eTActivity), .slice (b0.Links.map eTLink), .slice (b0.Resources.map eTResource), .slice (b0.Stocks.map int)]), (256, .blk true [.own 1152 (v4.Schedule.Starts.map int).length, .own 1153 (v4.Schedule.Modes.map int).length, .own 1154 (v4.Done.map int).length]), (1152, .obj false 3 1 (v4.Schedule.Starts.map int)), (1153, .obj false 3 1 (v4.Schedule.Modes.map int)), (1154, .obj false 3 1 (v4.Done.map int)), (384, .blk true [.own 1408 (v6.Schedule.Starts.map int).length, .own 1409 (v6.Schedule.Modes.map int).length, .own 1410 (v6.Done.map int).length]), (1408, .obj true 3 1 (v6.Schedule.Starts.map int)), (1409, .obj true 3 1 (v6.Schedule.Modes.map int)), (1410, .obj true 3 1 (v6.Done.map int))] ?_ ?_
        · clear h; have h := he13; clear he13 h2
          refine X.move (by rfl) (by rfl) ?_
          refine X.bin (by rfl) (by rfl) (by rfl) (by rfl) (by intro h; cases h) (by rfl) ?_
          refine X.move (by rfl) (by rfl) ?_
          refine X.ifG (by rfl) (by rfl) (by rfl) (fun hb14 => ?_) (fun hb14 => ?_)
          · replace h := condF hb14 h
            refine X.load_l shp55 (by rfl) (by rfl) (by rfl) (by rfl) (by rfl) (by rfl) ?_
            refine X.gyes (by rfl) (by rfl) (by first | rfl | assumption) ?_
            refine X.load_l shp55 (by rfl) (by rfl) (by rfl) (by rfl) (by rfl) (by rfl) ?_
            refine X.gyes (by rfl) (by rfl) (by first | rfl | assumption) ?_
            obtain ⟨v15, hv15, h⟩ := bindE h
            refine X.callM [(6463, 1408), (6527, 1409), (6591, 1410)] (PC.lend (M0 := [(6463, .obj true 3 1 (v6.Schedule.Starts.map int)), (6527, .obj true 3 1 (v6.Schedule.Modes.map int)), (6591, .obj true 3 1 (v6.Done.map int))]) (w_eqPlan_pc _ _ _ hv15) (.lit _) (by rfl) (.agg _ _ _ _ (.own 6463 _ _ _ _ _ _ _ (by rfl) (by first | rfl | simp [setL] | omega) (.own 6527 _ _ _ _ _ _ _ (by rfl) (by first | rfl | simp [setL] | omega) (.own 6591 _ _ _ _ _ _ _ (by rfl) (by first | rfl | simp [setL] | omega) .nil))) (.agg _ _ _ _ (.same _ _ _ (by rfl) (.same _ _ _ (by rfl) (.same _ _ _ (by rfl) .nil))) .nil))) (by rfl) (by rfl) (.agg _ _ _ _ _ _ (.ownB 6463 (by rfl) (by first | rfl | simp [setL] | omega) (by rfl) (.ownB 6527 (by rfl) (by first | rfl | simp [setL] | omega) (by rfl) (.ownB 6591 (by rfl) (by first | rfl | simp [setL] | omega) (by rfl) .nil))) (.pureB (by rfl) (by repeat (first | trivial | refine ⟨by first | rfl | simp [setL], ?_⟩)) .nil)) (by rfl) ⟨rfl, rfl, ⟨_, by rfl, by constructor⟩, by constructor, ⟨rfl, rfl, ⟨_, by rfl, by constructor⟩, by constructor, ⟨rfl, rfl, ⟨_, by rfl, by constructor⟩, by constructor, trivial⟩⟩⟩ (by rfl) (by rfl) (by rfl) (by rfl) (by rfl) (by rfl) (by rfl) (by rfl) (by rfl) ?_
            refine X.gyes (by rfl) (by rfl) (by first | rfl | assumption) ?_
            refine X.un (by rfl) (by rfl) (by rfl) ?_
            refine X.pickF (by rfl) (by first | rfl | assumption) (by rfl) (by rfl) ?_
            cases h
            exact X.endG (by repeat (first | trivial | refine ⟨by first | rfl | simp [setL], ?_⟩)) (by repeat (first | trivial | refine ⟨by first | rfl | simp [setL], ?_⟩)) (by rfl) (by rfl)
          · replace h := condT hb14 h
            refine X.gno (by rfl) (by rfl) (by first | rfl | assumption) (by rfl) ?_
            refine X.gno (by rfl) (by rfl) (by first | rfl | assumption) (by rfl) ?_
            refine X.gno (by rfl) (by rfl) (by first | rfl | assumption) (by rfl) ?_
            refine X.pickT (by rfl) (by first | rfl | assumption) (by rfl) (by rfl) ?_
            cases h
            exact X.endG (by repeat (first | trivial | refine ⟨by first | rfl | simp [setL], ?_⟩)) (by repeat (first | trivial | refine ⟨by first | rfl | simp [setL], ?_⟩)) (by rfl) (by rfl)
        replace h := h2; clear h2
        refine R.cond (by rfl) (fun hc16 => ?_) (fun hc16 => ?_)
        · replace h := condT hc16 h
          refine Run.seq ?_
          refine Run.reg ?_
          refine X.assign (by rfl) (by rfl) ?_
          refine X.nil ?_
          cases h
          refine R.fin1 Try.results7 (by rfl) (by rfl) ?_
          rfl
        · replace h := condF hc16 h
          refine Run.skip ?_
          refine Run.seq ?_
          refine Run.reg ?_
          refine X.assign (by rfl) (by rfl) ?_
          refine X.nil ?_
          refine Run.seq ?_
          refine Run.reg ?_
          refine X.load_l shp55 (by rfl) (by rfl) (by rfl) (by rfl) (by rfl) (by rfl) ?_
          refine X.move (by rfl) (by rfl) ?_
          obtain ⟨v17, hv17, h⟩ := bindE h
          refine X.callR [(6463, 1408), (6527, 1409), (6591, 1410)] [(1408, (v6.Schedule.Starts.map int).length), (1409, (v6.Schedule.Modes.map int).length), (1410, (v6.Done.map int).length)] [(1408, (v17.2.1.map int).length), (1409, (v17.2.2.1.map int).length), (1410, (v17.2.2.2.map int).length)] (w_markPlan_pc _ _ _ hv17) (by rfl) (by rfl) (.agg _ _ _ _ _ _ (.ownB 6463 (by rfl) (by first | rfl | simp [setL] | omega) (by rfl) (.ownB 6527 (by rfl) (by first | rfl | simp [setL] | omega) (by rfl) (.ownB 6591 (by rfl) (by first | rfl | simp [setL] | omega) (by rfl) .nil))) (.pureB (by rfl) (by repeat (first | trivial | refine ⟨by first | rfl | simp [setL], ?_⟩)) .nil)) (by rfl) ⟨rfl, rfl, ⟨_, by rfl, by constructor⟩, by constructor, ⟨rfl, rfl, ⟨_, by rfl, by constructor⟩, by constructor, ⟨rfl, rfl, ⟨_, by rfl, by constructor⟩, by constructor, trivial⟩⟩⟩ (by rfl) (by rfl) (by rfl) (by rfl) ⟨rfl, ⟨_, _, _, _, by rfl, by rfl⟩, ⟨_, _, _, _, by rfl, by rfl⟩, ⟨rfl, ⟨_, _, _, _, by rfl, by rfl⟩, ⟨_, _, _, _, by rfl, by rfl⟩, ⟨rfl, ⟨_, _, _, _, by rfl, by rfl⟩, ⟨_, _, _, _, by rfl, by rfl⟩, trivial⟩⟩⟩ (by rfl) (by repeat (first | trivial | refine ⟨by first | rfl | simp [setL], ?_⟩)) (by rfl) (by rfl) (by rfl) (by rfl) (by rfl) ?_
          have hlv17 := w_markPlan_len hv17
          refine X.relM [(1408, (v17.2.1.map int).length), (1409, (v17.2.2.1.map int).length), (1410, (v17.2.2.2.map int).length)] (by repeat (first | trivial | refine ⟨by first | rfl | simp [setL, hlv17], ?_⟩)) (by rfl) ?_
          refine X.assign (by rfl) (by rfl) ?_
          refine X.nil ?_
          refine Run.seq ?_
          refine Run.reg ?_
          refine X.assign (by rfl) (by rfl) ?_
          refine X.nil ?_
          refine Run.seq ?_
          refine Run.reg ?_
          refine X.load_l shp55 (by rfl) (by rfl) (by rfl) (by rfl) (by rfl) (by rfl) ?_
          refine X.move (by rfl) (by rfl) ?_
          obtain ⟨v18, hv18, h⟩ := bindE h
          refine X.callM [(6463, 1408), (6527, 1409), (6591, 1410)] (PC.lend (M0 := [(6463, .obj true 3 1 (v17.2.1.map int)), (6527, .obj true 3 1 (v17.2.2.1.map int)), (6591, .obj true 3 1 (v17.2.2.2.map int))]) (w_heldPlan_pc _ _ _ hv18) (.lit _) (by rfl) (.agg _ _ _ _ (.own 6463 _ _ _ _ _ _ _ (by rfl) (by first | rfl | simp [setL] | omega) (.own 6527 _ _ _ _ _ _ _ (by rfl) (by first | rfl | simp [setL] | omega) (.own 6591 _ _ _ _ _ _ _ (by rfl) (by first | rfl | simp [setL] | omega) .nil))) (.same _ _ _ (by rfl) .nil))) (by rfl) (by rfl) (.agg _ _ _ _ _ _ (.ownB 6463 (by rfl) (by first | rfl | simp [setL] | omega) (by rfl) (.ownB 6527 (by rfl) (by first | rfl | simp [setL] | omega) (by rfl) (.ownB 6591 (by rfl) (by first | rfl | simp [setL] | omega) (by rfl) .nil))) (.pureB (by rfl) (by repeat (first | trivial | refine ⟨by first | rfl | simp [setL], ?_⟩)) .nil)) (by rfl) ⟨rfl, rfl, ⟨_, by rfl, by constructor⟩, by constructor, ⟨rfl, rfl, ⟨_, by rfl, by constructor⟩, by constructor, ⟨rfl, rfl, ⟨_, by rfl, by constructor⟩, by constructor, trivial⟩⟩⟩ (by rfl) (by rfl) (by rfl) (by rfl) (by rfl) (by rfl) (by rfl) (by rfl) (by rfl) ?_
          refine X.assign (by rfl) (by rfl) ?_
          refine X.nil ?_
          refine Run.seq ?_
          refine Run.seq ?_
          refine Run.reg ?_
          refine X.move (by rfl) (by rfl) ?_
          refine X.bin (by rfl) (by rfl) (by rfl) (by rfl) (by intro h; cases h) (by rfl) ?_
          refine X.nil ?_
          refine R.cond (by rfl) (fun hc19 => ?_) (fun hc19 => ?_)
          · replace h := condT hc19 h
            refine Run.seq ?_
            refine Run.reg ?_
            refine X.assign (by rfl) (by rfl) ?_
            refine X.nil ?_
            cases h
            refine R.fin1 Try.results7 (by rfl) (by rfl) ?_
            rfl
          · replace h := condF hc19 h
            refine Run.skip ?_
            refine Run.seq ?_
            refine Run.seq ?_
            refine Run.reg ?_
            refine X.move (by rfl) (by rfl) ?_
            refine X.move (by rfl) (by rfl) ?_
            refine X.bin (by rfl) (by rfl) (by rfl) (by rfl) (by intro h; cases h) (by rfl) ?_
            refine X.nil ?_
            refine R.cond (by rfl) (fun hc20 => ?_) (fun hc20 => ?_)
            · replace h := condT hc20 h
              refine Run.seq ?_
              refine Run.reg ?_
              refine X.assign (by rfl) (by rfl) ?_
              refine X.nil ?_
              cases h
              refine R.fin1 Try.results7 (by rfl) (by rfl) ?_
              rfl
            · replace h := condF hc20 h
              refine Run.skip ?_
              refine Run.seq ?_
              refine Run.reg ?_
              refine X.load_l shp27 (by rfl) (by rfl) (by rfl) (by rfl) (by rfl) (by rfl) ?_
              obtain ⟨v21, hv21, h⟩ := bindE h
              refine X.callA (PC.ofY (ps := [eTProject b0]) (w_toProject_pc _ _ hv21) (by rfl) (by rfl)) (by rfl) (by rfl) (by rfl) (by trivial) (by rfl) (by rfl) (by rfl) (by rfl) (by rfl) (by rfl) ?_
              obtain ⟨v22, hv22, h⟩ := bindE h
              refine X.callA (i_NewPlan_pc _ _ hv22) (by rfl) (by rfl) (by rfl) (by repeat (first | trivial | refine ⟨by first | rfl | simp [setL], ?_⟩)) (by rfl) (by rfl) (by rfl) (by rfl) (by rfl) (by rfl) ?_
              refine X.alloc zer55 (by rfl) (by rfl) (by rfl) ?_
              refine X.store_l shp55 (by rfl) (by rfl) (by rfl) (by rfl) (by repeat (first | trivial | refine ⟨by first | rfl | simp [setL], ?_⟩)) (by rfl) (by rfl) (by rfl) ?_
              refine X.nil ?_
              refine R.pubObj (n := 3584) (by rfl) ?_
              refine R.pubObj (n := 3585) (by rfl) ?_
              refine R.pubObj (n := 3586) (by rfl) ?_
              refine Run.seq ?_
              refine Run.seq ?_
              refine Run.reg ?_
              refine X.load_l shp55 (by rfl) (by rfl) (by rfl) (by rfl) (by rfl) (by rfl) ?_
              refine X.load_l shp55 (by rfl) (by rfl) (by rfl) (by rfl) (by rfl) (by rfl) ?_
              obtain ⟨v23, hv23, h⟩ := bindE h
              refine X.callP (w_eqPlan_pc _ _ _ hv23) (by rfl) (by rfl) (by rfl) (by repeat (first | trivial | refine ⟨by first | rfl | simp [setL], ?_⟩)) (by rfl) (by rfl) (by rfl) (by rfl) ?_
              refine X.un (by rfl) (by rfl) (by rfl) ?_
              refine X.nil ?_
              refine R.cond (by rfl) (fun hc24 => ?_) (fun hc24 => ?_)
              · replace h := condT hc24 h
                refine Run.seq ?_
                refine Run.reg ?_
                refine X.assign (by rfl) (by rfl) ?_
                refine X.nil ?_
                cases h
                refine R.fin1 Try.results7 (by rfl) (by rfl) ?_
                rfl
              · replace h := condF hc24 h
                refine Run.skip ?_
                refine Run.seq ?_
                refine Run.reg ?_
                refine X.assign (by rfl) (by rfl) ?_
                refine X.nil ?_
                refine Run.seq ?_
                refine Run.reg ?_
                refine X.load_l shp55 (by rfl) (by rfl) (by rfl) (by rfl) (by rfl) (by rfl) ?_
                refine X.move (by rfl) (by rfl) ?_
                obtain ⟨v25, hv25, h⟩ := bindE h
                refine X.callM [(6463, 1408), (6527, 1409), (6591, 1410)] (PC.lend (M0 := [(6463, .obj true 3 1 (v17.2.1.map int)), (6527, .obj true 3 1 (v17.2.2.1.map int)), (6591, .obj true 3 1 (v17.2.2.2.map int))]) (w_heldPlan_pc _ _ _ hv25) (.lit _) (by rfl) (.agg _ _ _ _ (.own 6463 _ _ _ _ _ _ _ (by rfl) (by first | rfl | simp [setL] | omega) (.own 6527 _ _ _ _ _ _ _ (by rfl) (by first | rfl | simp [setL] | omega) (.own 6591 _ _ _ _ _ _ _ (by rfl) (by first | rfl | simp [setL] | omega) .nil))) (.same _ _ _ (by rfl) .nil))) (by rfl) (by rfl) (.agg _ _ _ _ _ _ (.ownB 6463 (by rfl) (by first | rfl | simp [setL] | omega) (by rfl) (.ownB 6527 (by rfl) (by first | rfl | simp [setL] | omega) (by rfl) (.ownB 6591 (by rfl) (by first | rfl | simp [setL] | omega) (by rfl) .nil))) (.pureB (by rfl) (by repeat (first | trivial | refine ⟨by first | rfl | simp [setL], ?_⟩)) .nil)) (by rfl) ⟨rfl, rfl, ⟨_, by rfl, by constructor⟩, by constructor, ⟨rfl, rfl, ⟨_, by rfl, by constructor⟩, by constructor, ⟨rfl, rfl, ⟨_, by rfl, by constructor⟩, by constructor, trivial⟩⟩⟩ (by rfl) (by rfl) (by rfl) (by rfl) (by rfl) (by rfl) (by rfl) (by rfl) (by rfl) ?_
                refine X.assign (by rfl) (by rfl) ?_
                refine X.nil ?_
                refine Run.seq ?_
                refine Run.seq ?_
                refine Run.reg ?_
                refine X.move (by rfl) (by rfl) ?_
                refine X.bin (by rfl) (by rfl) (by rfl) (by rfl) (by intro h; cases h) (by rfl) ?_
                refine X.nil ?_
                refine R.cond (by rfl) (fun hc26 => ?_) (fun hc26 => ?_)
                · replace h := condT hc26 h
                  refine Run.seq ?_
                  refine Run.reg ?_
                  refine X.assign (by rfl) (by rfl) ?_
                  refine X.nil ?_
                  cases h
                  refine R.fin1 Try.results7 (by rfl) (by rfl) ?_
                  rfl
                · replace h := condF hc26 h
                  refine Run.skip ?_
                  refine Run.seq ?_
                  refine Run.seq ?_
                  refine Run.reg ?_
                  refine X.move (by rfl) (by rfl) ?_
                  refine X.move (by rfl) (by rfl) ?_
                  refine X.bin (by rfl) (by rfl) (by rfl) (by rfl) (by intro h; cases h) (by rfl) ?_
                  refine X.nil ?_
                  refine R.cond (by rfl) (fun hc27 => ?_) (fun hc27 => ?_)
                  · replace h := condT hc27 h
                    refine Run.seq ?_
                    refine Run.reg ?_
                    refine X.assign (by rfl) (by rfl) ?_
                    refine X.nil ?_
                    cases h
                    refine R.fin1 Try.results7 (by rfl) (by rfl) ?_
                    rfl
                  · replace h := condF hc27 h
                    refine Run.skip ?_
                    refine Run.seq ?_
                    refine Run.reg ?_
                    refine X.assign (by rfl) (by rfl) ?_
                    refine X.nil ?_
                    cases h
                    refine R.fin1 Try.results7 (by rfl) (by rfl) ?_
                    rfl
end Go.Px.Ytjncefleglnnjaa
