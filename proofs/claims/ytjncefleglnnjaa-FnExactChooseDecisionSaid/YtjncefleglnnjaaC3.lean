/-
  PROVED: contracts of functions of the program over pure values. No condition beyond those that each theorem names.
-/
import Derived.Test.YtjncefleglnnjaaProg
import Derived.Test.YtjncefleglnnjaaD1
import Derived.Test.YtjncefleglnnjaaC2
namespace Go.Px.Ytjncefleglnnjaa
set_option linter.unusedSimpArgs false
set_option linter.unusedVariables false
open Go.Px Go.Proofs
theorem slices_IndexFunc__int_pc (b0 : List (List Int)) (g1 : (List Int) → Option Bool) (g1id : Nat) (g1c : List PV) (hg1 : ∀ (x0 : List Int) v, g1 x0 = some v → PC Try.prog g1id ([.slice (x0.map int)] ++ g1c) (bool v)) (r : Int) (h : slices_IndexFunc__int b0 g1 = some r) : PC Try.prog 235 [.slice (b0.map l_int), .fn g1id g1c] (int r) := by
  unfold slices_IndexFunc__int at h
  refine PC.start Try.func235 Try.ntmps235 rfl ok235 rfl ?_
  refine Run.seq ?_
  refine Run.reg ?_
  refine X.assign (by rfl) (by rfl) ?_
  refine X.nil ?_
  refine Run.seq ?_
  refine Run.seq ?_
  refine Run.reg ?_
  refine X.move (by rfl) (by rfl) ?_
  refine X.len_s elt63 (by rfl) (by exact List.length_map ..) (by rfl) ?_
  refine X.move (by rfl) (by rfl) ?_
  refine X.nil ?_
  obtain ⟨o1, ho1, h⟩ := bindE h
  refine R.join2 (β := Unit) [] [] (fun p14 S => S) (fun p14 M => M) (fun p14 => (Sum.inl p14) = o1) ?_ ?_
  · intro JJ4 hmeet3
    have hup2 := h; clear h; have h := ho1; clear ho1
    refine Run.block ?_
    refine R.bndS (t := 0) (by rfl) (fun hbd7 => ?_)
    replace hbd7 : b0.length ≤ 9223372036854775807 := by first | (rw [List.length_map] at hbd7; exact hbd7) | simp
    refine R.loop2 (β := Int) [(0, .slice (b0.map l_int)), (1, .fn g1id g1c), (7, int (b0.length : Int))] [] (fun bb S => (8, int bb) :: S) (fun bb M => M) (fun n bb => 0 ≤ bb ∧ bb + n = (b0.length : Int) ∧ slices_IndexFunc__int_L1 g1 (b0.drop bb.toNat) bb = some o1) b0.length (0 : Int) (by repeat (first | exact trivial | refine ⟨by rfl, ?_⟩ | refine ⟨by simp [setL], ?_⟩)) (by repeat (first | exact trivial | refine ⟨by rfl, ?_⟩ | refine ⟨by simp [setL], ?_⟩)) (by rfl) (by rfl) ⟨Int.le_refl _, by simp, h⟩ ?_
    clear h
    rintro JJ7 n7 z8 hag7 ⟨hza7, hzb7, h⟩
    refine Run.seq ?_
    refine Run.reg ?_
    refine X.bin (by rfl) (by rfl) (by rfl) (by rfl) (by intro h; cases h) (by rfl) ?_
    refine X.nil ?_
    refine Run.seq ?_
    refine R.cond (by rfl) (fun hc11 => ?_) (fun hc11 => ?_)
    · obtain ⟨x9, xs10, hd7, hx7, hds7, hlt7⟩ := drop_atI hza7 hc11
      rw [hd7] at h
      rw [slices_IndexFunc__int_L1] at h
      refine Run.skip ?_
      refine Run.seq ?_
      refine Run.block ?_
      refine Run.seq ?_
      refine Run.reg ?_
      refine X.move (by rfl) (by rfl) ?_
      refine X.assign (by rfl) (by rfl) ?_
      refine X.nil ?_
      refine Run.seq ?_
      refine Run.reg ?_
      refine X.move (by rfl) (by rfl) ?_
      refine X.move (by rfl) (by rfl) ?_
      refine X.move (by rfl) (by rfl) ?_
      refine X.index_s elt63 (by rfl) (by rfl) (idxL_spec hx7).1 (idxL_map l_int hx7) (by rfl) (by rfl) (by rfl) ?_
      refine X.load_c shp25 (by rfl) (by rfl) (by rfl) (by rfl) ?_
      obtain ⟨v12, hv12, h⟩ := bindE h
      refine X.callP (hg1 _ _ hv12) (by rfl) (by rfl) (by rfl) (by repeat (first | exact trivial | refine ⟨by rfl, ?_⟩ | refine ⟨by simp [setL], ?_⟩)) (by rfl) (by rfl) (by rfl) (by rfl) ?_
      refine X.nil ?_
      refine R.cond (by rfl) (fun hc13 => ?_) (fun hc13 => ?_)
      · replace h := condT hc13 h
        refine Run.seq ?_
        refine Run.reg ?_
        refine X.move (by rfl) (by rfl) ?_
        refine X.assign (by rfl) (by rfl) ?_
        refine X.nil ?_
        cases h
        have h := hup2
        replace h := elimR h
        cases h
        refine R.fin1 Try.results235 (by rfl) (by rfl) ?_
        rfl
      · replace h := condF hc13 h
        refine Run.skip ?_
        refine Run.blk ?_
        refine Run.reg ?_
        refine X.add (by rfl) (by rfl) (by omega) (by rfl) ?_
        refine X.move (by rfl) (by rfl) ?_
        refine X.nil ?_
        exact hag7 (n7 - 1) (z8 + 1) _ _ (by omega) ⟨by first | omega | (dsimp only; omega), by first | omega | (dsimp only; omega), by first | (rw [hds7]; exact h) | (dsimp only; rw [hds7]; exact h)⟩ (by repeat (first | exact trivial | refine ⟨by rfl, ?_⟩ | refine ⟨by simp [setL], ?_⟩)) (by repeat (first | exact trivial | refine ⟨by rfl, ?_⟩ | refine ⟨by simp [setL], ?_⟩)) (by rfl) (by rfl)
    · rw [drop_endI hza7 hc11] at h
      rw [slices_IndexFunc__int_L1] at h
      refine Run.exit (by rfl) ?_
      exact hmeet3 () _ _ (Option.some.inj h) (by repeat (first | exact trivial | refine ⟨by rfl, ?_⟩ | refine ⟨by simp [setL], ?_⟩)) (by repeat (first | exact trivial | refine ⟨by rfl, ?_⟩ | refine ⟨by simp [setL], ?_⟩)) (by rfl) (by rfl)
  rintro p14 rfl
  replace h := elimL h
  refine Run.seq ?_
  refine Run.reg ?_
  refine X.assign (by rfl) (by rfl) ?_
  refine X.nil ?_
  cases h
  refine R.fin1 Try.results235 (by rfl) (by rfl) ?_
  rfl
theorem slices_ContainsFunc__int_pc (b0 : List (List Int)) (g1 : (List Int) → Option Bool) (g1id : Nat) (g1c : List PV) (hg1 : ∀ (x0 : List Int) v, g1 x0 = some v → PC Try.prog g1id ([.slice (x0.map int)] ++ g1c) (bool v)) (r : Bool) (h : slices_ContainsFunc__int b0 g1 = some r) : PC Try.prog 219 [.slice (b0.map l_int), .fn g1id g1c] (bool r) := by
  unfold slices_ContainsFunc__int at h
  refine PC.start Try.func219 Try.ntmps219 rfl ok219 rfl ?_
  refine Run.seq ?_
  refine Run.reg ?_
  refine X.assign (by rfl) (by rfl) ?_
  refine X.nil ?_
  refine Run.seq ?_
  refine Run.reg ?_
  refine X.move (by rfl) (by rfl) ?_
  refine X.move (by rfl) (by rfl) ?_
  obtain ⟨v1, hv1, h⟩ := bindE h
  refine X.callP (slices_IndexFunc__int_pc _ g1 _ _ hg1 _ hv1) (by rfl) (by rfl) (by rfl) (by repeat (first | exact trivial | refine ⟨by rfl, ?_⟩ | refine ⟨by simp [setL], ?_⟩)) (by rfl) (by rfl) (by rfl) (by rfl) ?_
  refine X.bin (by rfl) (by rfl) (by rfl) (by rfl) (by intro h; cases h) (by rfl) ?_
  refine X.assign (by rfl) (by rfl) ?_
  refine X.nil ?_
  cases h
  refine R.fin1 Try.results219 (by rfl) (by rfl) ?_
  rfl
theorem i_DomainEmpty_c1_pc (b0 : List Int) (r : Bool) (h : i_DomainEmpty_c1 b0 = some r) : PC Try.prog 220 [.slice (b0.map int)] (bool r) := by
  unfold i_DomainEmpty_c1 at h
  refine PC.start Try.func220 Try.ntmps220 rfl ok220 rfl ?_
  refine Run.seq ?_
  refine Run.reg ?_
  refine X.assign (by rfl) (by rfl) ?_
  refine X.nil ?_
  refine Run.seq ?_
  refine Run.reg ?_
  refine X.move (by rfl) (by rfl) ?_
  refine X.len_s elt25 (by rfl) (by exact List.length_map ..) (by rfl) ?_
  refine X.bin (by rfl) (by rfl) (by rfl) (by rfl) (by intro h; cases h) (by rfl) ?_
  refine X.assign (by rfl) (by rfl) ?_
  refine X.nil ?_
  cases h
  refine R.fin1 Try.results220 (by rfl) (by rfl) ?_
  rfl
theorem i_DomainEmpty_pc (b0 : TDomain) (r : Bool) (h : i_DomainEmpty b0 = some r) : PC Try.prog 185 [eTDomain b0] (bool r) := by
  unfold i_DomainEmpty at h
  refine PC.start Try.func185 Try.ntmps185 rfl ok185 rfl ?_
  refine Run.seq ?_
  refine Run.reg ?_
  refine X.box (by rfl) (by rfl) (by repeat (first | exact trivial | refine ⟨by rfl, ?_⟩ | refine ⟨by simp [setL], ?_⟩)) (by rfl) (by rfl) (by rfl) (by rfl) ?_
  refine X.assign (by rfl) (by rfl) ?_
  refine X.nil ?_
  refine Run.seq ?_
  refine Run.seq ?_
  refine Run.reg ?_
  refine X.fieldAddr_l fld71_0 (by rfl) (by rfl) ?_
  refine X.load_l shp25 (by rfl) (by rfl) (by rfl) (by rfl) (by rfl) (by rfl) ?_
  refine X.len_s elt25 (by rfl) (by exact List.length_map ..) (by rfl) ?_
  refine X.move (by rfl) (by rfl) ?_
  refine X.nil ?_
  obtain ⟨o1, ho1, h⟩ := bindE h
  refine R.join2 (β := Unit) [(1, .lptr 64 0)] [(64, .blk true [.slice (b0.MinStart.map int), .slice (b0.MaxStart.map int), .slice (b0.Modes.map l_int)])] (fun p16 S => S) (fun p16 M => M) (fun p16 => (Sum.inl p16) = o1) ?_ ?_
  · intro JJ4 hmeet3
    have hup2 := h; clear h; have h := ho1; clear ho1
    refine Run.block ?_
    refine R.bndS (t := 6) (by rfl) (fun hbd7 => ?_)
    replace hbd7 : b0.MinStart.length ≤ 9223372036854775807 := by first | (rw [List.length_map] at hbd7; exact hbd7) | simp
    refine R.loop2 (β := Int) [(1, .lptr 64 0), (6, .slice (b0.MinStart.map int)), (7, int (b0.MinStart.length : Int))] [(64, .blk true [.slice (b0.MinStart.map int), .slice (b0.MaxStart.map int), .slice (b0.Modes.map l_int)])] (fun bb S => (8, int bb) :: S) (fun bb M => M) (fun n bb => 0 ≤ bb ∧ bb + n = (b0.MinStart.length : Int) ∧ i_DomainEmpty_L1 b0 (b0.MinStart.drop bb.toNat) bb = some o1) b0.MinStart.length (0 : Int) (by repeat (first | exact trivial | refine ⟨by rfl, ?_⟩ | refine ⟨by simp [setL], ?_⟩)) (by repeat (first | exact trivial | refine ⟨by rfl, ?_⟩ | refine ⟨by simp [setL], ?_⟩)) (by rfl) (by rfl) ⟨Int.le_refl _, by simp, h⟩ ?_
    clear h
    rintro JJ7 n7 z8 hag7 ⟨hza7, hzb7, h⟩
    refine Run.seq ?_
    refine Run.reg ?_
    refine X.bin (by rfl) (by rfl) (by rfl) (by rfl) (by intro h; cases h) (by rfl) ?_
    refine X.nil ?_
    refine Run.seq ?_
    refine R.cond (by rfl) (fun hc11 => ?_) (fun hc11 => ?_)
    · obtain ⟨x9, xs10, hd7, hx7, hds7, hlt7⟩ := drop_atI hza7 hc11
      rw [hd7] at h
      rw [i_DomainEmpty_L1] at h
      refine Run.skip ?_
      refine Run.seq ?_
      refine Run.block ?_
      refine Run.seq ?_
      refine Run.reg ?_
      refine X.move (by rfl) (by rfl) ?_
      refine X.index_s elt25 (by rfl) (by rfl) (idxL_spec hx7).1 (idxL_map int hx7) (by rfl) (by rfl) (by rfl) ?_
      refine X.load_c shp3 (by rfl) (by rfl) (by rfl) (by rfl) ?_
      refine X.assign (by rfl) (by rfl) ?_
      refine X.assign (by rfl) (by rfl) ?_
      refine X.nil ?_
      refine Run.seq ?_
      obtain ⟨e12, he12, h2⟩ := bindE h
      refine R.regG [(1, .lptr 64 0), (6, .slice (b0.MinStart.map int)), (7, int (b0.MinStart.length : Int)), (8, int z8), (26, bool e12)] [(64, .blk true [.slice (b0.MinStart.map int), .slice (b0.MaxStart.map int), .slice (b0.Modes.map l_int)])] ?_ ?_
      · clear h; have h := he12; clear he12 h2
        refine X.move (by rfl) (by rfl) ?_
        refine X.fieldAddr_l fld71_1 (by rfl) (by rfl) ?_
        refine X.load_l shp25 (by rfl) (by rfl) (by rfl) (by rfl) (by rfl) (by rfl) ?_
        refine X.len_s elt25 (by rfl) (by exact List.length_map ..) (by rfl) ?_
        refine X.bin (by rfl) (by rfl) (by rfl) (by rfl) (by intro h; cases h) (by rfl) ?_
        refine X.move (by rfl) (by rfl) ?_
        refine X.ifG (by rfl) (by rfl) (by rfl) (fun hb13 => ?_) (fun hb13 => ?_)
        · replace h := condT hb13 h
          refine X.move (by rfl) (by rfl) ?_
          refine X.gyes (by rfl) (by rfl) (by first | rfl | assumption | simp_all) ?_
          refine X.fieldAddr_l fld71_1 (by rfl) (by rfl) ?_
          refine X.gyes (by rfl) (by rfl) (by first | rfl | assumption | simp_all) ?_
          refine X.load_l shp25 (by rfl) (by rfl) (by rfl) (by rfl) (by rfl) (by rfl) ?_
          refine X.gyes (by rfl) (by rfl) (by first | rfl | assumption | simp_all) ?_
          refine X.move (by rfl) (by rfl) ?_
          refine X.gyes (by rfl) (by rfl) (by first | rfl | assumption | simp_all) ?_
          obtain ⟨v14, hv14, h⟩ := bindE h
          refine X.index_s elt25 (by rfl) (by rfl) (idxL_spec hv14).1 (idxL_map int hv14) (by rfl) (by rfl) (by rfl) ?_
          refine X.gyes (by rfl) (by rfl) (by first | rfl | assumption | simp_all) ?_
          refine X.load_c shp3 (by rfl) (by rfl) (by rfl) (by rfl) ?_
          refine X.gyes (by rfl) (by rfl) (by first | rfl | assumption | simp_all) ?_
          refine X.bin (by rfl) (by rfl) (by rfl) (by rfl) (by intro h; cases h) (by rfl) ?_
          refine X.pickT (by rfl) (by first | rfl | assumption | simp_all) (by rfl) (by rfl) ?_
          cases h
          exact X.endG (by repeat (first | exact trivial | refine ⟨by rfl, ?_⟩ | refine ⟨by simp [setL], ?_⟩)) (by repeat (first | exact trivial | refine ⟨by rfl, ?_⟩ | refine ⟨by simp [setL], ?_⟩)) (by rfl) (by rfl)
        · replace h := condF hb13 h
          refine X.gno (by rfl) (by rfl) (by first | rfl | assumption | simp_all) (by rfl) ?_
          refine X.gno (by rfl) (by rfl) (by first | rfl | assumption | simp_all) (by rfl) ?_
          refine X.gno (by rfl) (by rfl) (by first | rfl | assumption | simp_all) (by rfl) ?_
          refine X.gno (by rfl) (by rfl) (by first | rfl | assumption | simp_all) (by rfl) ?_
          refine X.gno (by rfl) (by rfl) (by first | rfl | assumption | simp_all) (by rfl) ?_
          refine X.gno (by rfl) (by rfl) (by first | rfl | assumption | simp_all) (by rfl) ?_
          refine X.pickF (by rfl) (by first | rfl | assumption | simp_all) (by rfl) (by rfl) ?_
          cases h
          exact X.endG (by repeat (first | exact trivial | refine ⟨by rfl, ?_⟩ | refine ⟨by simp [setL], ?_⟩)) (by repeat (first | exact trivial | refine ⟨by rfl, ?_⟩ | refine ⟨by simp [setL], ?_⟩)) (by rfl) (by rfl)
      replace h := h2; clear h2
      refine R.cond (by rfl) (fun hc15 => ?_) (fun hc15 => ?_)
      · replace h := condT hc15 h
        refine Run.seq ?_
        refine Run.reg ?_
        refine X.assign (by rfl) (by rfl) ?_
        refine X.nil ?_
        cases h
        have h := hup2
        replace h := elimR h
        cases h
        refine R.fin1 Try.results185 (by rfl) (by rfl) ?_
        rfl
      · replace h := condF hc15 h
        refine Run.skip ?_
        refine Run.blk ?_
        refine Run.reg ?_
        refine X.add (by rfl) (by rfl) (by omega) (by rfl) ?_
        refine X.move (by rfl) (by rfl) ?_
        refine X.nil ?_
        exact hag7 (n7 - 1) (z8 + 1) _ _ (by omega) ⟨by first | omega | (dsimp only; omega), by first | omega | (dsimp only; omega), by first | (rw [hds7]; exact h) | (dsimp only; rw [hds7]; exact h)⟩ (by repeat (first | exact trivial | refine ⟨by rfl, ?_⟩ | refine ⟨by simp [setL], ?_⟩)) (by repeat (first | exact trivial | refine ⟨by rfl, ?_⟩ | refine ⟨by simp [setL], ?_⟩)) (by rfl) (by rfl)
    · rw [drop_endI hza7 hc11] at h
      rw [i_DomainEmpty_L1] at h
      refine Run.exit (by rfl) ?_
      exact hmeet3 () _ _ (Option.some.inj h) (by repeat (first | exact trivial | refine ⟨by rfl, ?_⟩ | refine ⟨by simp [setL], ?_⟩)) (by repeat (first | exact trivial | refine ⟨by rfl, ?_⟩ | refine ⟨by simp [setL], ?_⟩)) (by rfl) (by rfl)
  rintro p16 rfl
  replace h := elimL h
  refine Run.seq ?_
  refine Run.reg ?_
  refine X.fieldAddr_l fld71_2 (by rfl) (by rfl) ?_
  refine X.load_l shp63 (by rfl) (by rfl) (by rfl) (by rfl) (by rfl) (by rfl) ?_
  obtain ⟨v18, hv18, h⟩ := bindE h
  refine X.callP (slices_ContainsFunc__int_pc _ (fun x0 => i_DomainEmpty_c1 x0) _ _ (fun x0 v hv => i_DomainEmpty_c1_pc _ _ hv) _ hv18) (by rfl) (by rfl) (by rfl) (by repeat (first | exact trivial | refine ⟨by rfl, ?_⟩ | refine ⟨by simp [setL], ?_⟩)) (by rfl) (by rfl) (by rfl) (by rfl) ?_
  refine X.assign (by rfl) (by rfl) ?_
  refine X.nil ?_
  cases h
  refine R.fin1 Try.results185 (by rfl) (by rfl) ?_
  rfl
theorem i_isUsable_pc (b0 : TProject) (b1 : TDomain) (r : Bool) (h : i_isUsable b0 b1 = some r) : PC Try.prog 126 [eTProject b0, eTDomain b1] (bool r) := by
  unfold i_isUsable at h
  refine PC.start Try.func126 Try.ntmps126 rfl ok126 rfl ?_
  refine Run.seq ?_
  refine Run.reg ?_
  refine X.box (by rfl) (by rfl) (by repeat (first | exact trivial | refine ⟨by rfl, ?_⟩ | refine ⟨by simp [setL], ?_⟩)) (by rfl) (by rfl) (by rfl) (by rfl) ?_
  refine X.box (by rfl) (by rfl) (by repeat (first | exact trivial | refine ⟨by rfl, ?_⟩ | refine ⟨by simp [setL], ?_⟩)) (by rfl) (by rfl) (by rfl) (by rfl) ?_
  refine X.assign (by rfl) (by rfl) ?_
  refine X.nil ?_
  refine Run.seq ?_
  obtain ⟨v1, hv1, h⟩ := bindE h
  obtain ⟨e2, he2, h2⟩ := bindE h
  refine R.regG [(4, bool e2)] [] ?_ ?_
  · clear h; have h := he2; clear he2 h2
    refine X.load_l shp34 (by rfl) (by rfl) (by rfl) (by rfl) (by rfl) (by rfl) ?_
    refine X.load_l shp71 (by rfl) (by rfl) (by rfl) (by rfl) (by rfl) (by rfl) ?_
    refine X.callP (i_DomainForm_pc _ _ _ hv1) (by rfl) (by rfl) (by rfl) (by repeat (first | exact trivial | refine ⟨by rfl, ?_⟩ | refine ⟨by simp [setL], ?_⟩)) (by rfl) (by rfl) (by rfl) (by rfl) ?_
    refine X.move (by rfl) (by rfl) ?_
    refine X.ifG (by rfl) (by rfl) (by rfl) (fun hb3 => ?_) (fun hb3 => ?_)
    · replace h := condT hb3 h
      refine X.load_l shp71 (by rfl) (by rfl) (by rfl) (by rfl) (by rfl) (by rfl) ?_
      refine X.gyes (by rfl) (by rfl) (by first | rfl | assumption | simp_all) ?_
      obtain ⟨v4, hv4, h⟩ := bindE h
      refine X.callP (i_DomainEmpty_pc _ _ hv4) (by rfl) (by rfl) (by rfl) (by repeat (first | exact trivial | refine ⟨by rfl, ?_⟩ | refine ⟨by simp [setL], ?_⟩)) (by rfl) (by rfl) (by rfl) (by rfl) ?_
      refine X.gyes (by rfl) (by rfl) (by first | rfl | assumption | simp_all) ?_
      refine X.un (by rfl) (by rfl) (by rfl) ?_
      refine X.pickT (by rfl) (by first | rfl | assumption | simp_all) (by rfl) (by rfl) ?_
      refine X.assign (by rfl) (by rfl) ?_
      cases h
      exact X.endG (by repeat (first | exact trivial | refine ⟨by rfl, ?_⟩ | refine ⟨by simp [setL], ?_⟩)) (by repeat (first | exact trivial | refine ⟨by rfl, ?_⟩ | refine ⟨by simp [setL], ?_⟩)) (by rfl) (by rfl)
    · replace h := condF hb3 h
      refine X.gno (by rfl) (by rfl) (by first | rfl | assumption | simp_all) (by rfl) ?_
      refine X.gno (by rfl) (by rfl) (by first | rfl | assumption | simp_all) (by rfl) ?_
      refine X.pickF (by rfl) (by first | rfl | assumption | simp_all) (by rfl) (by rfl) ?_
      refine X.assign (by rfl) (by rfl) ?_
      cases h
      exact X.endG (by repeat (first | exact trivial | refine ⟨by rfl, ?_⟩ | refine ⟨by simp [setL], ?_⟩)) (by repeat (first | exact trivial | refine ⟨by rfl, ?_⟩ | refine ⟨by simp [setL], ?_⟩)) (by rfl) (by rfl)
  replace h := h2; clear h2
  cases h
  refine R.fin1 Try.results126 (by rfl) (by rfl) ?_
  rfl
theorem s_ChooseDecision_pc (b0 : TProject) (b1 : TDomain) (r : TLiteral × Bool) (h : s_ChooseDecision b0 b1 = some r) : PC Try.prog 55 [eTProject b0, eTDomain b1] (.tuple [eTLiteral r.1, bool r.2]) := by
  unfold s_ChooseDecision at h
  refine PC.start Try.func55 Try.ntmps55 rfl ok55 rfl ?_
  refine Run.seq ?_
  refine Run.reg ?_
  refine X.box (by rfl) (by rfl) (by repeat (first | exact trivial | refine ⟨by rfl, ?_⟩ | refine ⟨by simp [setL], ?_⟩)) (by rfl) (by rfl) (by rfl) (by rfl) ?_
  refine X.box (by rfl) (by rfl) (by repeat (first | exact trivial | refine ⟨by rfl, ?_⟩ | refine ⟨by simp [setL], ?_⟩)) (by rfl) (by rfl) (by rfl) (by rfl) ?_
  refine X.alloc zer97 (by rfl) (by rfl) (by rfl) ?_
  refine X.assign (by rfl) (by rfl) ?_
  refine X.nil ?_
  refine Run.seq ?_
  refine Run.reg ?_
  refine X.assign (by rfl) (by rfl) ?_
  refine X.nil ?_
  refine Run.seq ?_
  refine Run.seq ?_
  refine Run.reg ?_
  refine X.load_l shp34 (by rfl) (by rfl) (by rfl) (by rfl) (by rfl) (by rfl) ?_
  refine X.load_l shp71 (by rfl) (by rfl) (by rfl) (by rfl) (by rfl) (by rfl) ?_
  obtain ⟨v1, hv1, h⟩ := bindE h
  refine X.callP (s_l14Ok_pc _ _ _ hv1) (by rfl) (by rfl) (by rfl) (by repeat (first | exact trivial | refine ⟨by rfl, ?_⟩ | refine ⟨by simp [setL], ?_⟩)) (by rfl) (by rfl) (by rfl) (by rfl) ?_
  refine X.un (by rfl) (by rfl) (by rfl) ?_
  refine X.nil ?_
  refine R.cond (by rfl) (fun hc2 => ?_) (fun hc2 => ?_)
  · replace h := condT hc2 h
    refine Run.seq ?_
    refine Run.reg ?_
    refine X.build zer97 pl97 (by rfl) (by rfl) (by repeat (first | exact trivial | refine ⟨by rfl, ?_⟩ | refine ⟨by simp [setL], ?_⟩)) (by rfl) (by rfl) (by rfl) ?_
    refine X.store_l shp97 (by rfl) (by rfl) (by rfl) (by rfl) (by repeat (first | exact trivial | refine ⟨by rfl, ?_⟩ | refine ⟨by simp [setL], ?_⟩)) (by rfl) (by rfl) (by rfl) ?_
    refine X.assign (by rfl) (by rfl) ?_
    refine X.nil ?_
    cases h
    refine R.finC2 Try.results55 shp97 (by rfl) (by rfl) (by rfl) (by rfl) (by rfl) (by rfl) (by repeat (first | exact trivial | refine ⟨by rfl, ?_⟩ | refine ⟨by simp [setL], ?_⟩)) ?_
    rfl
  · replace h := condF hc2 h
    refine Run.skip ?_
    refine Run.seq ?_
    refine Run.seq ?_
    refine Run.reg ?_
    refine X.fieldAddr_l fld34_1 (by rfl) (by rfl) ?_
    refine X.load_l shp30 (by rfl) (by rfl) (by rfl) (by rfl) (by rfl) (by rfl) ?_
    refine X.len_s elt30 (by rfl) (by exact List.length_map ..) (by rfl) ?_
    refine X.move (by rfl) (by rfl) ?_
    refine X.nil ?_
    obtain ⟨o3, ho3, h⟩ := bindE h
    refine R.join2 (β := Int) [(2, .lptr 128 0), (3, .lptr 192 0), (4, .lptr 256 0)] [(128, .blk true [int b0.Deadline, .slice (b0.Activities.map eTActivity), .slice (b0.Links.map eTLink), .slice (b0.Resources.map eTResource), .slice (b0.Stocks.map int)]), (192, .blk true [.slice (b1.MinStart.map int), .slice (b1.MaxStart.map int), .slice (b1.Modes.map l_int)]), (256, .blk true [int 0, int 0, int 0])] (fun p26 S => (6, int p26) :: S) (fun p26 M => M) (fun p26 => p26 = o3) ?_ ?_
    · intro JJ6 hmeet5
      have hup4 := h; clear h; have h := ho3; clear ho3
      refine Run.block ?_
      refine R.bndS (t := 17) (by rfl) (fun hbd9 => ?_)
      replace hbd9 : b0.Activities.length ≤ 9223372036854775807 := by first | (rw [List.length_map] at hbd9; exact hbd9) | simp
      refine R.loop2 (β := Int × Int) [(2, .lptr 128 0), (3, .lptr 192 0), (4, .lptr 256 0), (18, int (b0.Activities.length : Int))] [(128, .blk true [int b0.Deadline, .slice (b0.Activities.map eTActivity), .slice (b0.Links.map eTLink), .slice (b0.Resources.map eTResource), .slice (b0.Stocks.map int)]), (192, .blk true [.slice (b1.MinStart.map int), .slice (b1.MaxStart.map int), .slice (b1.Modes.map l_int)]), (256, .blk true [int 0, int 0, int 0])] (fun bb S => (6, int bb.2) :: (19, int bb.1) :: S) (fun bb M => M) (fun n bb => 0 ≤ bb.1 ∧ bb.1 + n = (b0.Activities.length : Int) ∧ s_ChooseDecision_L1 b1 (b0.Activities.drop bb.1.toNat) bb.1 bb.2 = some o3) b0.Activities.length (0, (-1)) (by repeat (first | exact trivial | refine ⟨by rfl, ?_⟩ | refine ⟨by simp [setL], ?_⟩)) (by repeat (first | exact trivial | refine ⟨by rfl, ?_⟩ | refine ⟨by simp [setL], ?_⟩)) (by rfl) (by rfl) ⟨Int.le_refl _, by simp, h⟩ ?_
      clear h
      rintro JJ9 n9 ⟨z10, a11⟩ hag9 ⟨hza9, hzb9, h⟩
      dsimp only at hza9 hzb9 h
      refine Run.seq ?_
      refine Run.reg ?_
      refine X.bin (by rfl) (by rfl) (by rfl) (by rfl) (by intro h; cases h) (by rfl) ?_
      refine X.nil ?_
      refine Run.seq ?_
      refine R.cond (by rfl) (fun hc14 => ?_) (fun hc14 => ?_)
      · obtain ⟨x12, xs13, hd9, hx9, hds9, hlt9⟩ := drop_atI hza9 hc14
        rw [hd9] at h
        rw [s_ChooseDecision_L1] at h
        refine Run.skip ?_
        refine Run.seq ?_
        refine Run.block ?_
        refine Run.seq ?_
        refine Run.reg ?_
        refine X.move (by rfl) (by rfl) ?_
        refine X.assign (by rfl) (by rfl) ?_
        refine X.nil ?_
        refine Run.seq ?_
        refine Run.seq ?_
        obtain ⟨v15, hv15, h⟩ := bindE h
        obtain ⟨e16, he16, h2⟩ := bindE h
        refine R.drawG [(2, .lptr 128 0), (3, .lptr 192 0), (4, .lptr 256 0), (6, int a11), (7, int z10), (18, int (b0.Activities.length : Int)), (19, int z10), (41, bool e16)] [(128, .blk true [int b0.Deadline, .slice (b0.Activities.map eTActivity), .slice (b0.Links.map eTLink), .slice (b0.Resources.map eTResource), .slice (b0.Stocks.map int)]), (192, .blk true [.slice (b1.MinStart.map int), .slice (b1.MaxStart.map int), .slice (b1.Modes.map l_int)]), (256, .blk true [int 0, int 0, int 0])] (footOf [(1, ([192], [])), (9, ([192], [])), (14, ([192], []))]) mixed (by kernel_rfl) (by kernel_rfl) ?_ ?_
        · clear h; have h := he16; clear he16 h2
          refine X.fieldAddr_l fld71_2 (by rfl) (by rfl) ?_
          refine X.load_l shp63 (by rfl) (by rfl) (by rfl) (by rfl) (by rfl) (by rfl) ?_
          refine X.move (by rfl) (by rfl) ?_
          refine X.index_s elt63 (by rfl) (by rfl) (idxL_spec hv15).1 (idxL_map l_int hv15) (by rfl) (by rfl) (by rfl) ?_
          refine X.load_c shp25 (by rfl) (by rfl) (by rfl) (by rfl) ?_
          refine X.len_s elt25 (by rfl) (by exact List.length_map ..) (by rfl) ?_
          refine X.bin (by rfl) (by rfl) (by rfl) (by rfl) (by intro h; cases h) (by rfl) ?_
          refine X.move (by rfl) (by rfl) ?_
          refine X.ifG (by rfl) (by rfl) (by rfl) (fun hb17 => ?_) (fun hb17 => ?_)
          · replace h := condT hb17 h
            refine X.fieldAddr_l fld71_0 (by rfl) (by rfl) ?_
            refine X.gyes (by rfl) (by rfl) (by first | rfl | assumption | simp_all) ?_
            refine X.load_l shp25 (by rfl) (by rfl) (by rfl) (by rfl) (by rfl) (by rfl) ?_
            refine X.gyes (by rfl) (by rfl) (by first | rfl | assumption | simp_all) ?_
            refine X.move (by rfl) (by rfl) ?_
            refine X.gyes (by rfl) (by rfl) (by first | rfl | assumption | simp_all) ?_
            obtain ⟨v18, hv18, h⟩ := bindE h
            refine X.index_s elt25 (by rfl) (by rfl) (idxL_spec hv18).1 (idxL_map int hv18) (by rfl) (by rfl) (by rfl) ?_
            refine X.gyes (by rfl) (by rfl) (by first | rfl | assumption | simp_all) ?_
            refine X.load_c shp3 (by rfl) (by rfl) (by rfl) (by rfl) ?_
            refine X.gyes (by rfl) (by rfl) (by first | rfl | assumption | simp_all) ?_
            refine X.fieldAddr_l fld71_1 (by rfl) (by rfl) ?_
            refine X.gyes (by rfl) (by rfl) (by first | rfl | assumption | simp_all) ?_
            refine X.load_l shp25 (by rfl) (by rfl) (by rfl) (by rfl) (by rfl) (by rfl) ?_
            refine X.gyes (by rfl) (by rfl) (by first | rfl | assumption | simp_all) ?_
            refine X.move (by rfl) (by rfl) ?_
            refine X.gyes (by rfl) (by rfl) (by first | rfl | assumption | simp_all) ?_
            obtain ⟨v19, hv19, h⟩ := bindE h
            refine X.index_s elt25 (by rfl) (by rfl) (idxL_spec hv19).1 (idxL_map int hv19) (by rfl) (by rfl) (by rfl) ?_
            refine X.gyes (by rfl) (by rfl) (by first | rfl | assumption | simp_all) ?_
            refine X.load_c shp3 (by rfl) (by rfl) (by rfl) (by rfl) ?_
            refine X.gyes (by rfl) (by rfl) (by first | rfl | assumption | simp_all) ?_
            refine X.bin (by rfl) (by rfl) (by rfl) (by rfl) (by intro h; cases h) (by rfl) ?_
            refine X.pickT (by rfl) (by first | rfl | assumption | simp_all) (by rfl) (by rfl) ?_
            cases h
            exact X.endG (by repeat (first | exact trivial | refine ⟨by rfl, ?_⟩ | refine ⟨by simp [setL], ?_⟩)) (by repeat (first | exact trivial | refine ⟨by rfl, ?_⟩ | refine ⟨by simp [setL], ?_⟩)) (by rfl) (by rfl)
          · replace h := condF hb17 h
            refine X.gno (by rfl) (by rfl) (by first | rfl | assumption | simp_all) (by rfl) ?_
            refine X.gno (by rfl) (by rfl) (by first | rfl | assumption | simp_all) (by rfl) ?_
            refine X.gno (by rfl) (by rfl) (by first | rfl | assumption | simp_all) (by rfl) ?_
            refine X.gno (by rfl) (by rfl) (by first | rfl | assumption | simp_all) (by rfl) ?_
            refine X.gno (by rfl) (by rfl) (by first | rfl | assumption | simp_all) (by rfl) ?_
            refine X.gno (by rfl) (by rfl) (by first | rfl | assumption | simp_all) (by rfl) ?_
            refine X.gno (by rfl) (by rfl) (by first | rfl | assumption | simp_all) (by rfl) ?_
            refine X.gno (by rfl) (by rfl) (by first | rfl | assumption | simp_all) (by rfl) ?_
            refine X.gno (by rfl) (by rfl) (by first | rfl | assumption | simp_all) (by rfl) ?_
            refine X.gno (by rfl) (by rfl) (by first | rfl | assumption | simp_all) (by rfl) ?_
            refine X.pickF (by rfl) (by first | rfl | assumption | simp_all) (by rfl) (by rfl) ?_
            cases h
            exact X.endG (by repeat (first | exact trivial | refine ⟨by rfl, ?_⟩ | refine ⟨by simp [setL], ?_⟩)) (by repeat (first | exact trivial | refine ⟨by rfl, ?_⟩ | refine ⟨by simp [setL], ?_⟩)) (by rfl) (by rfl)
        replace h := h2; clear h2
        refine R.cond (by rfl) (fun hc20 => ?_) (fun hc20 => ?_)
        · replace h := condT hc20 h
          refine Run.exit (by rfl) ?_
          refine Run.reg ?_
          refine X.add (by rfl) (by rfl) (by omega) (by rfl) ?_
          refine X.move (by rfl) (by rfl) ?_
          refine X.nil ?_
          exact hag9 (n9 - 1) (z10 + 1, a11) _ _ (by omega) ⟨by first | omega | (dsimp only; omega), by first | omega | (dsimp only; omega), by first | (rw [hds9]; exact h) | (dsimp only; rw [hds9]; exact h)⟩ (by repeat (first | exact trivial | refine ⟨by rfl, ?_⟩ | refine ⟨by simp [setL], ?_⟩)) (by repeat (first | exact trivial | refine ⟨by rfl, ?_⟩ | refine ⟨by simp [setL], ?_⟩)) (by rfl) (by rfl)
        · replace h := condF hc20 h
          refine Run.skip ?_
          refine Run.seq ?_
          obtain ⟨e21, he21, h2⟩ := bindE h
          refine R.drawG [(2, .lptr 128 0), (3, .lptr 192 0), (4, .lptr 256 0), (6, int a11), (7, int z10), (18, int (b0.Activities.length : Int)), (19, int z10), (56, bool e21)] [(128, .blk true [int b0.Deadline, .slice (b0.Activities.map eTActivity), .slice (b0.Links.map eTLink), .slice (b0.Resources.map eTResource), .slice (b0.Stocks.map int)]), (192, .blk true [.slice (b1.MinStart.map int), .slice (b1.MaxStart.map int), .slice (b1.Modes.map l_int)]), (256, .blk true [int 0, int 0, int 0])] (footOf [(4, ([192], [])), (9, ([192], []))]) mixed (by kernel_rfl) (by kernel_rfl) ?_ ?_
          · clear h; have h := he21; clear he21 h2
            refine X.move (by rfl) (by rfl) ?_
            refine X.bin (by rfl) (by rfl) (by rfl) (by rfl) (by intro h; cases h) (by rfl) ?_
            refine X.move (by rfl) (by rfl) ?_
            refine X.ifG (by rfl) (by rfl) (by rfl) (fun hb22 => ?_) (fun hb22 => ?_)
            · replace h := condF hb22 h
              refine X.fieldAddr_l fld71_0 (by rfl) (by rfl) ?_
              refine X.gyes (by rfl) (by rfl) (by first | rfl | assumption | simp_all) ?_
              refine X.load_l shp25 (by rfl) (by rfl) (by rfl) (by rfl) (by rfl) (by rfl) ?_
              refine X.gyes (by rfl) (by rfl) (by first | rfl | assumption | simp_all) ?_
              refine X.move (by rfl) (by rfl) ?_
              refine X.gyes (by rfl) (by rfl) (by first | rfl | assumption | simp_all) ?_
              obtain ⟨v23, hv23, h⟩ := bindE h
              refine X.index_s elt25 (by rfl) (by rfl) (idxL_spec hv23).1 (idxL_map int hv23) (by rfl) (by rfl) (by rfl) ?_
              refine X.gyes (by rfl) (by rfl) (by first | rfl | assumption | simp_all) ?_
              refine X.load_c shp3 (by rfl) (by rfl) (by rfl) (by rfl) ?_
              refine X.gyes (by rfl) (by rfl) (by first | rfl | assumption | simp_all) ?_
              refine X.fieldAddr_l fld71_0 (by rfl) (by rfl) ?_
              refine X.gyes (by rfl) (by rfl) (by first | rfl | assumption | simp_all) ?_
              refine X.load_l shp25 (by rfl) (by rfl) (by rfl) (by rfl) (by rfl) (by rfl) ?_
              refine X.gyes (by rfl) (by rfl) (by first | rfl | assumption | simp_all) ?_
              refine X.move (by rfl) (by rfl) ?_
              refine X.gyes (by rfl) (by rfl) (by first | rfl | assumption | simp_all) ?_
              obtain ⟨v24, hv24, h⟩ := bindE h
              refine X.index_s elt25 (by rfl) (by rfl) (idxL_spec hv24).1 (idxL_map int hv24) (by rfl) (by rfl) (by rfl) ?_
              refine X.gyes (by rfl) (by rfl) (by first | rfl | assumption | simp_all) ?_
              refine X.load_c shp3 (by rfl) (by rfl) (by rfl) (by rfl) ?_
              refine X.gyes (by rfl) (by rfl) (by first | rfl | assumption | simp_all) ?_
              refine X.bin (by rfl) (by rfl) (by rfl) (by rfl) (by intro h; cases h) (by rfl) ?_
              refine X.pickF (by rfl) (by first | rfl | assumption | simp_all) (by rfl) (by rfl) ?_
              cases h
              exact X.endG (by repeat (first | exact trivial | refine ⟨by rfl, ?_⟩ | refine ⟨by simp [setL], ?_⟩)) (by repeat (first | exact trivial | refine ⟨by rfl, ?_⟩ | refine ⟨by simp [setL], ?_⟩)) (by rfl) (by rfl)
            · replace h := condT hb22 h
              refine X.gno (by rfl) (by rfl) (by first | rfl | assumption | simp_all) (by rfl) ?_
              refine X.gno (by rfl) (by rfl) (by first | rfl | assumption | simp_all) (by rfl) ?_
              refine X.gno (by rfl) (by rfl) (by first | rfl | assumption | simp_all) (by rfl) ?_
              refine X.gno (by rfl) (by rfl) (by first | rfl | assumption | simp_all) (by rfl) ?_
              refine X.gno (by rfl) (by rfl) (by first | rfl | assumption | simp_all) (by rfl) ?_
              refine X.gno (by rfl) (by rfl) (by first | rfl | assumption | simp_all) (by rfl) ?_
              refine X.gno (by rfl) (by rfl) (by first | rfl | assumption | simp_all) (by rfl) ?_
              refine X.gno (by rfl) (by rfl) (by first | rfl | assumption | simp_all) (by rfl) ?_
              refine X.gno (by rfl) (by rfl) (by first | rfl | assumption | simp_all) (by rfl) ?_
              refine X.gno (by rfl) (by rfl) (by first | rfl | assumption | simp_all) (by rfl) ?_
              refine X.pickT (by rfl) (by first | rfl | assumption | simp_all) (by rfl) (by rfl) ?_
              cases h
              exact X.endG (by repeat (first | exact trivial | refine ⟨by rfl, ?_⟩ | refine ⟨by simp [setL], ?_⟩)) (by repeat (first | exact trivial | refine ⟨by rfl, ?_⟩ | refine ⟨by simp [setL], ?_⟩)) (by rfl) (by rfl)
          replace h := h2; clear h2
          refine R.cond (by rfl) (fun hc25 => ?_) (fun hc25 => ?_)
          · replace h := condT hc25 h
            refine Run.reg ?_
            refine X.move (by rfl) (by rfl) ?_
            refine X.assign (by rfl) (by rfl) ?_
            refine X.nil ?_
            refine Run.blk ?_
            refine Run.reg ?_
            refine X.add (by rfl) (by rfl) (by omega) (by rfl) ?_
            refine X.move (by rfl) (by rfl) ?_
            refine X.nil ?_
            exact hag9 (n9 - 1) (z10 + 1, z10) _ _ (by omega) ⟨by first | omega | (dsimp only; omega), by first | omega | (dsimp only; omega), by first | (rw [hds9]; exact h) | (dsimp only; rw [hds9]; exact h)⟩ (by repeat (first | exact trivial | refine ⟨by rfl, ?_⟩ | refine ⟨by simp [setL], ?_⟩)) (by repeat (first | exact trivial | refine ⟨by rfl, ?_⟩ | refine ⟨by simp [setL], ?_⟩)) (by rfl) (by rfl)
          · replace h := condF hc25 h
            refine Run.skip ?_
            refine Run.blk ?_
            refine Run.reg ?_
            refine X.add (by rfl) (by rfl) (by omega) (by rfl) ?_
            refine X.move (by rfl) (by rfl) ?_
            refine X.nil ?_
            exact hag9 (n9 - 1) (z10 + 1, a11) _ _ (by omega) ⟨by first | omega | (dsimp only; omega), by first | omega | (dsimp only; omega), by first | (rw [hds9]; exact h) | (dsimp only; rw [hds9]; exact h)⟩ (by repeat (first | exact trivial | refine ⟨by rfl, ?_⟩ | refine ⟨by simp [setL], ?_⟩)) (by repeat (first | exact trivial | refine ⟨by rfl, ?_⟩ | refine ⟨by simp [setL], ?_⟩)) (by rfl) (by rfl)
      · rw [drop_endI hza9 hc14] at h
        rw [s_ChooseDecision_L1] at h
        refine Run.exit (by rfl) ?_
        exact hmeet5 a11 _ _ (Option.some.inj h) (by repeat (first | exact trivial | refine ⟨by rfl, ?_⟩ | refine ⟨by simp [setL], ?_⟩)) (by repeat (first | exact trivial | refine ⟨by rfl, ?_⟩ | refine ⟨by simp [setL], ?_⟩)) (by rfl) (by rfl)
    rintro p26 rfl
    refine Run.seq ?_
    refine Run.seq ?_
    refine Run.reg ?_
    refine X.move (by rfl) (by rfl) ?_
    refine X.bin (by rfl) (by rfl) (by rfl) (by rfl) (by intro h; cases h) (by rfl) ?_
    refine X.nil ?_
    refine R.cond (by rfl) (fun hc27 => ?_) (fun hc27 => ?_)
    · replace h := condT hc27 h
      refine Run.seq ?_
      refine Run.reg ?_
      refine X.build zer97 pl97 (by rfl) (by rfl) (by repeat (first | exact trivial | refine ⟨by rfl, ?_⟩ | refine ⟨by simp [setL], ?_⟩)) (by rfl) (by rfl) (by rfl) ?_
      refine X.store_l shp97 (by rfl) (by rfl) (by rfl) (by rfl) (by repeat (first | exact trivial | refine ⟨by rfl, ?_⟩ | refine ⟨by simp [setL], ?_⟩)) (by rfl) (by rfl) (by rfl) ?_
      refine X.assign (by rfl) (by rfl) ?_
      refine X.nil ?_
      cases h
      refine R.finC2 Try.results55 shp97 (by rfl) (by rfl) (by rfl) (by rfl) (by rfl) (by rfl) (by repeat (first | exact trivial | refine ⟨by rfl, ?_⟩ | refine ⟨by simp [setL], ?_⟩)) ?_
      rfl
    · replace h := condF hc27 h
      refine Run.skip ?_
      refine Run.seq ?_
      refine Run.seq ?_
      refine Run.reg ?_
      refine X.fieldAddr_l fld71_2 (by rfl) (by rfl) ?_
      refine X.load_l shp63 (by rfl) (by rfl) (by rfl) (by rfl) (by rfl) (by rfl) ?_
      refine X.move (by rfl) (by rfl) ?_
      obtain ⟨v28, hv28, h⟩ := bindE h
      refine X.index_s elt63 (by rfl) (by rfl) (idxL_spec hv28).1 (idxL_map l_int hv28) (by rfl) (by rfl) (by rfl) ?_
      refine X.load_c shp25 (by rfl) (by rfl) (by rfl) (by rfl) ?_
      refine X.len_s elt25 (by rfl) (by exact List.length_map ..) (by rfl) ?_
      refine X.bin (by rfl) (by rfl) (by rfl) (by rfl) (by intro h; cases h) (by rfl) ?_
      refine X.nil ?_
      refine R.cond (by rfl) (fun hc29 => ?_) (fun hc29 => ?_)
      · replace h := condT hc29 h
        refine Run.seq ?_
        refine Run.reg ?_
        refine X.move (by rfl) (by rfl) ?_
        refine X.fieldAddr_l fld71_0 (by rfl) (by rfl) ?_
        refine X.load_l shp25 (by rfl) (by rfl) (by rfl) (by rfl) (by rfl) (by rfl) ?_
        refine X.move (by rfl) (by rfl) ?_
        obtain ⟨v30, hv30, h⟩ := bindE h
        refine X.index_s elt25 (by rfl) (by rfl) (idxL_spec hv30).1 (idxL_map int hv30) (by rfl) (by rfl) (by rfl) ?_
        refine X.load_c shp3 (by rfl) (by rfl) (by rfl) (by rfl) ?_
        refine X.build zer97 pl97 (by rfl) (by rfl) (by repeat (first | exact trivial | refine ⟨by rfl, ?_⟩ | refine ⟨by simp [setL], ?_⟩)) (by rfl) (by rfl) (by rfl) ?_
        refine X.store_l shp97 (by rfl) (by rfl) (by rfl) (by rfl) (by repeat (first | exact trivial | refine ⟨by rfl, ?_⟩ | refine ⟨by simp [setL], ?_⟩)) (by rfl) (by rfl) (by rfl) ?_
        refine X.assign (by rfl) (by rfl) ?_
        refine X.nil ?_
        cases h
        refine R.finC2 Try.results55 shp97 (by rfl) (by rfl) (by rfl) (by rfl) (by rfl) (by rfl) (by repeat (first | exact trivial | refine ⟨by rfl, ?_⟩ | refine ⟨by simp [setL], ?_⟩)) ?_
        rfl
      · replace h := condF hc29 h
        refine Run.skip ?_
        refine Run.seq ?_
        refine Run.reg ?_
        refine X.fieldAddr_l fld71_2 (by rfl) (by rfl) ?_
        refine X.load_l shp63 (by rfl) (by rfl) (by rfl) (by rfl) (by rfl) (by rfl) ?_
        refine X.move (by rfl) (by rfl) ?_
        refine X.index_s elt63 (by rfl) (by rfl) (idxL_spec hv28).1 (idxL_map l_int hv28) (by rfl) (by rfl) (by rfl) ?_
        refine X.load_c shp25 (by rfl) (by rfl) (by rfl) (by rfl) ?_
        obtain ⟨v31, hv31, h⟩ := bindE h
        refine X.index_s elt25 (by rfl) (by rfl) (idxL_spec hv31).1 (idxL_map int hv31) (by rfl) (by rfl) (by rfl) ?_
        refine X.load_c shp3 (by rfl) (by rfl) (by rfl) (by rfl) ?_
        refine X.assign (by rfl) (by rfl) ?_
        refine X.nil ?_
        refine Run.seq ?_
        refine Run.seq ?_
        refine Run.reg ?_
        refine X.fieldAddr_l fld71_2 (by rfl) (by rfl) ?_
        refine X.load_l shp63 (by rfl) (by rfl) (by rfl) (by rfl) (by rfl) (by rfl) ?_
        refine X.move (by rfl) (by rfl) ?_
        refine X.index_s elt63 (by rfl) (by rfl) (idxL_spec hv28).1 (idxL_map l_int hv28) (by rfl) (by rfl) (by rfl) ?_
        refine X.load_c shp25 (by rfl) (by rfl) (by rfl) (by rfl) ?_
        refine X.len_s elt25 (by rfl) (by exact List.length_map ..) (by rfl) ?_
        refine X.move (by rfl) (by rfl) ?_
        refine X.nil ?_
        obtain ⟨o32, ho32, h⟩ := bindE h
        refine R.join2 (β := Int) [(4, .lptr 256 0), (6, int p26)] [(256, .blk true [int 0, int 0, int 0])] (fun p48 S => (8, int p48) :: S) (fun p48 M => M) (fun p48 => p48 = o32) ?_ ?_
        · intro JJ35 hmeet34
          have hup33 := h; clear h; have h := ho32; clear ho32
          refine Run.block ?_
          refine R.bndS (t := 66) (by rfl) (fun hbd38 => ?_)
          replace hbd38 : v28.length ≤ 9223372036854775807 := by first | (rw [List.length_map] at hbd38; exact hbd38) | simp
          refine R.loop2 (β := Int × Int) [(2, .lptr 128 0), (4, .lptr 256 0), (6, int p26), (87, .slice (v28.map int)), (88, int (v28.length : Int))] [(128, .blk true [int b0.Deadline, .slice (b0.Activities.map eTActivity), .slice (b0.Links.map eTLink), .slice (b0.Resources.map eTResource), .slice (b0.Stocks.map int)]), (256, .blk true [int 0, int 0, int 0])] (fun bb S => (8, int bb.2) :: (89, int bb.1) :: S) (fun bb M => M) (fun n bb => 0 ≤ bb.1 ∧ bb.1 + n = (v28.length : Int) ∧ s_ChooseDecision_L2 b0 p26 (v28.drop bb.1.toNat) bb.1 bb.2 = some o32) v28.length (0, v31) (by repeat (first | exact trivial | refine ⟨by rfl, ?_⟩ | refine ⟨by simp [setL], ?_⟩)) (by repeat (first | exact trivial | refine ⟨by rfl, ?_⟩ | refine ⟨by simp [setL], ?_⟩)) (by rfl) (by rfl) ⟨Int.le_refl _, by simp, h⟩ ?_
          clear h
          rintro JJ38 n38 ⟨z39, a40⟩ hag38 ⟨hza38, hzb38, h⟩
          dsimp only at hza38 hzb38 h
          refine Run.seq ?_
          refine Run.reg ?_
          refine X.bin (by rfl) (by rfl) (by rfl) (by rfl) (by intro h; cases h) (by rfl) ?_
          refine X.nil ?_
          refine Run.seq ?_
          refine R.cond (by rfl) (fun hc43 => ?_) (fun hc43 => ?_)
          · obtain ⟨x41, xs42, hd38, hx38, hds38, hlt38⟩ := drop_atI hza38 hc43
            rw [hd38] at h
            rw [s_ChooseDecision_L2] at h
            refine Run.skip ?_
            refine Run.seq ?_
            refine Run.block ?_
            refine Run.seq ?_
            refine Run.reg ?_
            refine X.index_s elt25 (by rfl) (by rfl) (idxL_spec hx38).1 (idxL_map int hx38) (by rfl) (by rfl) (by rfl) ?_
            refine X.load_c shp3 (by rfl) (by rfl) (by rfl) (by rfl) ?_
            refine X.assign (by rfl) (by rfl) ?_
            refine X.nil ?_
            refine Run.seq ?_
            refine Run.draw (footOf [(1, ([128], [])), (11, ([128], []))]) mixed (by kernel_rfl) (by kernel_rfl) ?_
            refine X.fieldAddr_l fld34_1 (by rfl) (by rfl) ?_
            refine X.load_l shp30 (by rfl) (by rfl) (by rfl) (by rfl) (by rfl) (by rfl) ?_
            refine X.move (by rfl) (by rfl) ?_
            obtain ⟨v44, hv44, h⟩ := bindE h
            refine X.index_s elt30 (by rfl) (by rfl) (idxL_spec hv44).1 (idxL_map eTActivity hv44) (by rfl) (by rfl) (by rfl) ?_
            refine X.fieldAddr_c fld127_2 (by rfl) (by rfl) ?_
            refine X.load_c shp125 (by rfl) (by rfl) (by rfl) (by rfl) ?_
            refine X.move (by rfl) (by rfl) ?_
            obtain ⟨v45, hv45, h⟩ := bindE h
            refine X.index_s elt125 (by rfl) (by rfl) (idxL_spec hv45).1 (idxL_map eTMode hv45) (by rfl) (by rfl) (by rfl) ?_
            refine X.fieldAddr_c fld129_0 (by rfl) (by rfl) ?_
            refine X.load_c shp3 (by rfl) (by rfl) (by rfl) (by rfl) ?_
            refine X.fieldAddr_l fld34_1 (by rfl) (by rfl) ?_
            refine X.load_l shp30 (by rfl) (by rfl) (by rfl) (by rfl) (by rfl) (by rfl) ?_
            refine X.move (by rfl) (by rfl) ?_
            refine X.index_s elt30 (by rfl) (by rfl) (idxL_spec hv44).1 (idxL_map eTActivity hv44) (by rfl) (by rfl) (by rfl) ?_
            refine X.fieldAddr_c fld127_2 (by rfl) (by rfl) ?_
            refine X.load_c shp125 (by rfl) (by rfl) (by rfl) (by rfl) ?_
            refine X.move (by rfl) (by rfl) ?_
            obtain ⟨v46, hv46, h⟩ := bindE h
            refine X.index_s elt125 (by rfl) (by rfl) (idxL_spec hv46).1 (idxL_map eTMode hv46) (by rfl) (by rfl) (by rfl) ?_
            refine X.fieldAddr_c fld129_0 (by rfl) (by rfl) ?_
            refine X.load_c shp3 (by rfl) (by rfl) (by rfl) (by rfl) ?_
            refine X.bin (by rfl) (by rfl) (by rfl) (by rfl) (by intro h; cases h) (by rfl) ?_
            refine X.nil ?_
            refine R.cond (by rfl) (fun hc47 => ?_) (fun hc47 => ?_)
            · replace h := condT hc47 h
              refine Run.reg ?_
              refine X.move (by rfl) (by rfl) ?_
              refine X.assign (by rfl) (by rfl) ?_
              refine X.nil ?_
              refine Run.blk ?_
              refine Run.reg ?_
              refine X.add (by rfl) (by rfl) (by omega) (by rfl) ?_
              refine X.move (by rfl) (by rfl) ?_
              refine X.nil ?_
              exact hag38 (n38 - 1) (z39 + 1, x41) _ _ (by omega) ⟨by first | omega | (dsimp only; omega), by first | omega | (dsimp only; omega), by first | (rw [hds38]; exact h) | (dsimp only; rw [hds38]; exact h)⟩ (by repeat (first | exact trivial | refine ⟨by rfl, ?_⟩ | refine ⟨by simp [setL], ?_⟩)) (by repeat (first | exact trivial | refine ⟨by rfl, ?_⟩ | refine ⟨by simp [setL], ?_⟩)) (by rfl) (by rfl)
            · replace h := condF hc47 h
              refine Run.skip ?_
              refine Run.blk ?_
              refine Run.reg ?_
              refine X.add (by rfl) (by rfl) (by omega) (by rfl) ?_
              refine X.move (by rfl) (by rfl) ?_
              refine X.nil ?_
              exact hag38 (n38 - 1) (z39 + 1, a40) _ _ (by omega) ⟨by first | omega | (dsimp only; omega), by first | omega | (dsimp only; omega), by first | (rw [hds38]; exact h) | (dsimp only; rw [hds38]; exact h)⟩ (by repeat (first | exact trivial | refine ⟨by rfl, ?_⟩ | refine ⟨by simp [setL], ?_⟩)) (by repeat (first | exact trivial | refine ⟨by rfl, ?_⟩ | refine ⟨by simp [setL], ?_⟩)) (by rfl) (by rfl)
          · rw [drop_endI hza38 hc43] at h
            rw [s_ChooseDecision_L2] at h
            refine Run.exit (by rfl) ?_
            exact hmeet34 a40 _ _ (Option.some.inj h) (by repeat (first | exact trivial | refine ⟨by rfl, ?_⟩ | refine ⟨by simp [setL], ?_⟩)) (by repeat (first | exact trivial | refine ⟨by rfl, ?_⟩ | refine ⟨by simp [setL], ?_⟩)) (by rfl) (by rfl)
        rintro p48 rfl
        refine Run.seq ?_
        refine Run.reg ?_
        refine X.move (by rfl) (by rfl) ?_
        refine X.move (by rfl) (by rfl) ?_
        refine X.build zer97 pl97 (by rfl) (by rfl) (by repeat (first | exact trivial | refine ⟨by rfl, ?_⟩ | refine ⟨by simp [setL], ?_⟩)) (by rfl) (by rfl) (by rfl) ?_
        refine X.store_l shp97 (by rfl) (by rfl) (by rfl) (by rfl) (by repeat (first | exact trivial | refine ⟨by rfl, ?_⟩ | refine ⟨by simp [setL], ?_⟩)) (by rfl) (by rfl) (by rfl) ?_
        refine X.assign (by rfl) (by rfl) ?_
        refine X.nil ?_
        cases h
        refine R.finC2 Try.results55 shp97 (by rfl) (by rfl) (by rfl) (by rfl) (by rfl) (by rfl) (by repeat (first | exact trivial | refine ⟨by rfl, ?_⟩ | refine ⟨by simp [setL], ?_⟩)) ?_
        rfl
theorem i_ChooseDecision_pc (b0 : TProject) (b1 : TDomain) (r : TLiteral × Bool) (h : i_ChooseDecision b0 b1 = some r) : PC Try.prog 56 [eTProject b0, eTDomain b1] (.tuple [eTLiteral r.1, bool r.2]) := by
  unfold i_ChooseDecision at h
  refine PC.start Try.func56 Try.ntmps56 rfl ok56 rfl ?_
  refine Run.seq ?_
  refine Run.reg ?_
  refine X.box (by rfl) (by rfl) (by repeat (first | exact trivial | refine ⟨by rfl, ?_⟩ | refine ⟨by simp [setL], ?_⟩)) (by rfl) (by rfl) (by rfl) (by rfl) ?_
  refine X.box (by rfl) (by rfl) (by repeat (first | exact trivial | refine ⟨by rfl, ?_⟩ | refine ⟨by simp [setL], ?_⟩)) (by rfl) (by rfl) (by rfl) (by rfl) ?_
  refine X.alloc zer97 (by rfl) (by rfl) (by rfl) ?_
  refine X.assign (by rfl) (by rfl) ?_
  refine X.nil ?_
  refine Run.seq ?_
  refine Run.seq ?_
  refine Run.reg ?_
  refine X.load_l shp34 (by rfl) (by rfl) (by rfl) (by rfl) (by rfl) (by rfl) ?_
  refine X.load_l shp71 (by rfl) (by rfl) (by rfl) (by rfl) (by rfl) (by rfl) ?_
  obtain ⟨v1, hv1, h⟩ := bindE h
  refine X.callP (i_isUsable_pc _ _ _ hv1) (by rfl) (by rfl) (by rfl) (by repeat (first | exact trivial | refine ⟨by rfl, ?_⟩ | refine ⟨by simp [setL], ?_⟩)) (by rfl) (by rfl) (by rfl) (by rfl) ?_
  refine X.un (by rfl) (by rfl) (by rfl) ?_
  refine X.nil ?_
  refine R.cond (by rfl) (fun hc2 => ?_) (fun hc2 => ?_)
  · replace h := condT hc2 h
    refine Run.seq ?_
    refine Run.reg ?_
    refine X.build zer97 pl97 (by rfl) (by rfl) (by repeat (first | exact trivial | refine ⟨by rfl, ?_⟩ | refine ⟨by simp [setL], ?_⟩)) (by rfl) (by rfl) (by rfl) ?_
    refine X.store_l shp97 (by rfl) (by rfl) (by rfl) (by rfl) (by repeat (first | exact trivial | refine ⟨by rfl, ?_⟩ | refine ⟨by simp [setL], ?_⟩)) (by rfl) (by rfl) (by rfl) ?_
    refine X.assign (by rfl) (by rfl) ?_
    refine X.nil ?_
    cases h
    refine R.finC2 Try.results56 shp97 (by rfl) (by rfl) (by rfl) (by rfl) (by rfl) (by rfl) (by repeat (first | exact trivial | refine ⟨by rfl, ?_⟩ | refine ⟨by simp [setL], ?_⟩)) ?_
    rfl
  · replace h := condF hc2 h
    refine Run.skip ?_
    refine Run.seq ?_
    refine Run.reg ?_
    refine X.assign (by rfl) (by rfl) ?_
    refine X.nil ?_
    refine Run.seq ?_
    refine Run.seq ?_
    refine Run.reg ?_
    refine X.fieldAddr_l fld34_1 (by rfl) (by rfl) ?_
    refine X.load_l shp30 (by rfl) (by rfl) (by rfl) (by rfl) (by rfl) (by rfl) ?_
    refine X.len_s elt30 (by rfl) (by exact List.length_map ..) (by rfl) ?_
    refine X.move (by rfl) (by rfl) ?_
    refine X.nil ?_
    obtain ⟨o3, ho3, h⟩ := bindE h
    refine R.join2 (β := Int) [(2, .lptr 128 0), (3, .lptr 192 0), (4, .lptr 256 0)] [(128, .blk true [int b0.Deadline, .slice (b0.Activities.map eTActivity), .slice (b0.Links.map eTLink), .slice (b0.Resources.map eTResource), .slice (b0.Stocks.map int)]), (192, .blk true [.slice (b1.MinStart.map int), .slice (b1.MaxStart.map int), .slice (b1.Modes.map l_int)]), (256, .blk true [int 0, int 0, int 0])] (fun p27 S => (6, int p27) :: S) (fun p27 M => M) (fun p27 => p27 = o3) ?_ ?_
    · intro JJ6 hmeet5
      have hup4 := h; clear h; have h := ho3; clear ho3
      refine Run.block ?_
      refine R.bndS (t := 18) (by rfl) (fun hbd9 => ?_)
      replace hbd9 : b0.Activities.length ≤ 9223372036854775807 := by first | (rw [List.length_map] at hbd9; exact hbd9) | simp
      refine R.loop2 (β := Int × Int) [(2, .lptr 128 0), (3, .lptr 192 0), (4, .lptr 256 0), (19, int (b0.Activities.length : Int))] [(128, .blk true [int b0.Deadline, .slice (b0.Activities.map eTActivity), .slice (b0.Links.map eTLink), .slice (b0.Resources.map eTResource), .slice (b0.Stocks.map int)]), (192, .blk true [.slice (b1.MinStart.map int), .slice (b1.MaxStart.map int), .slice (b1.Modes.map l_int)]), (256, .blk true [int 0, int 0, int 0])] (fun bb S => (6, int bb.2) :: (20, int bb.1) :: S) (fun bb M => M) (fun n bb => 0 ≤ bb.1 ∧ bb.1 + n = (b0.Activities.length : Int) ∧ i_ChooseDecision_L1 b1 (b0.Activities.drop bb.1.toNat) bb.1 bb.2 = some o3) b0.Activities.length (0, (-1)) (by repeat (first | exact trivial | refine ⟨by rfl, ?_⟩ | refine ⟨by simp [setL], ?_⟩)) (by repeat (first | exact trivial | refine ⟨by rfl, ?_⟩ | refine ⟨by simp [setL], ?_⟩)) (by rfl) (by rfl) ⟨Int.le_refl _, by simp, h⟩ ?_
      clear h
      rintro JJ9 n9 ⟨z10, a11⟩ hag9 ⟨hza9, hzb9, h⟩
      dsimp only at hza9 hzb9 h
      refine Run.seq ?_
      refine Run.reg ?_
      refine X.bin (by rfl) (by rfl) (by rfl) (by rfl) (by intro h; cases h) (by rfl) ?_
      refine X.nil ?_
      refine Run.seq ?_
      refine R.cond (by rfl) (fun hc14 => ?_) (fun hc14 => ?_)
      · obtain ⟨x12, xs13, hd9, hx9, hds9, hlt9⟩ := drop_atI hza9 hc14
        rw [hd9] at h
        rw [i_ChooseDecision_L1] at h
        refine Run.skip ?_
        refine Run.seq ?_
        refine Run.block ?_
        refine Run.seq ?_
        refine Run.reg ?_
        refine X.move (by rfl) (by rfl) ?_
        refine X.assign (by rfl) (by rfl) ?_
        refine X.nil ?_
        refine Run.seq ?_
        obtain ⟨v15, hv15, h⟩ := bindE h
        obtain ⟨e16, he16, h2⟩ := bindE h
        refine R.drawG [(2, .lptr 128 0), (3, .lptr 192 0), (4, .lptr 256 0), (6, int a11), (7, int z10), (19, int (b0.Activities.length : Int)), (20, int z10), (59, bool e16)] [(128, .blk true [int b0.Deadline, .slice (b0.Activities.map eTActivity), .slice (b0.Links.map eTLink), .slice (b0.Resources.map eTResource), .slice (b0.Stocks.map int)]), (192, .blk true [.slice (b1.MinStart.map int), .slice (b1.MaxStart.map int), .slice (b1.Modes.map l_int)]), (256, .blk true [int 0, int 0, int 0])] (footOf [(1, ([192], [])), (9, ([192], [])), (14, ([192], [])), (25, ([192], [])), (30, ([192], []))]) mixed (by kernel_rfl) (by kernel_rfl) ?_ ?_
        · clear h; have h := he16; clear he16 h2
          refine X.fieldAddr_l fld71_2 (by rfl) (by rfl) ?_
          refine X.load_l shp63 (by rfl) (by rfl) (by rfl) (by rfl) (by rfl) (by rfl) ?_
          refine X.move (by rfl) (by rfl) ?_
          refine X.index_s elt63 (by rfl) (by rfl) (idxL_spec hv15).1 (idxL_map l_int hv15) (by rfl) (by rfl) (by rfl) ?_
          refine X.load_c shp25 (by rfl) (by rfl) (by rfl) (by rfl) ?_
          refine X.len_s elt25 (by rfl) (by exact List.length_map ..) (by rfl) ?_
          refine X.bin (by rfl) (by rfl) (by rfl) (by rfl) (by intro h; cases h) (by rfl) ?_
          refine X.move (by rfl) (by rfl) ?_
          refine X.ifG (by rfl) (by rfl) (by rfl) (fun hb17 => ?_) (fun hb17 => ?_)
          · replace h := condF hb17 h
            refine X.fieldAddr_l fld71_0 (by rfl) (by rfl) ?_
            refine X.gyes (by rfl) (by rfl) (by first | rfl | assumption | simp_all) ?_
            refine X.load_l shp25 (by rfl) (by rfl) (by rfl) (by rfl) (by rfl) (by rfl) ?_
            refine X.gyes (by rfl) (by rfl) (by first | rfl | assumption | simp_all) ?_
            refine X.move (by rfl) (by rfl) ?_
            refine X.gyes (by rfl) (by rfl) (by first | rfl | assumption | simp_all) ?_
            obtain ⟨v18, hv18, h⟩ := bindE h
            refine X.index_s elt25 (by rfl) (by rfl) (idxL_spec hv18).1 (idxL_map int hv18) (by rfl) (by rfl) (by rfl) ?_
            refine X.gyes (by rfl) (by rfl) (by first | rfl | assumption | simp_all) ?_
            refine X.load_c shp3 (by rfl) (by rfl) (by rfl) (by rfl) ?_
            refine X.gyes (by rfl) (by rfl) (by first | rfl | assumption | simp_all) ?_
            refine X.fieldAddr_l fld71_1 (by rfl) (by rfl) ?_
            refine X.gyes (by rfl) (by rfl) (by first | rfl | assumption | simp_all) ?_
            refine X.load_l shp25 (by rfl) (by rfl) (by rfl) (by rfl) (by rfl) (by rfl) ?_
            refine X.gyes (by rfl) (by rfl) (by first | rfl | assumption | simp_all) ?_
            refine X.move (by rfl) (by rfl) ?_
            refine X.gyes (by rfl) (by rfl) (by first | rfl | assumption | simp_all) ?_
            obtain ⟨v19, hv19, h⟩ := bindE h
            refine X.index_s elt25 (by rfl) (by rfl) (idxL_spec hv19).1 (idxL_map int hv19) (by rfl) (by rfl) (by rfl) ?_
            refine X.gyes (by rfl) (by rfl) (by first | rfl | assumption | simp_all) ?_
            refine X.load_c shp3 (by rfl) (by rfl) (by rfl) (by rfl) ?_
            refine X.gyes (by rfl) (by rfl) (by first | rfl | assumption | simp_all) ?_
            refine X.bin (by rfl) (by rfl) (by rfl) (by rfl) (by intro h; cases h) (by rfl) ?_
            refine X.pickF (by rfl) (by first | rfl | assumption | simp_all) (by rfl) (by rfl) ?_
            refine X.move (by rfl) (by rfl) ?_
            refine X.ifG (by rfl) (by rfl) (by rfl) (fun hb20 => ?_) (fun hb20 => ?_)
            · replace h := condT hb20 h
              refine X.move (by rfl) (by rfl) ?_
              refine X.gyes (by rfl) (by rfl) (by first | rfl | assumption | simp_all) ?_
              refine X.bin (by rfl) (by rfl) (by rfl) (by rfl) (by intro h; cases h) (by rfl) ?_
              refine X.gyes (by rfl) (by rfl) (by first | rfl | assumption | simp_all) ?_
              refine X.move (by rfl) (by rfl) ?_
              refine X.ifG (by rfl) (by rfl) (by rfl) (fun hb21 => ?_) (fun hb21 => ?_)
              · replace h := condF hb21 h
                refine X.fieldAddr_l fld71_0 (by rfl) (by rfl) ?_
                refine X.gyes (by rfl) (by rfl) (by first | rfl | assumption | simp_all) ?_
                refine X.load_l shp25 (by rfl) (by rfl) (by rfl) (by rfl) (by rfl) (by rfl) ?_
                refine X.gyes (by rfl) (by rfl) (by first | rfl | assumption | simp_all) ?_
                refine X.move (by rfl) (by rfl) ?_
                refine X.gyes (by rfl) (by rfl) (by first | rfl | assumption | simp_all) ?_
                refine X.index_s elt25 (by rfl) (by rfl) (idxL_spec hv18).1 (idxL_map int hv18) (by rfl) (by rfl) (by rfl) ?_
                refine X.gyes (by rfl) (by rfl) (by first | rfl | assumption | simp_all) ?_
                refine X.load_c shp3 (by rfl) (by rfl) (by rfl) (by rfl) ?_
                refine X.gyes (by rfl) (by rfl) (by first | rfl | assumption | simp_all) ?_
                refine X.fieldAddr_l fld71_0 (by rfl) (by rfl) ?_
                refine X.gyes (by rfl) (by rfl) (by first | rfl | assumption | simp_all) ?_
                refine X.load_l shp25 (by rfl) (by rfl) (by rfl) (by rfl) (by rfl) (by rfl) ?_
                refine X.gyes (by rfl) (by rfl) (by first | rfl | assumption | simp_all) ?_
                refine X.move (by rfl) (by rfl) ?_
                refine X.gyes (by rfl) (by rfl) (by first | rfl | assumption | simp_all) ?_
                obtain ⟨v22, hv22, h⟩ := bindE h
                refine X.index_s elt25 (by rfl) (by rfl) (idxL_spec hv22).1 (idxL_map int hv22) (by rfl) (by rfl) (by rfl) ?_
                refine X.gyes (by rfl) (by rfl) (by first | rfl | assumption | simp_all) ?_
                refine X.load_c shp3 (by rfl) (by rfl) (by rfl) (by rfl) ?_
                refine X.gyes (by rfl) (by rfl) (by first | rfl | assumption | simp_all) ?_
                refine X.bin (by rfl) (by rfl) (by rfl) (by rfl) (by intro h; cases h) (by rfl) ?_
                refine X.gyes (by rfl) (by rfl) (by first | rfl | assumption | simp_all) ?_
                refine X.pickF (by rfl) (by first | rfl | assumption | simp_all) (by rfl) (by rfl) ?_
                refine X.pickT (by rfl) (by first | rfl | assumption | simp_all) (by rfl) (by rfl) ?_
                cases h
                exact X.endG (by repeat (first | exact trivial | refine ⟨by rfl, ?_⟩ | refine ⟨by simp [setL], ?_⟩)) (by repeat (first | exact trivial | refine ⟨by rfl, ?_⟩ | refine ⟨by simp [setL], ?_⟩)) (by rfl) (by rfl)
              · replace h := condT hb21 h
                refine X.gno (by rfl) (by rfl) (by first | rfl | assumption | simp_all) (by rfl) ?_
                refine X.gno (by rfl) (by rfl) (by first | rfl | assumption | simp_all) (by rfl) ?_
                refine X.gno (by rfl) (by rfl) (by first | rfl | assumption | simp_all) (by rfl) ?_
                refine X.gno (by rfl) (by rfl) (by first | rfl | assumption | simp_all) (by rfl) ?_
                refine X.gno (by rfl) (by rfl) (by first | rfl | assumption | simp_all) (by rfl) ?_
                refine X.gno (by rfl) (by rfl) (by first | rfl | assumption | simp_all) (by rfl) ?_
                refine X.gno (by rfl) (by rfl) (by first | rfl | assumption | simp_all) (by rfl) ?_
                refine X.gno (by rfl) (by rfl) (by first | rfl | assumption | simp_all) (by rfl) ?_
                refine X.gno (by rfl) (by rfl) (by first | rfl | assumption | simp_all) (by rfl) ?_
                refine X.gno (by rfl) (by rfl) (by first | rfl | assumption | simp_all) (by rfl) ?_
                refine X.gyes (by rfl) (by rfl) (by first | rfl | assumption | simp_all) ?_
                refine X.pickT (by rfl) (by first | rfl | assumption | simp_all) (by rfl) (by rfl) ?_
                refine X.pickT (by rfl) (by first | rfl | assumption | simp_all) (by rfl) (by rfl) ?_
                cases h
                exact X.endG (by repeat (first | exact trivial | refine ⟨by rfl, ?_⟩ | refine ⟨by simp [setL], ?_⟩)) (by repeat (first | exact trivial | refine ⟨by rfl, ?_⟩ | refine ⟨by simp [setL], ?_⟩)) (by rfl) (by rfl)
            · replace h := condF hb20 h
              refine X.gno (by rfl) (by rfl) (by first | rfl | assumption | simp_all) (by rfl) ?_
              refine X.gno (by rfl) (by rfl) (by first | rfl | assumption | simp_all) (by rfl) ?_
              refine X.gU (by rfl) (by rfl) (by rfl) ?_
              refine X.gU (by rfl) (by rfl) (by rfl) ?_
              refine X.gU (by rfl) (by rfl) (by rfl) ?_
              refine X.gU (by rfl) (by rfl) (by rfl) ?_
              refine X.gU (by rfl) (by rfl) (by rfl) ?_
              refine X.gU (by rfl) (by rfl) (by rfl) ?_
              refine X.gU (by rfl) (by rfl) (by rfl) ?_
              refine X.gU (by rfl) (by rfl) (by rfl) ?_
              refine X.gU (by rfl) (by rfl) (by rfl) ?_
              refine X.gU (by rfl) (by rfl) (by rfl) ?_
              refine X.gU (by rfl) (by rfl) (by rfl) ?_
              refine X.gno (by rfl) (by rfl) (by first | rfl | assumption | simp_all) (by rfl) ?_
              refine X.pickF (by rfl) (by first | rfl | assumption | simp_all) (by rfl) (by rfl) ?_
              cases h
              exact X.endG (by repeat (first | exact trivial | refine ⟨by rfl, ?_⟩ | refine ⟨by simp [setL], ?_⟩)) (by repeat (first | exact trivial | refine ⟨by rfl, ?_⟩ | refine ⟨by simp [setL], ?_⟩)) (by rfl) (by rfl)
          · replace h := condT hb17 h
            refine X.gno (by rfl) (by rfl) (by first | rfl | assumption | simp_all) (by rfl) ?_
            refine X.gno (by rfl) (by rfl) (by first | rfl | assumption | simp_all) (by rfl) ?_
            refine X.gno (by rfl) (by rfl) (by first | rfl | assumption | simp_all) (by rfl) ?_
            refine X.gno (by rfl) (by rfl) (by first | rfl | assumption | simp_all) (by rfl) ?_
            refine X.gno (by rfl) (by rfl) (by first | rfl | assumption | simp_all) (by rfl) ?_
            refine X.gno (by rfl) (by rfl) (by first | rfl | assumption | simp_all) (by rfl) ?_
            refine X.gno (by rfl) (by rfl) (by first | rfl | assumption | simp_all) (by rfl) ?_
            refine X.gno (by rfl) (by rfl) (by first | rfl | assumption | simp_all) (by rfl) ?_
            refine X.gno (by rfl) (by rfl) (by first | rfl | assumption | simp_all) (by rfl) ?_
            refine X.gno (by rfl) (by rfl) (by first | rfl | assumption | simp_all) (by rfl) ?_
            refine X.pickT (by rfl) (by first | rfl | assumption | simp_all) (by rfl) (by rfl) ?_
            refine X.move (by rfl) (by rfl) ?_
            refine X.gyes (by rfl) (by rfl) (by first | rfl | assumption | simp_all) ?_
            refine X.move (by rfl) (by rfl) ?_
            refine X.gyes (by rfl) (by rfl) (by first | rfl | assumption | simp_all) ?_
            refine X.bin (by rfl) (by rfl) (by rfl) (by rfl) (by intro h; cases h) (by rfl) ?_
            refine X.gyes (by rfl) (by rfl) (by first | rfl | assumption | simp_all) ?_
            refine X.move (by rfl) (by rfl) ?_
            refine X.ifG (by rfl) (by rfl) (by rfl) (fun hb23 => ?_) (fun hb23 => ?_)
            · replace h := condF hb23 h
              refine X.fieldAddr_l fld71_0 (by rfl) (by rfl) ?_
              refine X.gyes (by rfl) (by rfl) (by first | rfl | assumption | simp_all) ?_
              refine X.load_l shp25 (by rfl) (by rfl) (by rfl) (by rfl) (by rfl) (by rfl) ?_
              refine X.gyes (by rfl) (by rfl) (by first | rfl | assumption | simp_all) ?_
              refine X.move (by rfl) (by rfl) ?_
              refine X.gyes (by rfl) (by rfl) (by first | rfl | assumption | simp_all) ?_
              obtain ⟨v24, hv24, h⟩ := bindE h
              refine X.index_s elt25 (by rfl) (by rfl) (idxL_spec hv24).1 (idxL_map int hv24) (by rfl) (by rfl) (by rfl) ?_
              refine X.gyes (by rfl) (by rfl) (by first | rfl | assumption | simp_all) ?_
              refine X.load_c shp3 (by rfl) (by rfl) (by rfl) (by rfl) ?_
              refine X.gyes (by rfl) (by rfl) (by first | rfl | assumption | simp_all) ?_
              refine X.fieldAddr_l fld71_0 (by rfl) (by rfl) ?_
              refine X.gyes (by rfl) (by rfl) (by first | rfl | assumption | simp_all) ?_
              refine X.load_l shp25 (by rfl) (by rfl) (by rfl) (by rfl) (by rfl) (by rfl) ?_
              refine X.gyes (by rfl) (by rfl) (by first | rfl | assumption | simp_all) ?_
              refine X.move (by rfl) (by rfl) ?_
              refine X.gyes (by rfl) (by rfl) (by first | rfl | assumption | simp_all) ?_
              obtain ⟨v25, hv25, h⟩ := bindE h
              refine X.index_s elt25 (by rfl) (by rfl) (idxL_spec hv25).1 (idxL_map int hv25) (by rfl) (by rfl) (by rfl) ?_
              refine X.gyes (by rfl) (by rfl) (by first | rfl | assumption | simp_all) ?_
              refine X.load_c shp3 (by rfl) (by rfl) (by rfl) (by rfl) ?_
              refine X.gyes (by rfl) (by rfl) (by first | rfl | assumption | simp_all) ?_
              refine X.bin (by rfl) (by rfl) (by rfl) (by rfl) (by intro h; cases h) (by rfl) ?_
              refine X.gyes (by rfl) (by rfl) (by first | rfl | assumption | simp_all) ?_
              refine X.pickF (by rfl) (by first | rfl | assumption | simp_all) (by rfl) (by rfl) ?_
              refine X.pickT (by rfl) (by first | rfl | assumption | simp_all) (by rfl) (by rfl) ?_
              cases h
              exact X.endG (by repeat (first | exact trivial | refine ⟨by rfl, ?_⟩ | refine ⟨by simp [setL], ?_⟩)) (by repeat (first | exact trivial | refine ⟨by rfl, ?_⟩ | refine ⟨by simp [setL], ?_⟩)) (by rfl) (by rfl)
            · replace h := condT hb23 h
              refine X.gno (by rfl) (by rfl) (by first | rfl | assumption | simp_all) (by rfl) ?_
              refine X.gno (by rfl) (by rfl) (by first | rfl | assumption | simp_all) (by rfl) ?_
              refine X.gno (by rfl) (by rfl) (by first | rfl | assumption | simp_all) (by rfl) ?_
              refine X.gno (by rfl) (by rfl) (by first | rfl | assumption | simp_all) (by rfl) ?_
              refine X.gno (by rfl) (by rfl) (by first | rfl | assumption | simp_all) (by rfl) ?_
              refine X.gno (by rfl) (by rfl) (by first | rfl | assumption | simp_all) (by rfl) ?_
              refine X.gno (by rfl) (by rfl) (by first | rfl | assumption | simp_all) (by rfl) ?_
              refine X.gno (by rfl) (by rfl) (by first | rfl | assumption | simp_all) (by rfl) ?_
              refine X.gno (by rfl) (by rfl) (by first | rfl | assumption | simp_all) (by rfl) ?_
              refine X.gno (by rfl) (by rfl) (by first | rfl | assumption | simp_all) (by rfl) ?_
              refine X.gyes (by rfl) (by rfl) (by first | rfl | assumption | simp_all) ?_
              refine X.pickT (by rfl) (by first | rfl | assumption | simp_all) (by rfl) (by rfl) ?_
              refine X.pickT (by rfl) (by first | rfl | assumption | simp_all) (by rfl) (by rfl) ?_
              cases h
              exact X.endG (by repeat (first | exact trivial | refine ⟨by rfl, ?_⟩ | refine ⟨by simp [setL], ?_⟩)) (by repeat (first | exact trivial | refine ⟨by rfl, ?_⟩ | refine ⟨by simp [setL], ?_⟩)) (by rfl) (by rfl)
        replace h := h2; clear h2
        refine R.cond (by rfl) (fun hc26 => ?_) (fun hc26 => ?_)
        · replace h := condT hc26 h
          refine Run.reg ?_
          refine X.move (by rfl) (by rfl) ?_
          refine X.assign (by rfl) (by rfl) ?_
          refine X.nil ?_
          refine Run.blk ?_
          refine Run.reg ?_
          refine X.add (by rfl) (by rfl) (by omega) (by rfl) ?_
          refine X.move (by rfl) (by rfl) ?_
          refine X.nil ?_
          exact hag9 (n9 - 1) (z10 + 1, z10) _ _ (by omega) ⟨by first | omega | (dsimp only; omega), by first | omega | (dsimp only; omega), by first | (rw [hds9]; exact h) | (dsimp only; rw [hds9]; exact h)⟩ (by repeat (first | exact trivial | refine ⟨by rfl, ?_⟩ | refine ⟨by simp [setL], ?_⟩)) (by repeat (first | exact trivial | refine ⟨by rfl, ?_⟩ | refine ⟨by simp [setL], ?_⟩)) (by rfl) (by rfl)
        · replace h := condF hc26 h
          refine Run.skip ?_
          refine Run.blk ?_
          refine Run.reg ?_
          refine X.add (by rfl) (by rfl) (by omega) (by rfl) ?_
          refine X.move (by rfl) (by rfl) ?_
          refine X.nil ?_
          exact hag9 (n9 - 1) (z10 + 1, a11) _ _ (by omega) ⟨by first | omega | (dsimp only; omega), by first | omega | (dsimp only; omega), by first | (rw [hds9]; exact h) | (dsimp only; rw [hds9]; exact h)⟩ (by repeat (first | exact trivial | refine ⟨by rfl, ?_⟩ | refine ⟨by simp [setL], ?_⟩)) (by repeat (first | exact trivial | refine ⟨by rfl, ?_⟩ | refine ⟨by simp [setL], ?_⟩)) (by rfl) (by rfl)
      · rw [drop_endI hza9 hc14] at h
        rw [i_ChooseDecision_L1] at h
        refine Run.exit (by rfl) ?_
        exact hmeet5 a11 _ _ (Option.some.inj h) (by repeat (first | exact trivial | refine ⟨by rfl, ?_⟩ | refine ⟨by simp [setL], ?_⟩)) (by repeat (first | exact trivial | refine ⟨by rfl, ?_⟩ | refine ⟨by simp [setL], ?_⟩)) (by rfl) (by rfl)
    rintro p27 rfl
    refine Run.seq ?_
    refine Run.seq ?_
    refine Run.reg ?_
    refine X.move (by rfl) (by rfl) ?_
    refine X.bin (by rfl) (by rfl) (by rfl) (by rfl) (by intro h; cases h) (by rfl) ?_
    refine X.nil ?_
    refine R.cond (by rfl) (fun hc28 => ?_) (fun hc28 => ?_)
    · replace h := condT hc28 h
      refine Run.seq ?_
      refine Run.reg ?_
      refine X.build zer97 pl97 (by rfl) (by rfl) (by repeat (first | exact trivial | refine ⟨by rfl, ?_⟩ | refine ⟨by simp [setL], ?_⟩)) (by rfl) (by rfl) (by rfl) ?_
      refine X.store_l shp97 (by rfl) (by rfl) (by rfl) (by rfl) (by repeat (first | exact trivial | refine ⟨by rfl, ?_⟩ | refine ⟨by simp [setL], ?_⟩)) (by rfl) (by rfl) (by rfl) ?_
      refine X.assign (by rfl) (by rfl) ?_
      refine X.nil ?_
      cases h
      refine R.finC2 Try.results56 shp97 (by rfl) (by rfl) (by rfl) (by rfl) (by rfl) (by rfl) (by repeat (first | exact trivial | refine ⟨by rfl, ?_⟩ | refine ⟨by simp [setL], ?_⟩)) ?_
      rfl
    · replace h := condF hc28 h
      refine Run.skip ?_
      refine Run.seq ?_
      refine Run.reg ?_
      refine X.fieldAddr_l fld71_2 (by rfl) (by rfl) ?_
      refine X.load_l shp63 (by rfl) (by rfl) (by rfl) (by rfl) (by rfl) (by rfl) ?_
      refine X.move (by rfl) (by rfl) ?_
      obtain ⟨v29, hv29, h⟩ := bindE h
      refine X.index_s elt63 (by rfl) (by rfl) (idxL_spec hv29).1 (idxL_map l_int hv29) (by rfl) (by rfl) (by rfl) ?_
      refine X.load_c shp25 (by rfl) (by rfl) (by rfl) (by rfl) ?_
      refine X.assign (by rfl) (by rfl) ?_
      refine X.nil ?_
      refine Run.seq ?_
      refine Run.seq ?_
      refine Run.reg ?_
      refine X.move (by rfl) (by rfl) ?_
      refine X.len_s elt25 (by rfl) (by exact List.length_map ..) (by rfl) ?_
      refine X.bin (by rfl) (by rfl) (by rfl) (by rfl) (by intro h; cases h) (by rfl) ?_
      refine X.nil ?_
      refine R.cond (by rfl) (fun hc30 => ?_) (fun hc30 => ?_)
      · replace h := condT hc30 h
        refine Run.seq ?_
        refine Run.reg ?_
        refine X.move (by rfl) (by rfl) ?_
        refine X.fieldAddr_l fld71_0 (by rfl) (by rfl) ?_
        refine X.load_l shp25 (by rfl) (by rfl) (by rfl) (by rfl) (by rfl) (by rfl) ?_
        refine X.move (by rfl) (by rfl) ?_
        obtain ⟨v31, hv31, h⟩ := bindE h
        refine X.index_s elt25 (by rfl) (by rfl) (idxL_spec hv31).1 (idxL_map int hv31) (by rfl) (by rfl) (by rfl) ?_
        refine X.load_c shp3 (by rfl) (by rfl) (by rfl) (by rfl) ?_
        refine X.build zer97 pl97 (by rfl) (by rfl) (by repeat (first | exact trivial | refine ⟨by rfl, ?_⟩ | refine ⟨by simp [setL], ?_⟩)) (by rfl) (by rfl) (by rfl) ?_
        refine X.store_l shp97 (by rfl) (by rfl) (by rfl) (by rfl) (by repeat (first | exact trivial | refine ⟨by rfl, ?_⟩ | refine ⟨by simp [setL], ?_⟩)) (by rfl) (by rfl) (by rfl) ?_
        refine X.assign (by rfl) (by rfl) ?_
        refine X.nil ?_
        cases h
        refine R.finC2 Try.results56 shp97 (by rfl) (by rfl) (by rfl) (by rfl) (by rfl) (by rfl) (by repeat (first | exact trivial | refine ⟨by rfl, ?_⟩ | refine ⟨by simp [setL], ?_⟩)) ?_
        rfl
      · replace h := condF hc30 h
        refine Run.skip ?_
        refine Run.seq ?_
        refine Run.reg ?_
        refine X.move (by rfl) (by rfl) ?_
        obtain ⟨v32, hv32, h⟩ := bindE h
        refine X.index_s elt25 (by rfl) (by rfl) (idxL_spec hv32).1 (idxL_map int hv32) (by rfl) (by rfl) (by rfl) ?_
        refine X.load_c shp3 (by rfl) (by rfl) (by rfl) (by rfl) ?_
        refine X.assign (by rfl) (by rfl) ?_
        refine X.nil ?_
        refine Run.seq ?_
        refine Run.seq ?_
        refine Run.reg ?_
        refine X.move (by rfl) (by rfl) ?_
        refine X.len_s elt25 (by rfl) (by exact List.length_map ..) (by rfl) ?_
        refine X.move (by rfl) (by rfl) ?_
        refine X.nil ?_
        obtain ⟨o33, ho33, h⟩ := bindE h
        refine R.join2 (β := Int) [(4, .lptr 256 0), (6, int p27)] [(256, .blk true [int 0, int 0, int 0])] (fun p49 S => (9, int p49) :: S) (fun p49 M => M) (fun p49 => p49 = o33) ?_ ?_
        · intro JJ36 hmeet35
          have hup34 := h; clear h; have h := ho33; clear ho33
          refine Run.block ?_
          refine R.bndS (t := 8) (by rfl) (fun hbd39 => ?_)
          replace hbd39 : v29.length ≤ 9223372036854775807 := by first | (rw [List.length_map] at hbd39; exact hbd39) | simp
          refine R.loop2 (β := Int × Int) [(2, .lptr 128 0), (4, .lptr 256 0), (6, int p27), (83, .slice (v29.map int)), (84, int (v29.length : Int))] [(128, .blk true [int b0.Deadline, .slice (b0.Activities.map eTActivity), .slice (b0.Links.map eTLink), .slice (b0.Resources.map eTResource), .slice (b0.Stocks.map int)]), (256, .blk true [int 0, int 0, int 0])] (fun bb S => (9, int bb.2) :: (85, int bb.1) :: S) (fun bb M => M) (fun n bb => 0 ≤ bb.1 ∧ bb.1 + n = (v29.length : Int) ∧ i_ChooseDecision_L2 b0 p27 (v29.drop bb.1.toNat) bb.1 bb.2 = some o33) v29.length (0, v32) (by repeat (first | exact trivial | refine ⟨by rfl, ?_⟩ | refine ⟨by simp [setL], ?_⟩)) (by repeat (first | exact trivial | refine ⟨by rfl, ?_⟩ | refine ⟨by simp [setL], ?_⟩)) (by rfl) (by rfl) ⟨Int.le_refl _, by simp, h⟩ ?_
          clear h
          rintro JJ39 n39 ⟨z40, a41⟩ hag39 ⟨hza39, hzb39, h⟩
          dsimp only at hza39 hzb39 h
          refine Run.seq ?_
          refine Run.reg ?_
          refine X.bin (by rfl) (by rfl) (by rfl) (by rfl) (by intro h; cases h) (by rfl) ?_
          refine X.nil ?_
          refine Run.seq ?_
          refine R.cond (by rfl) (fun hc44 => ?_) (fun hc44 => ?_)
          · obtain ⟨x42, xs43, hd39, hx39, hds39, hlt39⟩ := drop_atI hza39 hc44
            rw [hd39] at h
            rw [i_ChooseDecision_L2] at h
            refine Run.skip ?_
            refine Run.seq ?_
            refine Run.block ?_
            refine Run.seq ?_
            refine Run.reg ?_
            refine X.index_s elt25 (by rfl) (by rfl) (idxL_spec hx39).1 (idxL_map int hx39) (by rfl) (by rfl) (by rfl) ?_
            refine X.load_c shp3 (by rfl) (by rfl) (by rfl) (by rfl) ?_
            refine X.assign (by rfl) (by rfl) ?_
            refine X.nil ?_
            refine Run.seq ?_
            refine Run.draw (footOf [(1, ([128], [])), (11, ([128], []))]) mixed (by kernel_rfl) (by kernel_rfl) ?_
            refine X.fieldAddr_l fld34_1 (by rfl) (by rfl) ?_
            refine X.load_l shp30 (by rfl) (by rfl) (by rfl) (by rfl) (by rfl) (by rfl) ?_
            refine X.move (by rfl) (by rfl) ?_
            obtain ⟨v45, hv45, h⟩ := bindE h
            refine X.index_s elt30 (by rfl) (by rfl) (idxL_spec hv45).1 (idxL_map eTActivity hv45) (by rfl) (by rfl) (by rfl) ?_
            refine X.fieldAddr_c fld127_2 (by rfl) (by rfl) ?_
            refine X.load_c shp125 (by rfl) (by rfl) (by rfl) (by rfl) ?_
            refine X.move (by rfl) (by rfl) ?_
            obtain ⟨v46, hv46, h⟩ := bindE h
            refine X.index_s elt125 (by rfl) (by rfl) (idxL_spec hv46).1 (idxL_map eTMode hv46) (by rfl) (by rfl) (by rfl) ?_
            refine X.fieldAddr_c fld129_0 (by rfl) (by rfl) ?_
            refine X.load_c shp3 (by rfl) (by rfl) (by rfl) (by rfl) ?_
            refine X.fieldAddr_l fld34_1 (by rfl) (by rfl) ?_
            refine X.load_l shp30 (by rfl) (by rfl) (by rfl) (by rfl) (by rfl) (by rfl) ?_
            refine X.move (by rfl) (by rfl) ?_
            refine X.index_s elt30 (by rfl) (by rfl) (idxL_spec hv45).1 (idxL_map eTActivity hv45) (by rfl) (by rfl) (by rfl) ?_
            refine X.fieldAddr_c fld127_2 (by rfl) (by rfl) ?_
            refine X.load_c shp125 (by rfl) (by rfl) (by rfl) (by rfl) ?_
            refine X.move (by rfl) (by rfl) ?_
            obtain ⟨v47, hv47, h⟩ := bindE h
            refine X.index_s elt125 (by rfl) (by rfl) (idxL_spec hv47).1 (idxL_map eTMode hv47) (by rfl) (by rfl) (by rfl) ?_
            refine X.fieldAddr_c fld129_0 (by rfl) (by rfl) ?_
            refine X.load_c shp3 (by rfl) (by rfl) (by rfl) (by rfl) ?_
            refine X.bin (by rfl) (by rfl) (by rfl) (by rfl) (by intro h; cases h) (by rfl) ?_
            refine X.nil ?_
            refine R.cond (by rfl) (fun hc48 => ?_) (fun hc48 => ?_)
            · replace h := condT hc48 h
              refine Run.reg ?_
              refine X.move (by rfl) (by rfl) ?_
              refine X.assign (by rfl) (by rfl) ?_
              refine X.nil ?_
              refine Run.blk ?_
              refine Run.reg ?_
              refine X.add (by rfl) (by rfl) (by omega) (by rfl) ?_
              refine X.move (by rfl) (by rfl) ?_
              refine X.nil ?_
              exact hag39 (n39 - 1) (z40 + 1, x42) _ _ (by omega) ⟨by first | omega | (dsimp only; omega), by first | omega | (dsimp only; omega), by first | (rw [hds39]; exact h) | (dsimp only; rw [hds39]; exact h)⟩ (by repeat (first | exact trivial | refine ⟨by rfl, ?_⟩ | refine ⟨by simp [setL], ?_⟩)) (by repeat (first | exact trivial | refine ⟨by rfl, ?_⟩ | refine ⟨by simp [setL], ?_⟩)) (by rfl) (by rfl)
            · replace h := condF hc48 h
              refine Run.skip ?_
              refine Run.blk ?_
              refine Run.reg ?_
              refine X.add (by rfl) (by rfl) (by omega) (by rfl) ?_
              refine X.move (by rfl) (by rfl) ?_
              refine X.nil ?_
              exact hag39 (n39 - 1) (z40 + 1, a41) _ _ (by omega) ⟨by first | omega | (dsimp only; omega), by first | omega | (dsimp only; omega), by first | (rw [hds39]; exact h) | (dsimp only; rw [hds39]; exact h)⟩ (by repeat (first | exact trivial | refine ⟨by rfl, ?_⟩ | refine ⟨by simp [setL], ?_⟩)) (by repeat (first | exact trivial | refine ⟨by rfl, ?_⟩ | refine ⟨by simp [setL], ?_⟩)) (by rfl) (by rfl)
          · rw [drop_endI hza39 hc44] at h
            rw [i_ChooseDecision_L2] at h
            refine Run.exit (by rfl) ?_
            exact hmeet35 a41 _ _ (Option.some.inj h) (by repeat (first | exact trivial | refine ⟨by rfl, ?_⟩ | refine ⟨by simp [setL], ?_⟩)) (by repeat (first | exact trivial | refine ⟨by rfl, ?_⟩ | refine ⟨by simp [setL], ?_⟩)) (by rfl) (by rfl)
        rintro p49 rfl
        refine Run.seq ?_
        refine Run.reg ?_
        refine X.move (by rfl) (by rfl) ?_
        refine X.move (by rfl) (by rfl) ?_
        refine X.build zer97 pl97 (by rfl) (by rfl) (by repeat (first | exact trivial | refine ⟨by rfl, ?_⟩ | refine ⟨by simp [setL], ?_⟩)) (by rfl) (by rfl) (by rfl) ?_
        refine X.store_l shp97 (by rfl) (by rfl) (by rfl) (by rfl) (by repeat (first | exact trivial | refine ⟨by rfl, ?_⟩ | refine ⟨by simp [setL], ?_⟩)) (by rfl) (by rfl) (by rfl) ?_
        refine X.assign (by rfl) (by rfl) ?_
        refine X.nil ?_
        cases h
        refine R.finC2 Try.results56 shp97 (by rfl) (by rfl) (by rfl) (by rfl) (by rfl) (by rfl) (by repeat (first | exact trivial | refine ⟨by rfl, ?_⟩ | refine ⟨by simp [setL], ?_⟩)) ?_
        rfl
theorem w_FnExactChooseDecision_pc (b0 : TProject) (b1 : TDomain) (r : Bool) (h : w_FnExactChooseDecision b0 b1 = some r) : PC Try.prog 12 [eTProject b0, eTDomain b1] (bool r) := by
  unfold w_FnExactChooseDecision at h
  refine PC.start Try.func12 Try.ntmps12 rfl ok12 rfl ?_
  refine Run.seq ?_
  refine Run.reg ?_
  refine X.box (by rfl) (by rfl) (by repeat (first | exact trivial | refine ⟨by rfl, ?_⟩ | refine ⟨by simp [setL], ?_⟩)) (by rfl) (by rfl) (by rfl) (by rfl) ?_
  refine X.box (by rfl) (by rfl) (by repeat (first | exact trivial | refine ⟨by rfl, ?_⟩ | refine ⟨by simp [setL], ?_⟩)) (by rfl) (by rfl) (by rfl) (by rfl) ?_
  refine X.assign (by rfl) (by rfl) ?_
  refine X.nil ?_
  refine Run.seq ?_
  refine Run.reg ?_
  refine X.assign (by rfl) (by rfl) ?_
  refine X.nil ?_
  refine Run.seq ?_
  refine Run.reg ?_
  refine X.load_l shp27 (by rfl) (by rfl) (by rfl) (by rfl) (by rfl) (by rfl) ?_
  refine X.move (by rfl) (by rfl) ?_
  obtain ⟨v1, hv1, h⟩ := bindE h
  refine X.callP (w_szProject_pc _ _ _ hv1) (by rfl) (by rfl) (by rfl) (by repeat (first | exact trivial | refine ⟨by rfl, ?_⟩ | refine ⟨by simp [setL], ?_⟩)) (by rfl) (by rfl) (by rfl) (by rfl) ?_
  refine X.assign (by rfl) (by rfl) ?_
  refine X.nil ?_
  refine Run.seq ?_
  refine Run.seq ?_
  refine Run.reg ?_
  refine X.move (by rfl) (by rfl) ?_
  refine X.bin (by rfl) (by rfl) (by rfl) (by rfl) (by intro h; cases h) (by rfl) ?_
  refine X.nil ?_
  refine R.cond (by rfl) (fun hc2 => ?_) (fun hc2 => ?_)
  · replace h := condT hc2 h
    refine Run.seq ?_
    refine Run.reg ?_
    refine X.assign (by rfl) (by rfl) ?_
    refine X.nil ?_
    cases h
    refine R.fin1 Try.results12 (by rfl) (by rfl) ?_
    rfl
  · replace h := condF hc2 h
    refine Run.skip ?_
    refine Run.seq ?_
    refine Run.reg ?_
    refine X.load_l shp65 (by rfl) (by rfl) (by rfl) (by rfl) (by rfl) (by rfl) ?_
    refine X.move (by rfl) (by rfl) ?_
    obtain ⟨v3, hv3, h⟩ := bindE h
    refine X.callP (w_szDomain_pc _ _ _ hv3) (by rfl) (by rfl) (by rfl) (by repeat (first | exact trivial | refine ⟨by rfl, ?_⟩ | refine ⟨by simp [setL], ?_⟩)) (by rfl) (by rfl) (by rfl) (by rfl) ?_
    refine X.assign (by rfl) (by rfl) ?_
    refine X.nil ?_
    refine Run.seq ?_
    refine Run.seq ?_
    refine Run.reg ?_
    refine X.move (by rfl) (by rfl) ?_
    refine X.bin (by rfl) (by rfl) (by rfl) (by rfl) (by intro h; cases h) (by rfl) ?_
    refine X.nil ?_
    refine R.cond (by rfl) (fun hc4 => ?_) (fun hc4 => ?_)
    · replace h := condT hc4 h
      refine Run.seq ?_
      refine Run.reg ?_
      refine X.assign (by rfl) (by rfl) ?_
      refine X.nil ?_
      cases h
      refine R.fin1 Try.results12 (by rfl) (by rfl) ?_
      rfl
    · replace h := condF hc4 h
      refine Run.skip ?_
      refine Run.seq ?_
      refine Run.draw (footOf [(0, ([128], [])), (1, ([], [1536, 1537, 1538, 1539])), (2, ([192], [])), (3, ([], [1664, 1665, 1666])), (4, ([1536, 1537, 1538, 1539, 1664, 1665, 1666], [])), (8, ([384], [384])), (9, ([384], [384]))]) mixed (by kernel_rfl) (by kernel_rfl) ?_
      refine X.load_l shp27 (by rfl) (by rfl) (by rfl) (by rfl) (by rfl) (by rfl) ?_
      obtain ⟨v5, hv5, h⟩ := bindE h
      refine X.callA (w_toProject_pc _ _ hv5) (by rfl) (by rfl) (by rfl) (by repeat (first | exact trivial | refine ⟨by rfl, ?_⟩ | refine ⟨by simp [setL], ?_⟩)) (by rfl) (by rfl) (by rfl) (by rfl) (by rfl) (by rfl) ?_
      refine X.load_l shp65 (by rfl) (by rfl) (by rfl) (by rfl) (by rfl) (by rfl) ?_
      obtain ⟨v6, hv6, h⟩ := bindE h
      refine X.callA (w_toDomain_pc _ _ hv6) (by rfl) (by rfl) (by rfl) (by repeat (first | exact trivial | refine ⟨by rfl, ?_⟩ | refine ⟨by simp [setL], ?_⟩)) (by rfl) (by rfl) (by rfl) (by rfl) (by rfl) (by rfl) ?_
      obtain ⟨v7, hv7, h⟩ := bindE h
      refine X.callT2 (s_ChooseDecision_pc _ _ _ hv7) (by rfl) (by rfl) (by rfl) (by repeat (first | exact trivial | refine ⟨by rfl, ?_⟩ | refine ⟨by simp [setL], ?_⟩)) (by rfl) (by rfl) (by rfl) (by rfl) (by rfl) (by rfl) ?_
      refine X.move (by rfl) (by rfl) ?_
      refine X.extract (by rfl) (by rfl) (by rfl) ?_
      refine X.extract (by rfl) (by rfl) (by rfl) ?_
      refine X.alloc zer97 (by rfl) (by rfl) (by rfl) ?_
      refine X.store_l shp97 (by rfl) (by rfl) (by rfl) (by rfl) (by repeat (first | exact trivial | refine ⟨by rfl, ?_⟩ | refine ⟨by simp [setL], ?_⟩)) (by rfl) (by rfl) (by rfl) ?_
      refine X.assign (by rfl) (by rfl) ?_
      refine X.nil ?_
      refine Run.seq ?_
      refine Run.reg ?_
      refine X.load_l shp27 (by rfl) (by rfl) (by rfl) (by rfl) (by rfl) (by rfl) ?_
      obtain ⟨v8, hv8, h⟩ := bindE h
      refine X.callA (w_toProject_pc _ _ hv8) (by rfl) (by rfl) (by rfl) (by repeat (first | exact trivial | refine ⟨by rfl, ?_⟩ | refine ⟨by simp [setL], ?_⟩)) (by rfl) (by rfl) (by rfl) (by rfl) (by rfl) (by rfl) ?_
      refine X.alloc zer34 (by rfl) (by rfl) (by rfl) ?_
      refine X.store_l shp34 (by rfl) (by rfl) (by rfl) (by rfl) (by repeat (first | exact trivial | refine ⟨by rfl, ?_⟩ | refine ⟨by simp [setL], ?_⟩)) (by rfl) (by rfl) (by rfl) ?_
      refine X.nil ?_
      refine Run.seq ?_
      refine Run.reg ?_
      refine X.load_l shp65 (by rfl) (by rfl) (by rfl) (by rfl) (by rfl) (by rfl) ?_
      obtain ⟨v9, hv9, h⟩ := bindE h
      refine X.callA (w_toDomain_pc _ _ hv9) (by rfl) (by rfl) (by rfl) (by repeat (first | exact trivial | refine ⟨by rfl, ?_⟩ | refine ⟨by simp [setL], ?_⟩)) (by rfl) (by rfl) (by rfl) (by rfl) (by rfl) (by rfl) ?_
      refine X.alloc zer71 (by rfl) (by rfl) (by rfl) ?_
      refine X.store_l shp71 (by rfl) (by rfl) (by rfl) (by rfl) (by repeat (first | exact trivial | refine ⟨by rfl, ?_⟩ | refine ⟨by simp [setL], ?_⟩)) (by rfl) (by rfl) (by rfl) ?_
      refine X.nil ?_
      refine Run.seq ?_
      refine Run.reg ?_
      refine X.load_l shp34 (by rfl) (by rfl) (by rfl) (by rfl) (by rfl) (by rfl) ?_
      refine X.load_l shp71 (by rfl) (by rfl) (by rfl) (by rfl) (by rfl) (by rfl) ?_
      obtain ⟨v10, hv10, h⟩ := bindE h
      refine X.callT2 (i_ChooseDecision_pc _ _ _ hv10) (by rfl) (by rfl) (by rfl) (by repeat (first | exact trivial | refine ⟨by rfl, ?_⟩ | refine ⟨by simp [setL], ?_⟩)) (by rfl) (by rfl) (by rfl) (by rfl) (by rfl) (by rfl) ?_
      refine X.move (by rfl) (by rfl) ?_
      refine X.extract (by rfl) (by rfl) (by rfl) ?_
      refine X.extract (by rfl) (by rfl) (by rfl) ?_
      refine X.alloc zer97 (by rfl) (by rfl) (by rfl) ?_
      refine X.store_l shp97 (by rfl) (by rfl) (by rfl) (by rfl) (by repeat (first | exact trivial | refine ⟨by rfl, ?_⟩ | refine ⟨by simp [setL], ?_⟩)) (by rfl) (by rfl) (by rfl) ?_
      refine X.assign (by rfl) (by rfl) ?_
      refine X.nil ?_
      refine Run.seq ?_
      refine Run.seq ?_
      obtain ⟨v11, hv11, h⟩ := bindE h
      obtain ⟨e12, he12, h2⟩ := bindE h
      refine R.regG [(2, .lptr 128 0), (3, .lptr 192 0), (8, .lptr 512 0), (9, .lptr 576 0), (48, bool e12)] [(128, .blk true [int b0.Deadline, .slice (b0.Activities.map eTActivity), .slice (b0.Links.map eTLink), .slice (b0.Resources.map eTResource), .slice (b0.Stocks.map int)]), (192, .blk true [.slice (b1.MinStart.map int), .slice (b1.MaxStart.map int), .slice (b1.Modes.map l_int)]), (512, .blk true [int v8.Deadline, .own 1984 (v8.Activities.map eTActivity).length, .own 1985 (v8.Links.map eTLink).length, .own 1986 (v8.Resources.map eTResource).length, .own 1987 (v8.Stocks.map int).length]), (1984, .obj false 127 3 (v8.Activities.map eTActivity)), (1985, .obj false 174 4 (v8.Links.map eTLink)), (1986, .obj false 115 2 (v8.Resources.map eTResource)), (1987, .obj false 3 1 (v8.Stocks.map int)), (576, .blk true [.own 2112 (v9.MinStart.map int).length, .own 2113 (v9.MaxStart.map int).length, .own 2114 (v9.Modes.map l_int).length]), (2112, .obj false 3 1 (v9.MinStart.map int)), (2113, .obj false 3 1 (v9.MaxStart.map int)), (2114, .obj false 25 1 (v9.Modes.map l_int))] ?_ ?_
      · clear h; have h := he12; clear he12 h2
        refine X.load_l shp97 (by rfl) (by rfl) (by rfl) (by rfl) (by rfl) (by rfl) ?_
        refine X.load_l shp97 (by rfl) (by rfl) (by rfl) (by rfl) (by rfl) (by rfl) ?_
        refine X.callP (w_eqLiteral_pc _ _ _ hv11) (by rfl) (by rfl) (by rfl) (by repeat (first | exact trivial | refine ⟨by rfl, ?_⟩ | refine ⟨by simp [setL], ?_⟩)) (by rfl) (by rfl) (by rfl) (by rfl) ?_
        refine X.un (by rfl) (by rfl) (by rfl) ?_
        refine X.move (by rfl) (by rfl) ?_
        refine X.ifG (by rfl) (by rfl) (by rfl) (fun hb13 => ?_) (fun hb13 => ?_)
        · replace h := condF hb13 h
          refine X.move (by rfl) (by rfl) ?_
          refine X.gyes (by rfl) (by rfl) (by first | rfl | assumption | simp_all) ?_
          refine X.move (by rfl) (by rfl) ?_
          refine X.gyes (by rfl) (by rfl) (by first | rfl | assumption | simp_all) ?_
          refine X.neqBool Try.underlying4 (by rfl) (by rfl) (by rfl) ?_
          refine X.pickF (by rfl) (by first | rfl | assumption | simp_all) (by rfl) (by rfl) ?_
          cases h
          exact X.endG (by repeat (first | exact trivial | refine ⟨by rfl, ?_⟩ | refine ⟨by simp [setL], ?_⟩)) (by repeat (first | exact trivial | refine ⟨by rfl, ?_⟩ | refine ⟨by simp [setL], ?_⟩)) (by rfl) (by rfl)
        · replace h := condT hb13 h
          refine X.gno (by rfl) (by rfl) (by first | rfl | assumption | simp_all) (by rfl) ?_
          refine X.gno (by rfl) (by rfl) (by first | rfl | assumption | simp_all) (by rfl) ?_
          refine X.pickT (by rfl) (by first | rfl | assumption | simp_all) (by rfl) (by rfl) ?_
          cases h
          exact X.endG (by repeat (first | exact trivial | refine ⟨by rfl, ?_⟩ | refine ⟨by simp [setL], ?_⟩)) (by repeat (first | exact trivial | refine ⟨by rfl, ?_⟩ | refine ⟨by simp [setL], ?_⟩)) (by rfl) (by rfl)
      replace h := h2; clear h2
      refine R.cond (by rfl) (fun hc14 => ?_) (fun hc14 => ?_)
      · replace h := condT hc14 h
        refine Run.seq ?_
        refine Run.reg ?_
        refine X.assign (by rfl) (by rfl) ?_
        refine X.nil ?_
        cases h
        refine R.fin1 Try.results12 (by rfl) (by rfl) ?_
        rfl
      · replace h := condF hc14 h
        refine Run.skip ?_
        refine Run.seq ?_
        refine Run.seq ?_
        refine Run.draw (footOf [(0, ([512], [])), (1, ([128], [])), (2, ([], [3264, 3265, 3266, 3267])), (3, ([1984, 1985, 1986, 1987, 3264, 3265, 3266, 3267], []))]) mixed (by kernel_rfl) (by kernel_rfl) ?_
        refine X.load_l shp34 (by rfl) (by rfl) (by rfl) (by rfl) (by rfl) (by rfl) ?_
        refine X.load_l shp27 (by rfl) (by rfl) (by rfl) (by rfl) (by rfl) (by rfl) ?_
        obtain ⟨v15, hv15, h⟩ := bindE h
        refine X.callA (w_toProject_pc _ _ hv15) (by rfl) (by rfl) (by rfl) (by repeat (first | exact trivial | refine ⟨by rfl, ?_⟩ | refine ⟨by simp [setL], ?_⟩)) (by rfl) (by rfl) (by rfl) (by rfl) (by rfl) (by rfl) ?_
        obtain ⟨v16, hv16, h⟩ := bindE h
        refine X.callP (w_eqProject_pc _ _ _ hv16) (by rfl) (by rfl) (by rfl) (by repeat (first | exact trivial | refine ⟨by rfl, ?_⟩ | refine ⟨by simp [setL], ?_⟩)) (by rfl) (by rfl) (by rfl) (by rfl) ?_
        refine X.un (by rfl) (by rfl) (by rfl) ?_
        refine X.nil ?_
        refine R.cond (by rfl) (fun hc17 => ?_) (fun hc17 => ?_)
        · replace h := condT hc17 h
          refine Run.seq ?_
          refine Run.reg ?_
          refine X.assign (by rfl) (by rfl) ?_
          refine X.nil ?_
          cases h
          refine R.fin1 Try.results12 (by rfl) (by rfl) ?_
          rfl
        · replace h := condF hc17 h
          refine Run.skip ?_
          refine Run.seq ?_
          refine Run.seq ?_
          refine Run.draw (footOf [(0, ([576], [])), (1, ([192], [])), (2, ([], [3584, 3585, 3586])), (3, ([2112, 2113, 2114, 3584, 3585, 3586], []))]) mixed (by kernel_rfl) (by kernel_rfl) ?_
          refine X.load_l shp71 (by rfl) (by rfl) (by rfl) (by rfl) (by rfl) (by rfl) ?_
          refine X.load_l shp65 (by rfl) (by rfl) (by rfl) (by rfl) (by rfl) (by rfl) ?_
          obtain ⟨v18, hv18, h⟩ := bindE h
          refine X.callA (w_toDomain_pc _ _ hv18) (by rfl) (by rfl) (by rfl) (by repeat (first | exact trivial | refine ⟨by rfl, ?_⟩ | refine ⟨by simp [setL], ?_⟩)) (by rfl) (by rfl) (by rfl) (by rfl) (by rfl) (by rfl) ?_
          obtain ⟨v19, hv19, h⟩ := bindE h
          refine X.callP (w_eqDomain_pc _ _ _ hv19) (by rfl) (by rfl) (by rfl) (by repeat (first | exact trivial | refine ⟨by rfl, ?_⟩ | refine ⟨by simp [setL], ?_⟩)) (by rfl) (by rfl) (by rfl) (by rfl) ?_
          refine X.un (by rfl) (by rfl) (by rfl) ?_
          refine X.nil ?_
          refine R.cond (by rfl) (fun hc20 => ?_) (fun hc20 => ?_)
          · replace h := condT hc20 h
            refine Run.seq ?_
            refine Run.reg ?_
            refine X.assign (by rfl) (by rfl) ?_
            refine X.nil ?_
            cases h
            refine R.fin1 Try.results12 (by rfl) (by rfl) ?_
            rfl
          · replace h := condF hc20 h
            refine Run.skip ?_
            refine Run.seq ?_
            refine Run.reg ?_
            refine X.assign (by rfl) (by rfl) ?_
            refine X.nil ?_
            cases h
            refine R.fin1 Try.results12 (by rfl) (by rfl) ?_
            rfl
end Go.Px.Ytjncefleglnnjaa
