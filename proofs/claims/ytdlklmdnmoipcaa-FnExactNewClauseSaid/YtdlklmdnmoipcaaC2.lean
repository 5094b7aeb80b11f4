/-
  PROVED: contracts of functions of the program over pure values. No condition beyond those that each theorem names.
-/
import Derived.Test.YtdlklmdnmoipcaaProg
import Derived.Test.YtdlklmdnmoipcaaD1
import Derived.Test.YtdlklmdnmoipcaaS
import Derived.Test.YtdlklmdnmoipcaaC1
namespace Go.Px.Ytdlklmdnmoipcaa
set_option linter.unusedSimpArgs false
set_option linter.unusedVariables false
open Go.Px Go.Proofs
theorem ok3 : okFn Try.prog 3 = true := by kernel_rfl
theorem w_FnExactNewClause_pc (b0 : List TLiteral) (r : Bool) (h : w_FnExactNewClause b0 = some r) : PC Try.prog 3 [.slice (b0.map eTLiteral)] (bool r) := by
 unfold w_FnExactNewClause at h
 refine PC.start Try.func3 Try.ntmps3 rfl ok3 rfl ?_
 refine Run.sr ?_
 refine X.an ?_
 refine Run.sr ?_
 refine X.an ?_
 refine Run.sr ?_
 refine X.mv ?_
 refine X.mv ?_
 obtain ⟨v1, hv1, h⟩ := bindE h
 refine X.cp (w_szLiteralS_pc _ _ _ hv1) ?_
 refine X.an ?_
 refine Run.seq ?_
 refine Run.sr ?_
 refine X.mv ?_
 refine X.bi ?_
 refine X.nil ?_
 refine R.cd (fun hc2 => ?_) (fun hc2 => ?_)
 ·replace h := condT hc2 h
  refine Run.sr ?_
  refine X.an ?_
  cases h
  refine R.f1 Try.results3 ?_
  rfl
 ·replace h := condF hc2 h
  refine Run.skip ?_
  refine Run.sr ?_
  refine X.mv ?_
  obtain ⟨v3, hv3, h⟩ := bindE h
  refine X.callF (PC.ofY (ps := [.slice (b0.map eTLiteral)]) (w_toLiteralS_pc _ _ hv3) (by rfl) (by rfl)) (by rfl) (by rfl) (by rfl) (by trivial) (by rfl) (by rfl) (by rfl) (by rfl) ?_
  obtain ⟨v4, hv4, h⟩ := bindE h
  refine X.cp (s_NewClause_pc _ _ hv4) ?_
  refine X.an ?_
  refine Run.sr ?_
  refine X.mv ?_
  obtain ⟨v5, hv5, h⟩ := bindE h
  refine X.callY (w_toLiteralS_pc _ _ hv5) (by rfl) (by rfl) (by rfl) (by trivial) (by rfl) (by rfl) (by rfl) (by rfl) (by rfl) (by rfl) (by rfl) ?_
  refine X.an ?_
  refine Run.sr ?_
  refine X.mv ?_
  obtain ⟨v6, hv6, h⟩ := bindE h
  refine X.callM [(63, 1280)] (PC.lend (M0 := [(63, .yreg false false)]) (i_NewClause_pc _ _ hv6) (FlatR.freshM (fun _ => (by repeat (first | exact trivial | refine ⟨trivial, ?_⟩)))) (by rfl) (.yng 63 _ _ _ _ (by rfl) .nil)) (by rfl) (by rfl) (.yngB 63 (by rfl) (by rfl) .nil) (by rfl) ⟨rfl, rfl, ⟨_, by rfl, by constructor⟩, by constructor, trivial⟩ (by rfl) (by rfl) (by rfl) (by rfl) (by rfl) (by rfl) (by rfl) (by rfl) (by rfl) ?_
  refine X.an ?_
  refine Run.seq ?_
  refine Run.sr ?_
  refine X.mv ?_
  refine X.mv ?_
  obtain ⟨v7, hv7, h⟩ := bindE h
  refine X.callM [(63, 1408)] (PC.lend (M0 := [(63, .obj true 33 3 (v6.map eTLiteral))]) (w_eqLiteralS_pc _ _ _ hv7) (.lit _) (by rfl) (.own 63 _ _ _ _ _ _ _ (by rfl) (by first | rfl | simp [setL] | omega) (.same _ _ _ (by rfl) .nil))) (by rfl) (by rfl) (.ownB 63 (by rfl) (by first | rfl | simp [setL] | omega) (by rfl) (.pureB (by rfl) (by repeat (first | trivial | refine ⟨by first | rfl | simp [setL], ?_⟩)) .nil)) (by rfl) ⟨rfl, rfl, ⟨_, by rfl, by constructor⟩, by constructor, trivial⟩ (by rfl) (by rfl) (by rfl) (by rfl) (by rfl) (by rfl) (by rfl) (by rfl) (by rfl) ?_
  refine X.un (by rfl) (by rfl) (by rfl) ?_
  refine X.nil ?_
  refine R.cd (fun hc8 => ?_) (fun hc8 => ?_)
  ·replace h := condT hc8 h
   refine Run.sr ?_
   refine X.an ?_
   cases h
   refine R.f1 Try.results3 ?_
   rfl
  ·replace h := condF hc8 h
   refine Run.skip ?_
   refine Run.seq ?_
   refine Run.sr ?_
   refine X.mv ?_
   refine X.mv ?_
   obtain ⟨v9, hv9, h⟩ := bindE h
   refine X.callF (PC.ofY (ps := [.slice (b0.map eTLiteral)]) (w_toLiteralS_pc _ _ hv9) (by rfl) (by rfl)) (by rfl) (by rfl) (by rfl) (by trivial) (by rfl) (by rfl) (by rfl) (by rfl) ?_
   obtain ⟨v10, hv10, h⟩ := bindE h
   refine X.callM [(63, 1280)] (PC.lend (M0 := [(63, .yreg false false)]) (w_eqLiteralS_pc _ _ _ hv10) (.lit _) (by rfl) (.yng 63 _ _ _ _ (by rfl) (.same _ _ _ (by rfl) .nil))) (by rfl) (by rfl) (.yngB 63 (by rfl) (by rfl) (.pureB (by rfl) (by repeat (first | trivial | refine ⟨by first | rfl | simp [setL], ?_⟩)) .nil)) (by rfl) ⟨rfl, rfl, ⟨_, by rfl, by constructor⟩, by constructor, trivial⟩ (by rfl) (by rfl) (by rfl) (by rfl) (by rfl) (by rfl) (by rfl) (by rfl) (by rfl) ?_
   refine X.un (by rfl) (by rfl) (by rfl) ?_
   refine X.nil ?_
   refine R.cd (fun hc11 => ?_) (fun hc11 => ?_)
   ·replace h := condT hc11 h
    refine Run.sr ?_
    refine X.an ?_
    cases h
    refine R.f1 Try.results3 ?_
    rfl
   ·replace h := condF hc11 h
    refine Run.skip ?_
    refine Run.sr ?_
    refine X.an ?_
    refine Run.seq ?_
    refine R.demote 1280 (by rfl) (by rfl) (by rfl) (by rfl) (by rfl) (by rfl) ?_
    refine Run.reg ?_
    refine X.mv ?_
    refine X.mv ?_
    obtain ⟨v12, hv12, h⟩ := bindE h
    refine X.callM [(63, 1280)] (w_markLiteralS_k_pc _ _ _ hv12) (by rfl) (by rfl) (.yskB 63 (by rfl) (by rfl) (.pureB (by rfl) (by repeat (first | trivial | refine ⟨by first | rfl | simp [setL], ?_⟩)) .nil)) (by rfl) ⟨rfl, rfl, ⟨_, by rfl, by constructor⟩, by constructor, trivial⟩ (by rfl) (by rfl) (by rfl) (by rfl) (by rfl) (by rfl) (by rfl) (by rfl) (by rfl) ?_
    refine X.an ?_
    refine Run.seq ?_
    refine Run.seq ?_
    obtain ⟨e13, he13, h2⟩ := bindE h
    refine R.regG [(0, .slice (b0.map eTLiteral)), (4, .slice (v4.map eTLiteral)), (6, .own 1408 (v6.map eTLiteral).length), (42, bool e13)] [(1408, .obj true 33 3 (v6.map eTLiteral))] ?_ ?_
    ·clear h; have h := he13; clear he13 h2
     refine X.mv ?_
     refine X.bi ?_
     refine X.mv ?_
     refine X.iG (fun hb14 => ?_) (fun hb14 => ?_)
     ·replace h := condF hb14 h
      refine X.mv ?_
      refine X.gy ?_
      refine X.mv ?_
      refine X.gy ?_
      obtain ⟨v15, hv15, h⟩ := bindE h
      refine X.callM [(63, 1408)] (PC.lend (M0 := [(63, .obj true 33 3 (v6.map eTLiteral))]) (w_eqLiteralS_pc _ _ _ hv15) (.lit _) (by rfl) (.own 63 _ _ _ _ _ _ _ (by rfl) (by first | rfl | simp [setL] | omega) (.same _ _ _ (by rfl) .nil))) (by rfl) (by rfl) (.ownB 63 (by rfl) (by first | rfl | simp [setL] | omega) (by rfl) (.pureB (by rfl) (by repeat (first | trivial | refine ⟨by first | rfl | simp [setL], ?_⟩)) .nil)) (by rfl) ⟨rfl, rfl, ⟨_, by rfl, by constructor⟩, by constructor, trivial⟩ (by rfl) (by rfl) (by rfl) (by rfl) (by rfl) (by rfl) (by rfl) (by rfl) (by rfl) ?_
      refine X.gy ?_
      refine X.un (by rfl) (by rfl) (by rfl) ?_
      refine X.pF ?_
      cases h
      exact X.eG
     ·replace h := condT hb14 h
      refine X.gn ?_
      refine X.gn ?_
      refine X.gn ?_
      refine X.pT ?_
      cases h
      exact X.eG
    replace h := h2; clear h2
    refine R.cd (fun hc16 => ?_) (fun hc16 => ?_)
    ·replace h := condT hc16 h
     refine Run.sr ?_
     refine X.an ?_
     cases h
     refine R.f1 Try.results3 ?_
     rfl
    ·replace h := condF hc16 h
     refine Run.skip ?_
     refine Run.sr ?_
     refine X.an ?_
     refine Run.sr ?_
     refine X.mv ?_
     refine X.mv ?_
     obtain ⟨v17, hv17, h⟩ := bindE h
     refine X.callR [(63, 1408)] [(1408, (v6.map eTLiteral).length)] [(1408, (v17.2.map eTLiteral).length)] (w_markLiteralS_pc _ _ _ hv17) (by rfl) (by rfl) (.ownB 63 (by rfl) (by first | rfl | simp [setL] | omega) (by rfl) (.pureB (by rfl) (by repeat (first | trivial | refine ⟨by first | rfl | simp [setL], ?_⟩)) .nil)) (by rfl) ⟨rfl, rfl, ⟨_, by rfl, by constructor⟩, by constructor, trivial⟩ (by rfl) (by rfl) (by rfl) (by rfl) ⟨rfl, ⟨_, _, _, _, by rfl, by rfl⟩, ⟨_, _, _, _, by rfl, by rfl⟩, trivial⟩ (by rfl) (by repeat (first | trivial | refine ⟨by first | rfl | simp [setL], ?_⟩)) (by rfl) (by rfl) (by rfl) (by rfl) (by rfl) ?_
     refine X.an ?_
     refine Run.sr ?_
     refine X.an ?_
     refine Run.sr ?_
     refine X.mv ?_
     refine X.mv ?_
     obtain ⟨v18, hv18, h⟩ := bindE h
     refine X.callM [(63, 1408)] (PC.lend (M0 := [(63, .obj true 33 3 (v17.2.map eTLiteral))]) (w_heldLiteralS_pc _ _ _ hv18) (.lit _) (by rfl) (.own 63 _ _ _ _ _ _ _ (by rfl) (by first | rfl | simp [setL] | omega) (.same _ _ _ (by rfl) .nil))) (by rfl) (by rfl) (.ownB 63 (by rfl) (by first | rfl | simp [setL] | omega) (by rfl) (.pureB (by rfl) (by repeat (first | trivial | refine ⟨by first | rfl | simp [setL], ?_⟩)) .nil)) (by rfl) ⟨rfl, rfl, ⟨_, by rfl, by constructor⟩, by constructor, trivial⟩ (by rfl) (by rfl) (by rfl) (by rfl) (by rfl) (by rfl) (by rfl) (by rfl) (by rfl) ?_
     refine X.an ?_
     refine Run.seq ?_
     refine Run.sr ?_
     refine X.mv ?_
     refine X.bi ?_
     refine X.nil ?_
     refine R.cd (fun hc19 => ?_) (fun hc19 => ?_)
     ·replace h := condT hc19 h
      refine Run.sr ?_
      refine X.an ?_
      cases h
      refine R.f1 Try.results3 ?_
      rfl
     ·replace h := condF hc19 h
      refine Run.skip ?_
      refine Run.seq ?_
      refine Run.sr ?_
      refine X.mv ?_
      refine X.mv ?_
      refine X.bi ?_
      refine X.nil ?_
      refine R.cd (fun hc20 => ?_) (fun hc20 => ?_)
      ·replace h := condT hc20 h
       refine Run.sr ?_
       refine X.an ?_
       cases h
       refine R.f1 Try.results3 ?_
       rfl
      ·replace h := condF hc20 h
       refine Run.skip ?_
       refine Run.sr ?_
       refine X.mv ?_
       obtain ⟨v21, hv21, h⟩ := bindE h
       refine X.callF (PC.ofY (ps := [.slice (b0.map eTLiteral)]) (w_toLiteralS_pc _ _ hv21) (by rfl) (by rfl)) (by rfl) (by rfl) (by rfl) (by trivial) (by rfl) (by rfl) (by rfl) (by rfl) ?_
       obtain ⟨v22, hv22, h⟩ := bindE h
       refine X.callF (PC.pubF (i_NewClause_pc _ _ hv22)) (by rfl) (by rfl) (by rfl) (by repeat (first | trivial | refine ⟨by first | rfl | simp [setL], ?_⟩)) (by rfl) (by rfl) (by rfl) (by rfl) ?_
       refine X.an ?_
       refine Run.seq ?_
       refine Run.sr ?_
       refine X.mv ?_
       refine X.mv ?_
       obtain ⟨v23, hv23, h⟩ := bindE h
       refine X.cp (w_eqLiteralS_pc _ _ _ hv23) ?_
       refine X.un (by rfl) (by rfl) (by rfl) ?_
       refine X.nil ?_
       refine R.cd (fun hc24 => ?_) (fun hc24 => ?_)
       ·replace h := condT hc24 h
        refine Run.sr ?_
        refine X.an ?_
        cases h
        refine R.f1 Try.results3 ?_
        rfl
       ·replace h := condF hc24 h
        refine Run.skip ?_
        refine Run.sr ?_
        refine X.an ?_
        refine Run.sr ?_
        refine X.mv ?_
        refine X.mv ?_
        obtain ⟨v25, hv25, h⟩ := bindE h
        refine X.callM [(63, 1408)] (PC.lend (M0 := [(63, .obj true 33 3 (v17.2.map eTLiteral))]) (w_heldLiteralS_pc _ _ _ hv25) (.lit _) (by rfl) (.own 63 _ _ _ _ _ _ _ (by rfl) (by first | rfl | simp [setL] | omega) (.same _ _ _ (by rfl) .nil))) (by rfl) (by rfl) (.ownB 63 (by rfl) (by first | rfl | simp [setL] | omega) (by rfl) (.pureB (by rfl) (by repeat (first | trivial | refine ⟨by first | rfl | simp [setL], ?_⟩)) .nil)) (by rfl) ⟨rfl, rfl, ⟨_, by rfl, by constructor⟩, by constructor, trivial⟩ (by rfl) (by rfl) (by rfl) (by rfl) (by rfl) (by rfl) (by rfl) (by rfl) (by rfl) ?_
        refine X.an ?_
        refine Run.seq ?_
        refine Run.sr ?_
        refine X.mv ?_
        refine X.bi ?_
        refine X.nil ?_
        refine R.cd (fun hc26 => ?_) (fun hc26 => ?_)
        ·replace h := condT hc26 h
         refine Run.sr ?_
         refine X.an ?_
         cases h
         refine R.f1 Try.results3 ?_
         rfl
        ·replace h := condF hc26 h
         refine Run.skip ?_
         refine Run.seq ?_
         refine Run.sr ?_
         refine X.mv ?_
         refine X.mv ?_
         refine X.bi ?_
         refine X.nil ?_
         refine R.cd (fun hc27 => ?_) (fun hc27 => ?_)
         ·replace h := condT hc27 h
          refine Run.sr ?_
          refine X.an ?_
          cases h
          refine R.f1 Try.results3 ?_
          rfl
         ·replace h := condF hc27 h
          refine Run.skip ?_
          refine Run.sr ?_
          refine X.an ?_
          cases h
          refine R.f1 Try.results3 ?_
          rfl
end Go.Px.Ytdlklmdnmoipcaa
