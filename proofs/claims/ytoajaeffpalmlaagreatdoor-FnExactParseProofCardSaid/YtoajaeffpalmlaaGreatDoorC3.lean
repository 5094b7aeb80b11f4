/-
  PROVED: contracts of functions of the program over pure values. No condition beyond those that each theorem names.
-/
import Derived.Test.YtoajaeffpalmlaaGreatDoorProg
import Derived.Test.YtoajaeffpalmlaaGreatDoorD2
import Derived.Test.YtoajaeffpalmlaaGreatDoorS
import Derived.Test.YtoajaeffpalmlaaGreatDoorC2
namespace Go.Px.YtoajaeffpalmlaaGreatDoor
set_option linter.unusedSimpArgs false
set_option linter.unusedVariables false
open Go.Px Go.Proofs
theorem w_FnExactParseProof_pc (b0:TProject)(b1:ByteArray)(r:Bool)(h:w_FnExactParseProof b0 b1=some r):PC Tryz.prog 3 [eTProject b0,str b1] (bool r):=by
 unfold w_FnExactParseProof at h
 refine PC.start Tryz.func3 Tryz.ntmps3 rfl ok3 rfl ?_
 refine Run.sr (X.bx ?_)
 refine X.an ?_
 refine Run.seq (Run.sr (X.mv ?_))
 refine X.lenStr Tryz.underlying9 (by rfl) (by rfl) ?_
 refine X.bi ?_
 refine X.nil ?_
 refine R.cd (fun hc1=>?_) (fun hc1=>?_)
 ·replace h:=condT hc1 h
  refine Run.sr (X.an ?_)
  cases h
  refine R.f1 Tryz.results3 ?_
  rfl
 replace h:=condF hc1 h
 refine Run.skip (Run.sr (X.an ?_))
 refine Run.sr (X.ld shp27 ?_)
 refine X.mv ?_
 obtain ⟨v2,hv2,h⟩:=bindE h
 refine X.cp (w_szProject_pc _ _ _ hv2) ?_
 refine X.an ?_
 refine Run.seq (Run.sr (X.mv ?_))
 refine X.bi ?_
 refine X.nil ?_
 refine R.cd (fun hc3=>?_) (fun hc3=>?_)
 ·replace h:=condT hc3 h
  refine Run.sr (X.an ?_)
  cases h
  refine R.f1 Tryz.results3 ?_
  rfl
 replace h:=condF hc3 h
 refine Run.skip (Run.sr (X.ld shp27 ?_))
 obtain ⟨v4,hv4,h⟩:=bindE h
 refine X.callA (PC.ofY (ps:=[eTProject b0]) (w_toProject_pc _ _ hv4) (by rfl) (by rfl)) (by rfl) (by rfl) (by rfl) (by trivial) (by rfl) (by rfl) (by rfl) (by rfl) (by rfl) (by rfl) ?_
 refine X.mv ?_
 obtain ⟨v5,hv5,h⟩:=bindE h
 refine X.callT (s_ParseProof_pc _ _ _ hv5) (by rfl) (by rfl) (by rfl) (by repeat (first | trivial | refine ⟨by first | rfl | simp [setL],?_⟩)) (by rfl) (by rfl) (by rfl) (by rfl) (by rfl) (by rfl) ?_
 refine X.mv ?_
 refine X.extract (h:=?_)
 refine X.extract (h:=?_)
 refine X.as ?_
 refine X.an ?_
 refine Run.sr (X.ld shp27 ?_)
 obtain ⟨v6,hv6,h⟩:=bindE h
 refine X.callY (w_toProject_pc _ _ hv6) (by rfl) (by rfl) (by rfl) (by trivial) (by rfl) (by rfl) (by rfl) (by rfl) (by rfl) (by rfl) (by rfl) ?_
 refine X.alloc zer36 (h:=?_)
 refine X.sl shp36 ?_
 refine X.nil (Run.sr (X.ld shp36 ?_))
 refine X.mv ?_
 obtain ⟨v7,hv7,h⟩:=bindE h
 refine X.callM [(6527,2048)] (PC.lend (M0:=[(6527,.yreg false false)]) (i_ParseProof_pc _ _ _ hv7) (FlatR.tupleL ⟨(.tre _ _ _),(.lit _),trivial⟩) (by rfl) (.agg _ _ _ _ (.same _ _ _ (by rfl) (.yng 6527 _ _ _ _ (by rfl) (.yng 6527 _ _ _ _ (by rfl) (.yng 6527 _ _ _ _ (by rfl) (.yng 6527 _ _ _ _ (by rfl) .nil))))) (.same _ _ _ (by rfl) .nil))) (by rfl) (by rfl) (.agg _ _ _ _ _ _ (.pureB (by rfl) (by repeat (first | trivial | refine ⟨by first | rfl | simp [setL],?_⟩)) (.yngB 6527 (by rfl) (by rfl) (.yngB 6527 (by rfl) (by rfl) (.yngB 6527 (by rfl) (by rfl) (.yngB 6527 (by rfl) (by rfl) .nil))))) (.pureB (by rfl) (by repeat (first | trivial | refine ⟨by first | rfl | simp [setL],?_⟩)) .nil)) (by rfl) ⟨rfl,rfl,⟨_,by rfl,by constructor⟩,by constructor,trivial⟩ (by rfl) (by rfl) (by rfl) (by rfl) (by rfl) (by rfl) (by rfl) (by rfl) (by rfl) ?_
 refine X.mv ?_
 refine X.extract (h:=?_)
 refine X.extract (h:=?_)
 refine X.as ?_
 refine X.an ?_
 refine Run.seq (Run.seq ?_)
 obtain ⟨v8,hv8,h⟩:=bindE h
 obtain ⟨e9,he9,h2⟩:=bindE h
 refine R.regG [(1,str b1),(2,.lptr 128 0),(6,.own 1792 (v5.1.map eTLine).length),(7,bool v5.2),(8,.lptr 512 0),(9,.tref 2304 (v7.1.map tTLine).length .out),(10,bool v7.2),(47,bool e9)] [(128,.blk true [int b0.Deadline,.slice (b0.Activities.map eTActivity),.slice (b0.Links.map eTLink),.slice (b0.Resources.map eTResource),.slice (b0.Stocks.map int)]),(1792,.obj false 53 6 (v5.1.map eTLine)),(512,.blk true [int v6.Deadline,.yng 2048 (.slice (v6.Activities.map eTActivity)),.yng 2048 (.slice (v6.Links.map eTLink)),.yng 2048 (.slice (v6.Resources.map eTResource)),.yng 2048 (.slice (v6.Stocks.map int))]),(2048,.yreg false true),(2304,.tre 53 6 (v7.1.map tTLine))] ?_ ?_
 ·clear h;have h:=he9;clear he9 h2
  refine X.mv ?_
  refine X.mv ?_
  refine X.callM [(63,2304)] (PC.lend (M0:=[(63,.tre 53 6 (v7.1.map tTLine))]) (w_eqLineS_pc _ _ _ hv8) (.lit _) (by rfl) (.tref 63 _ _ _ _ _ _ _ (by rfl) (by first | rfl | simp [setL] | omega) (by rw [List.map_map];rfl) (.same _ _ _ (by rfl) .nil))) (by rfl) (by rfl) (.trefB 63 (by rfl) (by rfl) (.pureB (by rfl) (by repeat (first | trivial | refine ⟨by first | rfl | simp [setL],?_⟩)) .nil)) (by rfl) ⟨rfl,rfl,⟨_,by rfl,by constructor⟩,.tre _ _ _ _ (shapeT_refl _),trivial⟩ (by rfl) (by rfl) (by rfl) (by rfl) (by rfl) (by rfl) (by rfl) (by rfl) (by rfl) ?_
  refine X.un (h:=?_)
  refine X.mv ?_
  refine X.iG (fun hb10=>?_) (fun hb10=>?_)
  ·replace h:=condF hb10 h
   refine X.mv ?_
   refine X.gy (X.mv ?_)
   refine X.gy (X.neqBool Tryz.underlying4 (by rfl) (by rfl) (by rfl) ?_)
   refine X.pF ?_
   cases h
   exact X.eG
  replace h:=condT hb10 h
  refine X.gn (X.gn (X.pT ?_))
  cases h
  exact X.eG
 replace h:=h2;clear h2
 refine R.cd (fun hc11=>?_) (fun hc11=>?_)
 ·replace h:=condT hc11 h
  refine Run.sr (X.an ?_)
  cases h
  refine R.f1 Tryz.results3 ?_
  rfl
 replace h:=condF hc11 h
 refine Run.skip (Run.seq (Run.seq (Run.draw (footOf [(0,([512],[],[],[])),(1,([128],[],[],[])),(2,([],[3200,3201,3202,3203],[],[])),(3,([2048,3200,3201,3202,3203],[2048],[],[]))]) mixed (by kernel_rfl) (by kernel_rfl) ?_)))
 refine X.ld shp36 ?_
 refine X.ld shp27 ?_
 obtain ⟨v12,hv12,h⟩:=bindE h
 refine X.callA (PC.ofY (ps:=[eTProject b0]) (w_toProject_pc _ _ hv12) (by rfl) (by rfl)) (by rfl) (by rfl) (by rfl) (by trivial) (by rfl) (by rfl) (by rfl) (by rfl) (by rfl) (by rfl) ?_
 obtain ⟨v13,hv13,h⟩:=bindE h
 refine X.callM [(6527,2048)] (PC.lend (M0:=[(6527,.yreg false false)]) (w_eqProject_pc _ _ _ hv13) (.lit _) (by rfl) (.agg _ _ _ _ (.same _ _ _ (by rfl) (.yng 6527 _ _ _ _ (by rfl) (.yng 6527 _ _ _ _ (by rfl) (.yng 6527 _ _ _ _ (by rfl) (.yng 6527 _ _ _ _ (by rfl) .nil))))) (.agg _ _ _ _ (.same _ _ _ (by rfl) (.same _ _ _ (by rfl) (.same _ _ _ (by rfl) (.same _ _ _ (by rfl) (.same _ _ _ (by rfl) .nil))))) .nil))) (by rfl) (by rfl) (.agg _ _ _ _ _ _ (.pureB (by rfl) (by repeat (first | trivial | refine ⟨by first | rfl | simp [setL],?_⟩)) (.yngB 6527 (by rfl) (by rfl) (.yngB 6527 (by rfl) (by rfl) (.yngB 6527 (by rfl) (by rfl) (.yngB 6527 (by rfl) (by rfl) .nil))))) (.pureB (by rfl) (by repeat (first | trivial | refine ⟨by first | rfl | simp [setL],?_⟩)) .nil)) (by rfl) ⟨rfl,rfl,⟨_,by rfl,by constructor⟩,by constructor,trivial⟩ (by rfl) (by rfl) (by rfl) (by rfl) (by rfl) (by rfl) (by rfl) (by rfl) (by rfl) ?_
 refine X.un (h:=?_)
 refine X.nil ?_
 refine R.cd (fun hc14=>?_) (fun hc14=>?_)
 ·replace h:=condT hc14 h
  refine Run.sr (X.an ?_)
  cases h
  refine R.f1 Tryz.results3 ?_
  rfl
 replace h:=condF hc14 h
 refine Run.skip (Run.sr (X.an ?_))
 refine Run.seq (R.demote 2048 (by rfl) (by rfl) (by rfl) (by rfl) (by rfl) (by rfl) ?_)
 refine Run.reg (X.ld shp36 ?_)
 refine X.mv ?_
 obtain ⟨v15,hv15,h⟩:=bindE h
 refine X.callM [(63,2048)] (w_markProject_k_pc _ _ _ hv15) (by rfl) (by rfl) (.agg _ _ _ _ _ _ (.pureB (by rfl) (by repeat (first | trivial | refine ⟨by first | rfl | simp [setL],?_⟩)) (.yskB 63 (by rfl) (by rfl) (.yskB 63 (by rfl) (by rfl) (.yskB 63 (by rfl) (by rfl) (.yskB 63 (by rfl) (by rfl) .nil))))) (.pureB (by rfl) (by repeat (first | trivial | refine ⟨by first | rfl | simp [setL],?_⟩)) .nil)) (by rfl) ⟨rfl,rfl,⟨_,by rfl,by constructor⟩,by constructor,trivial⟩ (by rfl) (by rfl) (by rfl) (by rfl) (by rfl) (by rfl) (by rfl) (by rfl) (by rfl) ?_
 refine X.an ?_
 refine Run.seq (Run.seq ?_)
 obtain ⟨e16,he16,h2⟩:=bindE h
 refine R.regG [(1,str b1),(2,.lptr 128 0),(6,.own 1792 (v5.1.map eTLine).length),(7,bool v5.2),(9,.tref 2304 (v7.1.map tTLine).length .out),(68,bool e16)] [(128,.blk true [int b0.Deadline,.slice (b0.Activities.map eTActivity),.slice (b0.Links.map eTLink),.slice (b0.Resources.map eTResource),.slice (b0.Stocks.map int)]),(1792,.obj false 53 6 (v5.1.map eTLine)),(2304,.tre 53 6 (v7.1.map tTLine))] ?_ ?_
 ·clear h;have h:=he16;clear he16 h2
  refine X.mv ?_
  refine X.bi ?_
  refine X.mv ?_
  refine X.iG (fun hb17=>?_) (fun hb17=>?_)
  ·replace h:=condF hb17 h
   refine X.mv ?_
   refine X.gy (X.mv ?_)
   refine X.gy ?_
   obtain ⟨v18,hv18,h⟩:=bindE h
   refine X.callM [(63,2304)] (PC.lend (M0:=[(63,.tre 53 6 (v7.1.map tTLine))]) (w_eqLineS_pc _ _ _ hv18) (.lit _) (by rfl) (.tref 63 _ _ _ _ _ _ _ (by rfl) (by first | rfl | simp [setL] | omega) (by rw [List.map_map];rfl) (.same _ _ _ (by rfl) .nil))) (by rfl) (by rfl) (.trefB 63 (by rfl) (by rfl) (.pureB (by rfl) (by repeat (first | trivial | refine ⟨by first | rfl | simp [setL],?_⟩)) .nil)) (by rfl) ⟨rfl,rfl,⟨_,by rfl,by constructor⟩,.tre _ _ _ _ (shapeT_refl _),trivial⟩ (by rfl) (by rfl) (by rfl) (by rfl) (by rfl) (by rfl) (by rfl) (by rfl) (by rfl) ?_
   refine X.gy (X.un (h:=?_))
   refine X.pF ?_
   refine X.mv ?_
   refine X.iG (fun hb19=>?_) (fun hb19=>?_)
   ·replace h:=condF hb19 h
    refine X.mv ?_
    refine X.gy (X.mv ?_)
    refine X.gy (X.neqBool Tryz.underlying4 (by rfl) (by rfl) (by rfl) ?_)
    refine X.pF ?_
    cases h
    exact X.eG
   replace h:=condT hb19 h
   refine X.gn (X.gn (X.pT ?_))
   cases h
   exact X.eG
  replace h:=condT hb17 h
  refine X.gn (X.gn (X.gn (X.pT ?_)))
  refine X.mv ?_
  refine X.gn (X.gn (X.gn (X.pT ?_)))
  cases h
  exact X.eG
 replace h:=h2;clear h2
 refine R.cd (fun hc20=>?_) (fun hc20=>?_)
 ·replace h:=condT hc20 h
  refine Run.sr (X.an ?_)
  cases h
  refine R.f1 Tryz.results3 ?_
  rfl
 replace h:=condF hc20 h
 refine Run.skip (Run.sr (X.an ?_))
 refine Run.seq (Run.region ?_)
 refine Run.mvo ?_
 refine Run.mvo ?_
 obtain ⟨v21,hv21,h⟩:=bindE h
 refine Run.callTre (w_markLineS_pc _ _ _ hv21) (by rfl) rfl (by rfl) (by rfl) (by rfl) (by rfl) (by first | rfl | simp [setL] | omega) (fun h=>shape_tTLine _ _ (by simpa using h)) (by rfl) (by repeat (first | exact trivial | refine ⟨by first | rfl | simp [setL],?_⟩)) (by rfl) ?_
 refine Run.aso ?_
 refine Run.nil (Run.sr (X.an ?_))
 refine Run.sr (X.mv ?_)
 refine X.mv ?_
 obtain ⟨v22,hv22,h⟩:=bindE h
 refine X.callM [(63,2304)] (PC.lend (M0:=[(63,.tre 53 6 (v21.2.map tTLine))]) (w_heldLineS_pc _ _ _ hv22) (.lit _) (by rfl) (.tref 63 _ _ _ _ _ _ _ (by rfl) (by first | rfl | simp [setL] | omega) (by rw [List.map_map];rfl) (.same _ _ _ (by rfl) .nil))) (by rfl) (by rfl) (.trefB 63 (by rfl) (by rfl) (.pureB (by rfl) (by repeat (first | trivial | refine ⟨by first | rfl | simp [setL],?_⟩)) .nil)) (by rfl) ⟨rfl,rfl,⟨_,by rfl,by constructor⟩,.tre _ _ _ _ (shapeT_refl _),trivial⟩ (by rfl) (by rfl) (by rfl) (by rfl) (by rfl) (by rfl) (by rfl) (by rfl) (by rfl) ?_
 refine X.an ?_
 refine Run.seq (Run.sr (X.mv ?_))
 refine X.bi ?_
 refine X.nil ?_
 refine R.cd (fun hc23=>?_) (fun hc23=>?_)
 ·replace h:=condT hc23 h
  refine Run.sr (X.an ?_)
  cases h
  refine R.f1 Tryz.results3 ?_
  rfl
 replace h:=condF hc23 h
 refine Run.skip (Run.seq (Run.sr (X.mv ?_)))
 refine X.mv ?_
 refine X.bi ?_
 refine X.nil ?_
 refine R.cd (fun hc24=>?_) (fun hc24=>?_)
 ·replace h:=condT hc24 h
  refine Run.sr (X.an ?_)
  cases h
  refine R.f1 Tryz.results3 ?_
  rfl
 replace h:=condF hc24 h
 refine Run.skip (Run.sr (X.ld shp27 ?_))
 obtain ⟨v25,hv25,h⟩:=bindE h
 refine X.callA (PC.ofY (ps:=[eTProject b0]) (w_toProject_pc _ _ hv25) (by rfl) (by rfl)) (by rfl) (by rfl) (by rfl) (by trivial) (by rfl) (by rfl) (by rfl) (by rfl) (by rfl) (by rfl) ?_
 refine X.mv ?_
 obtain ⟨v26,hv26,h⟩:=bindE h
 refine X.callT (i_ParseProof_pc _ _ _ hv26) (by rfl) (by rfl) (by rfl) (by repeat (first | trivial | refine ⟨by first | rfl | simp [setL],?_⟩)) (by rfl) (by rfl) (by rfl) (by rfl) (by rfl) (by rfl) ?_
 refine X.mv ?_
 refine X.extract (h:=?_)
 refine X.extract (h:=?_)
 refine X.as ?_
 refine X.an ?_
 refine Run.seq (Run.seq ?_)
 obtain ⟨v27,hv27,h⟩:=bindE h
 obtain ⟨e28,he28,h2⟩:=bindE h
 refine R.regG [(9,.tref 2304 (v21.2.map tTLine).length .out),(12,int v21.1),(95,bool e28)] [(2304,.tre 53 6 (v21.2.map tTLine))] ?_ ?_
 ·clear h;have h:=he28;clear he28 h2
  refine X.mv ?_
  refine X.mv ?_
  refine X.callM [(63,5376)] (PC.lend (M0:=[(63,.tre 53 6 (v26.1.map tTLine))]) (w_eqLineS_pc _ _ _ hv27) (.lit _) (by rfl) (.tref 63 _ _ _ _ _ _ _ (by rfl) (by first | rfl | simp [setL] | omega) (by rw [List.map_map];rfl) (.same _ _ _ (by rfl) .nil))) (by rfl) (by rfl) (.trefB 63 (by rfl) (by rfl) (.pureB (by rfl) (by repeat (first | trivial | refine ⟨by first | rfl | simp [setL],?_⟩)) .nil)) (by rfl) ⟨rfl,rfl,⟨_,by rfl,by constructor⟩,.tre _ _ _ _ (shapeT_refl _),trivial⟩ (by rfl) (by rfl) (by rfl) (by rfl) (by rfl) (by rfl) (by rfl) (by rfl) (by rfl) ?_
  refine X.un (h:=?_)
  refine X.mv ?_
  refine X.iG (fun hb29=>?_) (fun hb29=>?_)
  ·replace h:=condF hb29 h
   refine X.mv ?_
   refine X.gy (X.mv ?_)
   refine X.gy (X.neqBool Tryz.underlying4 (by rfl) (by rfl) (by rfl) ?_)
   refine X.pF ?_
   cases h
   exact X.eG
  replace h:=condT hb29 h
  refine X.gn (X.gn (X.pT ?_))
  cases h
  exact X.eG
 replace h:=h2;clear h2
 refine R.cd (fun hc30=>?_) (fun hc30=>?_)
 ·replace h:=condT hc30 h
  refine Run.sr (X.an ?_)
  cases h
  refine R.f1 Tryz.results3 ?_
  rfl
 replace h:=condF hc30 h
 refine Run.skip (Run.sr (X.an ?_))
 refine Run.sr (X.mv ?_)
 refine X.mv ?_
 obtain ⟨v31,hv31,h⟩:=bindE h
 refine X.callM [(63,2304)] (PC.lend (M0:=[(63,.tre 53 6 (v21.2.map tTLine))]) (w_heldLineS_pc _ _ _ hv31) (.lit _) (by rfl) (.tref 63 _ _ _ _ _ _ _ (by rfl) (by first | rfl | simp [setL] | omega) (by rw [List.map_map];rfl) (.same _ _ _ (by rfl) .nil))) (by rfl) (by rfl) (.trefB 63 (by rfl) (by rfl) (.pureB (by rfl) (by repeat (first | trivial | refine ⟨by first | rfl | simp [setL],?_⟩)) .nil)) (by rfl) ⟨rfl,rfl,⟨_,by rfl,by constructor⟩,.tre _ _ _ _ (shapeT_refl _),trivial⟩ (by rfl) (by rfl) (by rfl) (by rfl) (by rfl) (by rfl) (by rfl) (by rfl) (by rfl) ?_
 refine X.an ?_
 refine Run.seq (Run.sr (X.mv ?_))
 refine X.bi ?_
 refine X.nil ?_
 refine R.cd (fun hc32=>?_) (fun hc32=>?_)
 ·replace h:=condT hc32 h
  refine Run.sr (X.an ?_)
  cases h
  refine R.f1 Tryz.results3 ?_
  rfl
 replace h:=condF hc32 h
 refine Run.skip (Run.seq (Run.sr (X.mv ?_)))
 refine X.mv ?_
 refine X.bi ?_
 refine X.nil ?_
 refine R.cd (fun hc33=>?_) (fun hc33=>?_)
 ·replace h:=condT hc33 h
  refine Run.sr (X.an ?_)
  cases h
  refine R.f1 Tryz.results3 ?_
  rfl
 replace h:=condF hc33 h
 refine Run.skip (Run.sr (X.an ?_))
 cases h
 refine R.f1 Tryz.results3 ?_
 rfl
end Go.Px.YtoajaeffpalmlaaGreatDoor
