/-
  PROVED: contracts of functions of the program over pure values. No condition beyond those that each theorem names.
-/
import Derived.Test.YtimegoembedagaaGreatProg
import Derived.Test.YtimegoembedagaaGreatD1
import Derived.Test.YtimegoembedagaaGreatC2
namespace Go.Px.YtimegoembedagaaGreat
set_option linter.unusedSimpArgs false
set_option linter.unusedVariables false
open Go.Px Go.Proofs
theorem w_FnExactPriorityOrder_pc (b0:A0d)(b1:Int)(r:Bool)(h:w_FnExactPriorityOrder b0 b1=some r):PC Tryz.prog 4 [A0v b0,int b1] (bool r):=by
 unfold w_FnExactPriorityOrder at h
 refine PC.start Tryz.func4 Tryz.ntmps4 rfl ok4 rfl ?_
 refine Run.sr (X.bx ?_)
 refine X.an ?_
 refine Run.sr (X.an ?_)
 refine Run.sr (X.ld shp27 ?_)
 refine X.mv ?_
 obtain ⟨v1,hv1,h⟩:=bindE h
 refine X.cp (A1e _ _ _ hv1) ?_
 refine X.an ?_
 refine Run.seq (Run.sr (X.mv ?_))
 refine X.bi ?_
 refine X.nil ?_
 refine R.cd (fun hc2=>?_) (fun hc2=>?_)
 ·replace h:=condT hc2 h
  refine Run.sr (X.an ?_)
  cases h
  refine R.f1 Tryz.results4 ?_
  rfl
 replace h:=condF hc2 h
 refine Run.skip (Run.sr (X.ld shp27 ?_))
 obtain ⟨v3,hv3,h⟩:=bindE h
 refine X.callA (PC.ofY (ps:=[A0v b0]) (L0x _ _ hv3) (by rfl) (by rfl)) (by rfl) (by rfl) (by rfl) (by trivial) (by rfl) (by rfl) (by rfl) (by rfl) (by rfl) (by rfl) ?_
 refine X.mv ?_
 obtain ⟨v4,hv4,h⟩:=bindE h
 refine X.cp (U0v _ _ _ hv4) ?_
 refine X.an ?_
 refine Run.sr (X.ld shp27 ?_)
 obtain ⟨v5,hv5,h⟩:=bindE h
 refine X.callY (L0x _ _ hv5) (by rfl) (by rfl) (by rfl) (by trivial) (by rfl) (by rfl) (by rfl) (by rfl) (by rfl) (by rfl) (by rfl) ?_
 refine X.alloc zer34 (h:=?_)
 refine X.sl shp34 ?_
 refine X.nil (Run.sr (X.ld shp34 ?_))
 refine X.mv ?_
 obtain ⟨v6,hv6,h⟩:=bindE h
 refine X.callM [(6527,1472)] (PC.lend (M0:=[(6527,.yreg false false)]) (P0f _ _ _ hv6) (FlatR.freshM (fun _=>(by repeat (first | exact trivial | refine ⟨trivial,?_⟩)))) (by rfl) (.agg _ _ _ _ (.same _ _ _ (by rfl) (.yng 6527 _ _ _ _ (by rfl) (.yng 6527 _ _ _ _ (by rfl) (.yng 6527 _ _ _ _ (by rfl) (.yng 6527 _ _ _ _ (by rfl) .nil))))) (.same _ _ _ (by rfl) .nil))) (by rfl) (by rfl) (.agg _ _ _ _ _ _ (.pureB (by rfl) (by repeat (first | trivial | refine ⟨by first | rfl | simp [setL],?_⟩)) (.yngB 6527 (by rfl) (by rfl) (.yngB 6527 (by rfl) (by rfl) (.yngB 6527 (by rfl) (by rfl) (.yngB 6527 (by rfl) (by rfl) .nil))))) (.pureB (by rfl) (by repeat (first | trivial | refine ⟨by first | rfl | simp [setL],?_⟩)) .nil)) (by rfl) ⟨rfl,rfl,⟨_,by rfl,by constructor⟩,by constructor,trivial⟩ (by rfl) (by rfl) (by rfl) (by rfl) (by rfl) (by rfl) (by rfl) (by rfl) (by rfl) ?_
 refine X.an ?_
 refine Run.seq (Run.sr (X.mv ?_))
 refine X.mv ?_
 obtain ⟨v7,hv7,h⟩:=bindE h
 refine X.callM [(63,1664)] (PC.lend (M0:=[(63,.obj true 3 1 (v6.map int))]) (K0m _ _ _ hv7) (.lit _) (by rfl) (.own 63 _ _ _ _ _ _ _ (by rfl) (by first | rfl | simp [setL] | omega) (.same _ _ _ (by rfl) .nil))) (by rfl) (by rfl) (.ownB 63 (by rfl) (by first | rfl | simp [setL] | omega) (by rfl) (.pureB (by rfl) (by repeat (first | trivial | refine ⟨by first | rfl | simp [setL],?_⟩)) .nil)) (by rfl) ⟨rfl,rfl,⟨_,by rfl,by constructor⟩,by constructor,trivial⟩ (by rfl) (by rfl) (by rfl) (by rfl) (by rfl) (by rfl) (by rfl) (by rfl) (by rfl) ?_
 refine X.un (h:=?_)
 refine X.nil ?_
 refine R.cd (fun hc8=>?_) (fun hc8=>?_)
 ·replace h:=condT hc8 h
  refine Run.sr (X.an ?_)
  cases h
  refine R.f1 Tryz.results4 ?_
  rfl
 replace h:=condF hc8 h
 refine Run.skip (Run.seq (Run.seq (Run.draw (D0a [(0,([448],[],[],[])),(1,([128],[],[],[])),(2,([],[2112,2113,2114,2115],[],[])),(3,([1472,2112,2113,2114,2115],[1472],[],[]))]) mixed (by kernel_rfl) (by kernel_rfl) ?_)))
 refine X.ld shp34 ?_
 refine X.ld shp27 ?_
 obtain ⟨v9,hv9,h⟩:=bindE h
 refine X.callA (PC.ofY (ps:=[A0v b0]) (L0x _ _ hv9) (by rfl) (by rfl)) (by rfl) (by rfl) (by rfl) (by trivial) (by rfl) (by rfl) (by rfl) (by rfl) (by rfl) (by rfl) ?_
 obtain ⟨v10,hv10,h⟩:=bindE h
 refine X.callM [(6527,1472)] (PC.lend (M0:=[(6527,.yreg false false)]) (A1j _ _ _ hv10) (.lit _) (by rfl) (.agg _ _ _ _ (.same _ _ _ (by rfl) (.yng 6527 _ _ _ _ (by rfl) (.yng 6527 _ _ _ _ (by rfl) (.yng 6527 _ _ _ _ (by rfl) (.yng 6527 _ _ _ _ (by rfl) .nil))))) (.agg _ _ _ _ (.same _ _ _ (by rfl) (.same _ _ _ (by rfl) (.same _ _ _ (by rfl) (.same _ _ _ (by rfl) (.same _ _ _ (by rfl) .nil))))) .nil))) (by rfl) (by rfl) (.agg _ _ _ _ _ _ (.pureB (by rfl) (by repeat (first | trivial | refine ⟨by first | rfl | simp [setL],?_⟩)) (.yngB 6527 (by rfl) (by rfl) (.yngB 6527 (by rfl) (by rfl) (.yngB 6527 (by rfl) (by rfl) (.yngB 6527 (by rfl) (by rfl) .nil))))) (.pureB (by rfl) (by repeat (first | trivial | refine ⟨by first | rfl | simp [setL],?_⟩)) .nil)) (by rfl) ⟨rfl,rfl,⟨_,by rfl,by constructor⟩,by constructor,trivial⟩ (by rfl) (by rfl) (by rfl) (by rfl) (by rfl) (by rfl) (by rfl) (by rfl) (by rfl) ?_
 refine X.un (h:=?_)
 refine X.nil ?_
 refine R.cd (fun hc11=>?_) (fun hc11=>?_)
 ·replace h:=condT hc11 h
  refine Run.sr (X.an ?_)
  cases h
  refine R.f1 Tryz.results4 ?_
  rfl
 replace h:=condF hc11 h
 refine Run.skip (Run.sr (X.an ?_))
 refine Run.seq (R.demote 1472 (by rfl) (by rfl) (by rfl) (by rfl) (by rfl) (by rfl) ?_)
 refine Run.reg (X.ld shp34 ?_)
 refine X.mv ?_
 obtain ⟨v12,hv12,h⟩:=bindE h
 refine X.callM [(63,1472)] (U0x _ _ _ hv12) (by rfl) (by rfl) (.agg _ _ _ _ _ _ (.pureB (by rfl) (by repeat (first | trivial | refine ⟨by first | rfl | simp [setL],?_⟩)) (.yskB 63 (by rfl) (by rfl) (.yskB 63 (by rfl) (by rfl) (.yskB 63 (by rfl) (by rfl) (.yskB 63 (by rfl) (by rfl) .nil))))) (.pureB (by rfl) (by repeat (first | trivial | refine ⟨by first | rfl | simp [setL],?_⟩)) .nil)) (by rfl) ⟨rfl,rfl,⟨_,by rfl,by constructor⟩,by constructor,trivial⟩ (by rfl) (by rfl) (by rfl) (by rfl) (by rfl) (by rfl) (by rfl) (by rfl) (by rfl) ?_
 refine X.an ?_
 refine Run.seq (Run.seq ?_)
 obtain ⟨e13,he13,h2⟩:=bindE h
 refine R.regG [(1,int b1),(2,.lptr 128 0),(6,.slice (v4.map int)),(8,.own 1664 (v6.map int).length),(46,bool e13)] [(128,.blk true [int b0.Deadline,.slice (b0.Activities.map A0c),.slice (b0.Links.map A0k),.slice (b0.Resources.map A0e),.slice (b0.Stocks.map int)]),(1664,.obj true 3 1 (v6.map int))] ?_ ?_
 ·clear h;have h:=he13;clear he13 h2
  refine X.mv ?_
  refine X.bi ?_
  refine X.mv ?_
  refine X.iG (fun hb14=>?_) (fun hb14=>?_)
  ·replace h:=condF hb14 h
   refine X.mv ?_
   refine X.gy (X.mv ?_)
   refine X.gy ?_
   obtain ⟨v15,hv15,h⟩:=bindE h
   refine X.callM [(63,1664)] (PC.lend (M0:=[(63,.obj true 3 1 (v6.map int))]) (K0m _ _ _ hv15) (.lit _) (by rfl) (.own 63 _ _ _ _ _ _ _ (by rfl) (by first | rfl | simp [setL] | omega) (.same _ _ _ (by rfl) .nil))) (by rfl) (by rfl) (.ownB 63 (by rfl) (by first | rfl | simp [setL] | omega) (by rfl) (.pureB (by rfl) (by repeat (first | trivial | refine ⟨by first | rfl | simp [setL],?_⟩)) .nil)) (by rfl) ⟨rfl,rfl,⟨_,by rfl,by constructor⟩,by constructor,trivial⟩ (by rfl) (by rfl) (by rfl) (by rfl) (by rfl) (by rfl) (by rfl) (by rfl) (by rfl) ?_
   refine X.gy (X.un (h:=?_))
   refine X.pF ?_
   cases h
   exact X.eG
  replace h:=condT hb14 h
  refine X.gn (X.gn (X.gn (X.pT ?_)))
  cases h
  exact X.eG
 replace h:=h2;clear h2
 refine R.cd (fun hc16=>?_) (fun hc16=>?_)
 ·replace h:=condT hc16 h
  refine Run.sr (X.an ?_)
  cases h
  refine R.f1 Tryz.results4 ?_
  rfl
 replace h:=condF hc16 h
 refine Run.skip (Run.sr (X.an ?_))
 refine Run.sr (X.mv ?_)
 refine X.mv ?_
 obtain ⟨v17,hv17,h⟩:=bindE h
 refine X.callR [(63,1664)] [(1664,(v6.map int).length)] [(1664,(v17.2.map int).length)] (B1j _ _ _ hv17) (by rfl) (by rfl) (.ownB 63 (by rfl) (by first | rfl | simp [setL] | omega) (by rfl) (.pureB (by rfl) (by repeat (first | trivial | refine ⟨by first | rfl | simp [setL],?_⟩)) .nil)) (by rfl) ⟨rfl,rfl,⟨_,by rfl,by constructor⟩,by constructor,trivial⟩ (by rfl) (by rfl) (by rfl) (by rfl) ⟨rfl,⟨_,_,_,_,by rfl,by rfl⟩,⟨_,_,_,_,by rfl,by rfl⟩,trivial⟩ (by rfl) (by repeat (first | trivial | refine ⟨by first | rfl | simp [setL],?_⟩)) (by rfl) (by rfl) (by rfl) (by rfl) (by rfl) ?_
 refine X.an ?_
 refine Run.sr (X.an ?_)
 refine Run.sr (X.mv ?_)
 refine X.mv ?_
 obtain ⟨v18,hv18,h⟩:=bindE h
 refine X.callM [(63,1664)] (PC.lend (M0:=[(63,.obj true 3 1 (v17.2.map int))]) (U0e _ _ _ hv18) (.lit _) (by rfl) (.own 63 _ _ _ _ _ _ _ (by rfl) (by first | rfl | simp [setL] | omega) (.same _ _ _ (by rfl) .nil))) (by rfl) (by rfl) (.ownB 63 (by rfl) (by first | rfl | simp [setL] | omega) (by rfl) (.pureB (by rfl) (by repeat (first | trivial | refine ⟨by first | rfl | simp [setL],?_⟩)) .nil)) (by rfl) ⟨rfl,rfl,⟨_,by rfl,by constructor⟩,by constructor,trivial⟩ (by rfl) (by rfl) (by rfl) (by rfl) (by rfl) (by rfl) (by rfl) (by rfl) (by rfl) ?_
 refine X.an ?_
 refine Run.seq (Run.sr (X.mv ?_))
 refine X.bi ?_
 refine X.nil ?_
 refine R.cd (fun hc19=>?_) (fun hc19=>?_)
 ·replace h:=condT hc19 h
  refine Run.sr (X.an ?_)
  cases h
  refine R.f1 Tryz.results4 ?_
  rfl
 replace h:=condF hc19 h
 refine Run.skip (Run.seq (Run.sr (X.mv ?_)))
 refine X.mv ?_
 refine X.bi ?_
 refine X.nil ?_
 refine R.cd (fun hc20=>?_) (fun hc20=>?_)
 ·replace h:=condT hc20 h
  refine Run.sr (X.an ?_)
  cases h
  refine R.f1 Tryz.results4 ?_
  rfl
 replace h:=condF hc20 h
 refine Run.skip (Run.sr (X.ld shp27 ?_))
 obtain ⟨v21,hv21,h⟩:=bindE h
 refine X.callA (PC.ofY (ps:=[A0v b0]) (L0x _ _ hv21) (by rfl) (by rfl)) (by rfl) (by rfl) (by rfl) (by trivial) (by rfl) (by rfl) (by rfl) (by rfl) (by rfl) (by rfl) ?_
 refine X.mv ?_
 obtain ⟨v22,hv22,h⟩:=bindE h
 refine X.callF (PC.pubF (P0f _ _ _ hv22)) (by rfl) (by rfl) (by rfl) (by repeat (first | trivial | refine ⟨by first | rfl | simp [setL],?_⟩)) (by rfl) (by rfl) (by rfl) (by rfl) ?_
 refine X.an ?_
 refine Run.seq (Run.sr (X.mv ?_))
 refine X.mv ?_
 obtain ⟨v23,hv23,h⟩:=bindE h
 refine X.cp (K0m _ _ _ hv23) ?_
 refine X.un (h:=?_)
 refine X.nil ?_
 refine R.cd (fun hc24=>?_) (fun hc24=>?_)
 ·replace h:=condT hc24 h
  refine Run.sr (X.an ?_)
  cases h
  refine R.f1 Tryz.results4 ?_
  rfl
 replace h:=condF hc24 h
 refine Run.skip (Run.sr (X.an ?_))
 refine Run.sr (X.mv ?_)
 refine X.mv ?_
 obtain ⟨v25,hv25,h⟩:=bindE h
 refine X.callM [(63,1664)] (PC.lend (M0:=[(63,.obj true 3 1 (v17.2.map int))]) (U0e _ _ _ hv25) (.lit _) (by rfl) (.own 63 _ _ _ _ _ _ _ (by rfl) (by first | rfl | simp [setL] | omega) (.same _ _ _ (by rfl) .nil))) (by rfl) (by rfl) (.ownB 63 (by rfl) (by first | rfl | simp [setL] | omega) (by rfl) (.pureB (by rfl) (by repeat (first | trivial | refine ⟨by first | rfl | simp [setL],?_⟩)) .nil)) (by rfl) ⟨rfl,rfl,⟨_,by rfl,by constructor⟩,by constructor,trivial⟩ (by rfl) (by rfl) (by rfl) (by rfl) (by rfl) (by rfl) (by rfl) (by rfl) (by rfl) ?_
 refine X.an ?_
 refine Run.seq (Run.sr (X.mv ?_))
 refine X.bi ?_
 refine X.nil ?_
 refine R.cd (fun hc26=>?_) (fun hc26=>?_)
 ·replace h:=condT hc26 h
  refine Run.sr (X.an ?_)
  cases h
  refine R.f1 Tryz.results4 ?_
  rfl
 replace h:=condF hc26 h
 refine Run.skip (Run.seq (Run.sr (X.mv ?_)))
 refine X.mv ?_
 refine X.bi ?_
 refine X.nil ?_
 refine R.cd (fun hc27=>?_) (fun hc27=>?_)
 ·replace h:=condT hc27 h
  refine Run.sr (X.an ?_)
  cases h
  refine R.f1 Tryz.results4 ?_
  rfl
 replace h:=condF hc27 h
 refine Run.skip (Run.sr (X.an ?_))
 cases h
 refine R.f1 Tryz.results4 ?_
 rfl
end Go.Px.YtimegoembedagaaGreat
