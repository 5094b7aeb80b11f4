/-
  PROVED: contracts of functions of the program over pure values. No condition beyond those that each theorem names.
-/
import Derived.Test.YtncedeembfcakaaGreatProg
import Derived.Test.YtncedeembfcakaaGreatD1
import Derived.Test.YtncedeembfcakaaGreatC2
namespace Go.Px.YtncedeembfcakaaGreat
set_option linter.unusedSimpArgs false
set_option linter.unusedVariables false
open Go.Px Go.Proofs
theorem Q0u (b0:A0a)(b1:A0f)(b2:Int)(b3:Int)(r:Int)(h:F0y b0 b1 b2 b3=some r):PC Tryz.prog 9 [A0u b0,D0c b1,int b2,int b3] (int r):=by
 unfold F0y at h
 refine PC.start Tryz.func9 Tryz.ntmps9 rfl (by kernel_rfl) rfl ?_
 refine Run.sr (X.bx ?_)
 refine X.bx ?_
 refine X.an ?_
 refine Run.seq (Run.seq ?_)
 obtain ⟨v1,hv1,h⟩:=bindE h
 obtain ⟨e2,he2,h2⟩:=bindE h
 refine R.regG [(2,int b2),(3,int b3),(4,.lptr 256 0),(5,.lptr 320 0),(18,bool e2)] [(256,.blk true [int b0.Deadline,.slice (b0.Activities.map A0b),.slice (b0.Links.map A0o),.slice (b0.Resources.map A0c),.slice (b0.Stocks.map int)]),(320,.blk true [.slice (b1.MinStart.map int),.slice (b1.MaxStart.map int),.slice (b1.Modes.map l_int)])] ?_ ?_
 ·clear h;have h:=he2;clear he2 h2
  refine X.ld shp28 ?_
  refine X.ld shp32 ?_
  refine X.cp (E0k _ _ _ hv1) ?_
  refine X.un (h:=?_)
  refine X.mv ?_
  refine X.iG (fun hb3=>?_) (fun hb3=>?_)
  ·replace h:=condF hb3 h
   refine X.ld shp28 ?_
   refine X.gy (X.mv ?_)
   refine X.gy ?_
   obtain ⟨v4,hv4,h⟩:=bindE h
   refine X.cp (A0y _ _ _ hv4) ?_
   refine X.gy (X.un (h:=?_))
   refine X.pF ?_
   cases h
   exact X.eG
  replace h:=condT hb3 h
  refine X.gn (X.gn (X.gn (X.pT ?_)))
  cases h
  exact X.eG
 replace h:=h2;clear h2
 refine R.cd (fun hc5=>?_) (fun hc5=>?_)
 ·replace h:=condT hc5 h
  refine Run.sr (X.an ?_)
  cases h
  refine R.f1 Tryz.results9 ?_
  rfl
 replace h:=condF hc5 h
 refine Run.skip (Run.sr (X.ld shp28 ?_))
 refine X.ld shp32 ?_
 refine X.mv ?_
 refine X.mv ?_
 obtain ⟨v6,hv6,h⟩:=bindE h
 refine X.cp (E0j _ _ _ _ _ hv6) ?_
 refine X.an ?_
 cases h
 refine R.f1 Tryz.results9 ?_
 rfl
theorem R0k (b0:A0a)(b1:A0f)(b2:Int)(r:Int×Int×Bool)(h:G0u b0 b1 b2=some r):PC Tryz.prog 11 [A0u b0,D0c b1,int b2] (.tuple [int r.1,int r.2.1,bool r.2.2]):=by
 unfold G0u at h
 refine PC.start Tryz.func11 Tryz.ntmps11 rfl (by kernel_rfl) rfl ?_
 refine Run.sr (X.bx ?_)
 refine X.bx ?_
 refine X.as ?_
 refine X.as ?_
 refine X.an ?_
 refine Run.seq (Run.seq ?_)
 obtain ⟨v1,hv1,h⟩:=bindE h
 obtain ⟨e2,he2,h2⟩:=bindE h
 refine R.regG [(2,int b2),(3,.lptr 192 0),(4,.lptr 256 0),(20,bool e2)] [(192,.blk true [int b0.Deadline,.slice (b0.Activities.map A0b),.slice (b0.Links.map A0o),.slice (b0.Resources.map A0c),.slice (b0.Stocks.map int)]),(256,.blk true [.slice (b1.MinStart.map int),.slice (b1.MaxStart.map int),.slice (b1.Modes.map l_int)])] ?_ ?_
 ·clear h;have h:=he2;clear he2 h2
  refine X.ld shp28 ?_
  refine X.ld shp32 ?_
  refine X.cp (E0k _ _ _ hv1) ?_
  refine X.un (h:=?_)
  refine X.mv ?_
  refine X.iG (fun hb3=>?_) (fun hb3=>?_)
  ·replace h:=condF hb3 h
   refine X.ld shp28 ?_
   refine X.gy (X.mv ?_)
   refine X.gy ?_
   obtain ⟨v4,hv4,h⟩:=bindE h
   refine X.cp (A0z _ _ _ hv4) ?_
   refine X.gy (X.un (h:=?_))
   refine X.pF ?_
   cases h
   exact X.eG
  replace h:=condT hb3 h
  refine X.gn (X.gn (X.gn (X.pT ?_)))
  cases h
  exact X.eG
 replace h:=h2;clear h2
 refine R.cd (fun hc5=>?_) (fun hc5=>?_)
 ·replace h:=condT hc5 h
  refine Run.sr (X.as ?_)
  refine X.as ?_
  refine X.an ?_
  cases h
  refine R.fin3 Tryz.results11 (by rfl) (by rfl) (by rfl) (by rfl) (by repeat (first | trivial | refine ⟨by first | rfl | simp [setL],?_⟩)) ?_
  rfl
 replace h:=condF hc5 h
 refine Run.skip (Run.sr (X.ld shp28 ?_))
 refine X.ld shp32 ?_
 refine X.mv ?_
 obtain ⟨v6,hv6,h⟩:=bindE h
 refine X.callT (J0w _ _ _ _ hv6) (by rfl) (by rfl) (by rfl) (by trivial) (by rfl) (by rfl) (by rfl) (by rfl) (by rfl) (by rfl) ?_
 refine X.mv ?_
 refine X.extract (h:=?_)
 refine X.extract (h:=?_)
 refine X.as ?_
 refine X.an ?_
 refine Run.seq (Run.sr (X.mv ?_))
 refine X.mv ?_
 refine X.bi ?_
 refine X.nil ?_
 refine R.cd (fun hc7=>?_) (fun hc7=>?_)
 ·replace h:=condT hc7 h
  refine Run.sr (X.as ?_)
  refine X.as ?_
  refine X.an ?_
  cases h
  refine R.fin3 Tryz.results11 (by rfl) (by rfl) (by rfl) (by rfl) (by repeat (first | trivial | refine ⟨by first | rfl | simp [setL],?_⟩)) ?_
  rfl
 replace h:=condF hc7 h
 refine Run.skip (Run.sr (X.mv ?_))
 refine X.mv ?_
 refine X.as ?_
 refine X.as ?_
 refine X.an ?_
 cases h
 refine R.fin3 Tryz.results11 (by rfl) (by rfl) (by rfl) (by rfl) (by repeat (first | trivial | refine ⟨by first | rfl | simp [setL],?_⟩)) ?_
 rfl
theorem W0n (b0:A0a)(b1:A0l)(b2:Int)(r:List Int)(h:M0e b0 b1 b2=some r):PC Tryz.prog 13 [A0u b0,D0j b1,int b2] (.fresh false 3 1 (r.map int)):=by
 unfold M0e at h
 refine PC.start Tryz.func13 Tryz.ntmps13 rfl (by kernel_rfl) rfl ?_
 refine Run.sr (X.bx ?_)
 refine X.bx ?_
 refine X.an ?_
 refine Run.seq (Run.sr (X.ld shp28 ?_))
 refine X.ld shp35 ?_
 obtain ⟨v1,hv1,h⟩:=bindE h
 refine X.cp (F0z _ _ _ hv1) ?_
 refine X.un (h:=?_)
 refine X.nil ?_
 refine R.cd (fun hc2=>?_) (fun hc2=>?_)
 ·replace h:=condT hc2 h
  refine Run.sr (X.an ?_)
  cases h
  refine R.fin1n (x:=false) (e:=3) (sz:=1) Tryz.results13 (by rfl) (by decide) ?_
  rfl
 replace h:=condF hc2 h
 refine Run.skip (Run.sr (X.ld shp28 ?_))
 refine X.ld shp35 ?_
 refine X.mv ?_
 obtain ⟨v3,hv3,h⟩:=bindE h
 refine X.callF (L0c _ _ _ _ hv3) (by rfl) (by rfl) (by rfl) (by trivial) (by rfl) (by rfl) (by rfl) (by rfl) ?_
 refine X.an ?_
 cases h
 refine R.fin1o Tryz.results13 (by rfl) (by rfl) (by first | rfl | simp [setL] | omega) ?_
 rfl
theorem Q0d (b0:A0a)(b1:A0f)(b2:Int)(r:Int)(h:F0l b0 b1 b2=some r):PC Tryz.prog 14 [A0u b0,D0c b1,int b2] (int r):=by
 unfold F0l at h
 refine PC.start Tryz.func14 Tryz.ntmps14 rfl (by kernel_rfl) rfl ?_
 refine Run.sr (X.bx ?_)
 refine X.bx ?_
 refine X.an ?_
 refine Run.seq (Run.seq ?_)
 obtain ⟨v1,hv1,h⟩:=bindE h
 obtain ⟨e2,he2,h2⟩:=bindE h
 refine R.regG [(2,int b2),(3,.lptr 192 0),(4,.lptr 256 0),(16,bool e2)] [(192,.blk true [int b0.Deadline,.slice (b0.Activities.map A0b),.slice (b0.Links.map A0o),.slice (b0.Resources.map A0c),.slice (b0.Stocks.map int)]),(256,.blk true [.slice (b1.MinStart.map int),.slice (b1.MaxStart.map int),.slice (b1.Modes.map l_int)])] ?_ ?_
 ·clear h;have h:=he2;clear he2 h2
  refine X.ld shp28 ?_
  refine X.ld shp32 ?_
  refine X.cp (E0k _ _ _ hv1) ?_
  refine X.un (h:=?_)
  refine X.mv ?_
  refine X.iG (fun hb3=>?_) (fun hb3=>?_)
  ·replace h:=condF hb3 h
   refine X.ld shp28 ?_
   refine X.gy (X.mv ?_)
   refine X.gy ?_
   obtain ⟨v4,hv4,h⟩:=bindE h
   refine X.cp (A0z _ _ _ hv4) ?_
   refine X.gy (X.un (h:=?_))
   refine X.pF ?_
   cases h
   exact X.eG
  replace h:=condT hb3 h
  refine X.gn (X.gn (X.gn (X.pT ?_)))
  cases h
  exact X.eG
 replace h:=h2;clear h2
 refine R.cd (fun hc5=>?_) (fun hc5=>?_)
 ·replace h:=condT hc5 h
  refine Run.sr (X.an ?_)
  cases h
  refine R.f1 Tryz.results14 ?_
  rfl
 replace h:=condF hc5 h
 refine Run.skip (Run.sr (X.ld shp28 ?_))
 refine X.ld shp32 ?_
 refine X.mv ?_
 obtain ⟨v6,hv6,h⟩:=bindE h
 refine X.cp (K0t _ _ _ _ hv6) ?_
 refine X.an ?_
 cases h
 refine R.f1 Tryz.results14 ?_
 rfl
theorem Z0c (b0:A0a)(b1:A0l)(b2:Int)(r:Int)(h:P0p b0 b1 b2=some r):PC Tryz.prog 15 [A0u b0,D0j b1,int b2] (int r):=by
 unfold P0p at h
 refine PC.start Tryz.func15 Tryz.ntmps15 rfl (by kernel_rfl) rfl ?_
 refine Run.sr (X.bx ?_)
 refine X.bx ?_
 refine X.an ?_
 refine Run.seq (Run.seq ?_)
 obtain ⟨v1,hv1,h⟩:=bindE h
 obtain ⟨e2,he2,h2⟩:=bindE h
 refine R.regG [(2,int b2),(3,.lptr 192 0),(4,.lptr 256 0),(16,bool e2)] [(192,.blk true [int b0.Deadline,.slice (b0.Activities.map A0b),.slice (b0.Links.map A0o),.slice (b0.Resources.map A0c),.slice (b0.Stocks.map int)]),(256,.blk true [.slice (b1.Starts.map int),.slice (b1.Modes.map int)])] ?_ ?_
 ·clear h;have h:=he2;clear he2 h2
  refine X.ld shp28 ?_
  refine X.ld shp35 ?_
  refine X.cp (F0z _ _ _ hv1) ?_
  refine X.un (h:=?_)
  refine X.mv ?_
  refine X.iG (fun hb3=>?_) (fun hb3=>?_)
  ·replace h:=condF hb3 h
   refine X.ld shp28 ?_
   refine X.gy (X.mv ?_)
   refine X.gy ?_
   obtain ⟨v4,hv4,h⟩:=bindE h
   refine X.cp (A0z _ _ _ hv4) ?_
   refine X.gy (X.un (h:=?_))
   refine X.pF ?_
   cases h
   exact X.eG
  replace h:=condT hb3 h
  refine X.gn (X.gn (X.gn (X.pT ?_)))
  cases h
  exact X.eG
 replace h:=h2;clear h2
 refine R.cd (fun hc5=>?_) (fun hc5=>?_)
 ·replace h:=condT hc5 h
  refine Run.sr (X.an ?_)
  cases h
  refine R.f1 Tryz.results15 ?_
  rfl
 replace h:=condF hc5 h
 refine Run.skip (Run.sr (X.ld shp28 ?_))
 refine X.ld shp35 ?_
 refine X.mv ?_
 obtain ⟨v6,hv6,h⟩:=bindE h
 refine X.cp (F0d _ _ _ _ hv6) ?_
 refine X.an ?_
 cases h
 refine R.f1 Tryz.results15 ?_
 rfl
theorem S0u (b0:A0a)(b1:A0f)(b2:Int)(b3:Int)(r:Int)(h:H0c b0 b1 b2 b3=some r):PC Tryz.prog 16 [A0u b0,D0c b1,int b2,int b3] (int r):=by
 unfold H0c at h
 refine PC.start Tryz.func16 Tryz.ntmps16 rfl (by kernel_rfl) rfl ?_
 refine Run.sr (X.bx ?_)
 refine X.bx ?_
 refine X.an ?_
 refine Run.seq (Run.seq ?_)
 obtain ⟨v1,hv1,h⟩:=bindE h
 obtain ⟨e2,he2,h2⟩:=bindE h
 refine R.regG [(2,int b2),(3,int b3),(4,.lptr 256 0),(5,.lptr 320 0),(24,bool e2)] [(256,.blk true [int b0.Deadline,.slice (b0.Activities.map A0b),.slice (b0.Links.map A0o),.slice (b0.Resources.map A0c),.slice (b0.Stocks.map int)]),(320,.blk true [.slice (b1.MinStart.map int),.slice (b1.MaxStart.map int),.slice (b1.Modes.map l_int)])] ?_ ?_
 ·clear h;have h:=he2;clear he2 h2
  refine X.ld shp28 ?_
  refine X.ld shp32 ?_
  refine X.cp (E0k _ _ _ hv1) ?_
  refine X.un (h:=?_)
  refine X.mv ?_
  refine X.iG (fun hb3=>?_) (fun hb3=>?_)
  ·replace h:=condF hb3 h
   refine X.ld shp28 ?_
   refine X.gy (X.mv ?_)
   refine X.gy ?_
   obtain ⟨v4,hv4,h⟩:=bindE h
   refine X.cp (A0z _ _ _ hv4) ?_
   refine X.gy (X.un (h:=?_))
   refine X.pF ?_
   refine X.mv ?_
   refine X.iG (fun hb5=>?_) (fun hb5=>?_)
   ·replace h:=condF hb5 h
    refine X.ld shp28 ?_
    refine X.gy (X.mv ?_)
    refine X.gy ?_
    obtain ⟨v6,hv6,h⟩:=bindE h
    refine X.cp (A0y _ _ _ hv6) ?_
    refine X.gy (X.un (h:=?_))
    refine X.pF ?_
    cases h
    exact X.eG
   replace h:=condT hb5 h
   refine X.gn (X.gn (X.gn (X.pT ?_)))
   cases h
   exact X.eG
  replace h:=condT hb3 h
  refine X.gn (X.gn (X.gn (X.pT ?_)))
  refine X.mv ?_
  refine X.gn (X.gn (X.gn (X.gn (X.pT ?_))))
  cases h
  exact X.eG
 replace h:=h2;clear h2
 refine R.cd (fun hc7=>?_) (fun hc7=>?_)
 ·replace h:=condT hc7 h
  refine Run.sr (X.an ?_)
  cases h
  refine R.f1 Tryz.results16 ?_
  rfl
 replace h:=condF hc7 h
 refine Run.skip (Run.seq (Run.draw (B0r [(1,([256],[],[],[])),(6,([320],[],[],[]))]) mixed (by kernel_rfl) (by kernel_rfl) ?_))
 refine X.fl B0z ?_
 refine X.ld shp23 ?_
 refine X.mv ?_
 obtain ⟨v8,hv8,h⟩:=bindE h
 refine X.ix elt23 (A0d hv8).1 (A0e A0b hv8) ?_
 refine X.lc shp50 ?_
 refine X.fl H0n ?_
 refine X.ld shp30 ?_
 refine X.mv ?_
 obtain ⟨v9,hv9,h⟩:=bindE h
 refine X.ix elt30 (A0d hv9).1 (A0e l_int hv9) ?_
 refine X.lc shp26 ?_
 refine X.mv ?_
 obtain ⟨v10,hv10,h⟩:=bindE h
 refine X.cp (S0b _ _ _ _ hv10) ?_
 refine X.an ?_
 cases h
 refine R.f1 Tryz.results16 ?_
 rfl
theorem T0d (b0:A0a)(b1:A0f)(b2:Int)(r:Int)(h:F0u b0 b1 b2=some r):PC Tryz.prog 17 [A0u b0,D0c b1,int b2] (int r):=by
 unfold F0u at h
 refine PC.start Tryz.func17 Tryz.ntmps17 rfl (by kernel_rfl) rfl ?_
 refine Run.sr (X.bx ?_)
 refine X.bx ?_
 refine X.an ?_
 refine Run.seq (Run.seq ?_)
 obtain ⟨v1,hv1,h⟩:=bindE h
 obtain ⟨e2,he2,h2⟩:=bindE h
 refine R.regG [(2,int b2),(3,.lptr 192 0),(4,.lptr 256 0),(17,bool e2)] [(192,.blk true [int b0.Deadline,.slice (b0.Activities.map A0b),.slice (b0.Links.map A0o),.slice (b0.Resources.map A0c),.slice (b0.Stocks.map int)]),(256,.blk true [.slice (b1.MinStart.map int),.slice (b1.MaxStart.map int),.slice (b1.Modes.map l_int)])] ?_ ?_
 ·clear h;have h:=he2;clear he2 h2
  refine X.ld shp28 ?_
  refine X.ld shp32 ?_
  refine X.cp (E0k _ _ _ hv1) ?_
  refine X.un (h:=?_)
  refine X.mv ?_
  refine X.iG (fun hb3=>?_) (fun hb3=>?_)
  ·replace h:=condF hb3 h
   refine X.ld shp28 ?_
   refine X.gy (X.mv ?_)
   refine X.gy ?_
   obtain ⟨v4,hv4,h⟩:=bindE h
   refine X.cp (A0y _ _ _ hv4) ?_
   refine X.gy (X.un (h:=?_))
   refine X.pF ?_
   cases h
   exact X.eG
  replace h:=condT hb3 h
  refine X.gn (X.gn (X.gn (X.pT ?_)))
  cases h
  exact X.eG
 replace h:=h2;clear h2
 refine R.cd (fun hc5=>?_) (fun hc5=>?_)
 ·replace h:=condT hc5 h
  refine Run.sr (X.an ?_)
  cases h
  refine R.f1 Tryz.results17 ?_
  rfl
 replace h:=condF hc5 h
 refine Run.skip (Run.seq (Run.sr (X.mn ?_)))
 obtain ⟨o6,ho6,h⟩:=bindE h
 refine R.join2 (β:=Unit) [] [] (fun p20 S=>S) (fun p20 M=>M) (fun p20=>(Sum.inl p20)=o6) ?_ ?_
 ·intro JJ9 hmeet8
  have hup7:=h;clear h;have h:=ho6;clear ho6
  refine Run.block ?_
  refine R.lp (β:=Int) [(2,int b2),(3,.lptr 192 0),(4,.lptr 256 0)] [(192,.blk true [int b0.Deadline,.slice (b0.Activities.map A0b),.slice (b0.Links.map A0o),.slice (b0.Resources.map A0c),.slice (b0.Stocks.map int)]),(256,.blk true [.slice (b1.MinStart.map int),.slice (b1.MaxStart.map int),.slice (b1.Modes.map l_int)])] (fun bb S=>(18,int bb)::S) (fun bb M=>M) (fun n bb=>C0y b0 b1 b2 n bb=some o6) F0 0 h ?_
  clear h
  rintro JJ10 n10 a12 hag10 h
  obtain _ | n10:=n10
  ·exact absurd h (by simp [C0y])
  rw [C0y] at h
  refine Run.sr (X.bi ?_)
  refine X.nil (Run.seq ?_)
  refine R.cd (fun hc15=>?_) (fun hc15=>?_)
  ·replace h:=condT hc15 h
   refine Run.skip (Run.seq (Run.block (Run.sr (X.mv ?_))))
   refine X.an ?_
   refine Run.seq (Run.draw (B0r [(0,([192],[],[],[])),(1,([256],[],[],[])),(6,([192],[],[],[]))]) mixed (by kernel_rfl) (by kernel_rfl) ?_)
   refine X.ld shp28 ?_
   refine X.ld shp32 ?_
   refine X.mv ?_
   refine X.mv ?_
   obtain ⟨v16,hv16,h⟩:=bindE h
   refine X.cp (E0j _ _ _ _ _ hv16) ?_
   refine X.fl G0s ?_
   refine X.ld shp25 ?_
   refine X.mv ?_
   obtain ⟨v17,hv17,h⟩:=bindE h
   refine X.ix elt25 (A0d hv17).1 (A0e A0c hv17) ?_
   refine X.fieldAddr_c N0g (by rfl) (by rfl) ?_
   refine X.lc shp62 ?_
   refine X.mv ?_
   obtain ⟨v18,hv18,h⟩:=bindE h
   refine X.cp (M0c _ _ _ hv18) ?_
   refine X.bi ?_
   refine X.nil ?_
   refine R.cd (fun hc19=>?_) (fun hc19=>?_)
   ·replace h:=condT hc19 h
    refine Run.sr (X.mv ?_)
    refine X.an ?_
    cases h
    have h:=hup7
    replace h:=elimR h
    cases h
    refine R.f1 Tryz.results17 ?_
    rfl
   replace h:=condF hc19 h
   refine Run.skip (Run.blk (Run.reg (X.addW (h:=?_))))
   refine X.mn ?_
   exact hag10 n10 (W (a12+1)) _ _ (by omega) h (by trivial) (by trivial) (by rfl) (by rfl)
  replace h:=condF hc15 h
  refine Run.exit (by rfl) ?_
  exact R.mt hmeet8 () (Option.some.inj h)
 rintro p20 rfl
 replace h:=elimL h
 refine Run.sr (X.an ?_)
 cases h
 refine R.f1 Tryz.results17 ?_
 rfl
theorem w_FnCore_pc (b0:List Int)(r:Bool)(h:w_FnCore b0=some r):PC Tryz.prog 3 [.slice (b0.map e_u8)] (bool r):=by
 unfold w_FnCore at h
 refine PC.start Tryz.func3 Tryz.ntmps3 rfl (by kernel_rfl) rfl ?_
 refine Run.sr (X.an ?_)
 refine Run.seq (Run.sr (X.mv ?_))
 refine X.ls elt22 ?_
 refine X.bi ?_
 refine X.nil ?_
 refine R.cd (fun hc1=>?_) (fun hc1=>?_)
 ·replace h:=condT hc1 h
  refine Run.sr (X.an ?_)
  cases h
  refine R.f1 Tryz.results3 ?_
  rfl
 replace h:=condF hc1 h
 refine Run.skip (Run.sr (X.mv ?_))
 obtain ⟨v2,hv2,h⟩:=bindE h
 refine X.callA (P0a _ _ hv2) (by rfl) (by rfl) (by rfl) (by trivial) (by rfl) (by rfl) (by rfl) (by rfl) (by rfl) (by rfl) ?_
 refine X.alloc zer28 (h:=?_)
 refine X.sl shp28 ?_
 refine X.nil (Run.sr (X.mv ?_))
 refine X.ld shp28 ?_
 obtain ⟨v3,hv3,h⟩:=bindE h
 refine X.callA (T0v _ _ _ hv3) (by rfl) (by rfl) (by rfl) (by repeat (first | trivial | refine ⟨by first | rfl | simp [setL],?_⟩)) (by rfl) (by rfl) (by rfl) (by rfl) (by rfl) (by rfl) ?_
 refine X.alloc zer32 (h:=?_)
 refine X.sl shp32 ?_
 refine X.nil (Run.sr (X.mv ?_))
 refine X.ld shp28 ?_
 obtain ⟨v4,hv4,h⟩:=bindE h
 refine X.callA (R0a _ _ _ hv4) (by rfl) (by rfl) (by rfl) (by repeat (first | trivial | refine ⟨by first | rfl | simp [setL],?_⟩)) (by rfl) (by rfl) (by rfl) (by rfl) (by rfl) (by rfl) ?_
 refine X.alloc zer35 (h:=?_)
 refine X.sl shp35 ?_
 refine X.nil (R.pubObj (n:=1473) (by rfl) ?_)
 refine Run.seq (Run.sr (X.fl B0z ?_))
 refine X.ld shp23 ?_
 refine X.len_o elt23 (by rfl) (by rfl) (by first | rfl | simp [setL] | omega) (by first | exact List.length_map .. | rfl) (by rfl) (by rfl) ?_
 refine X.mn ?_
 obtain ⟨o5,ho5,h⟩:=bindE h
 refine R.join2 (β:=(List Int)) [(3,.lptr 192 0),(4,.lptr 256 0),(5,.lptr 320 0)] [(1088,.obj false 50 3 (v2.Activities.map A0b)),(1089,.obj false 101 4 (v2.Links.map A0o)),(1090,.obj false 64 2 (v2.Resources.map A0c)),(1091,.obj false 3 1 (v2.Stocks.map int)),(256,.blk true [.slice (v3.MinStart.map int),.slice (v3.MaxStart.map int),.slice (v3.Modes.map l_int)]),(1473,.obj false 3 1 (v4.Modes.map int))] (fun p28 S=>S) (fun p28 M=>(192,.blk true [int v2.Deadline,.own 1088 (v2.Activities.map A0b).length,.own 1089 (v2.Links.map A0o).length,.own 1090 (v2.Resources.map A0c).length,.own 1091 (v2.Stocks.map int).length])::(320,.blk true [.own 1472 (p28.map int).length,.own 1473 (v4.Modes.map int).length])::(1472,.obj true 3 1 (p28.map int))::M) (fun p28=>p28=o5) ?_ ?_
 ·intro JJ8 hmeet7
  have hup6:=h;clear h;have h:=ho5;clear ho5
  refine Run.block ?_
  refine R.bndO (n:=1088) (by rfl) (fun hbd11=>?_)
  replace hbd11:v2.Activities.length≤9223372036854775807:=by first | (rw [List.length_map] at hbd11;exact hbd11) | simp
  refine R.lp (β:=Int×(List Int)) [(3,.lptr 192 0),(4,.lptr 256 0),(5,.lptr 320 0),(26,int (v2.Activities.length:Int))] [(1088,.obj false 50 3 (v2.Activities.map A0b)),(1089,.obj false 101 4 (v2.Links.map A0o)),(1090,.obj false 64 2 (v2.Resources.map A0c)),(1091,.obj false 3 1 (v2.Stocks.map int)),(256,.blk true [.slice (v3.MinStart.map int),.slice (v3.MaxStart.map int),.slice (v3.Modes.map l_int)]),(1473,.obj false 3 1 (v4.Modes.map int))] (fun bb S=>(27,int bb.1)::S) (fun bb M=>(192,.blk true [int v2.Deadline,.own 1088 (v2.Activities.map A0b).length,.own 1089 (v2.Links.map A0o).length,.own 1090 (v2.Resources.map A0c).length,.own 1091 (v2.Stocks.map int).length])::(320,.blk true [.own 1472 (bb.2.map int).length,.own 1473 (v4.Modes.map int).length])::(1472,.obj true 3 1 (bb.2.map int))::M) (fun n bb=>0≤bb.1∧bb.1+n=(v2.Activities.length:Int)∧w_FnCore_L1 v3 (v2.Activities.drop bb.1.toNat) bb.1 bb.2=some o5) v2.Activities.length (0,v4.Starts) ⟨Int.le_refl _,by simp,h⟩ ?_
  clear h
  rintro JJ11 n11 ⟨z12,a13⟩ hag11 ⟨hza11,hzb11,h⟩
  dsimp only at hza11 hzb11 h
  refine Run.sr (X.bi ?_)
  refine X.nil (Run.seq ?_)
  refine R.cd (fun hc16=>?_) (fun hc16=>?_)
  ·obtain ⟨x14,xs15,hd11,hx11,hds11,hlt11⟩:=B0c hza11 hc16
   rw [hd11] at h
   rw [w_FnCore_L1] at h
   refine Run.skip (Run.seq (Run.block (Run.sr (X.mv ?_))))
   refine X.an ?_
   refine Run.seq (Run.seq (Run.draw (B0r [(1,([320],[],[],[])),(3,([],[],[1472],[])),(4,([1472],[],[],[])),(6,([256],[],[],[]))]) mixed (by kernel_rfl) (by kernel_rfl) ?_))
   refine X.fl F0b ?_
   refine X.ld shp26 ?_
   refine X.mv ?_
   obtain ⟨v17,hv17,h⟩:=bindE h
   refine X.index_xs elt26 (by rfl) (by rfl) (by first | rfl | simp [setL] | omega) (by rfl) (by exact (Int.toNat_of_nonneg (A0d hv17).1).symm) (by have:=M0b hv17;first | exact this | (rw [List.length_map];exact this)) (by rfl) (by rfl) ?_
   refine X.load_e shp3 (by rfl) (by rfl) (by rfl) (by first | rfl | simp [setL] | omega) (A0e _ hv17) (by rfl) (by rfl) (by rfl) ?_
   refine X.fl H0a ?_
   refine X.ld shp26 ?_
   refine X.mv ?_
   obtain ⟨v18,hv18,h⟩:=bindE h
   refine X.ix elt26 (A0d hv18).1 (A0e int hv18) ?_
   refine X.lc shp3 ?_
   refine X.bi ?_
   refine X.nil ?_
   obtain ⟨o19,ho19,h⟩:=bindE h
   refine R.join2 (β:=(List Int)) [(3,.lptr 192 0),(4,.lptr 256 0),(5,.lptr 320 0),(6,int z12),(26,int (v2.Activities.length:Int)),(27,int z12)] [(1088,.obj false 50 3 (v2.Activities.map A0b)),(1089,.obj false 101 4 (v2.Links.map A0o)),(1090,.obj false 64 2 (v2.Resources.map A0c)),(1091,.obj false 3 1 (v2.Stocks.map int)),(256,.blk true [.slice (v3.MinStart.map int),.slice (v3.MaxStart.map int),.slice (v3.Modes.map l_int)]),(1473,.obj false 3 1 (v4.Modes.map int))] (fun p24 S=>S) (fun p24 M=>(192,.blk true [int v2.Deadline,.own 1088 (v2.Activities.map A0b).length,.own 1089 (v2.Links.map A0o).length,.own 1090 (v2.Resources.map A0c).length,.own 1091 (v2.Stocks.map int).length])::(320,.blk true [.own 1472 (p24.map int).length,.own 1473 (v4.Modes.map int).length])::(1472,.obj true 3 1 (p24.map int))::M) (fun p24=>p24=o19) ?_ ?_
   ·intro JJ22 hmeet21
    have hup20:=h;clear h;have h:=ho19;clear ho19
    refine R.cd (fun hc23=>?_) (fun hc23=>?_)
    ·replace h:=condT hc23 h
     refine Run.draw (B0r [(1,([320],[],[],[])),(4,([256],[],[],[])),(8,([],[],[1472],[])),(9,([1472],[],[],[1472]))]) mixed (by kernel_rfl) (by kernel_rfl) ?_
     refine X.fl F0b ?_
     refine X.ld shp26 ?_
     refine X.mv ?_
     refine X.fl H0a ?_
     refine X.ld shp26 ?_
     refine X.mv ?_
     refine X.ix elt26 (A0d hv18).1 (A0e int hv18) ?_
     refine X.lc shp3 ?_
     refine X.index_xs elt26 (by rfl) (by rfl) (by first | rfl | simp [setL] | omega) (by rfl) (by exact (Int.toNat_of_nonneg (A0d hv17).1).symm) (by have:=M0b hv17;first | exact this | (rw [List.length_map];exact this)) (by rfl) (by rfl) ?_
     refine X.store_es shp3 (by rfl) (by rfl) (by first | rfl | simp [setL] | omega) (A0e _ hv17) (by rfl) (by rfl) (by repeat (first | trivial | refine ⟨by first | rfl | simp [setL],?_⟩)) (by rfl) (by rfl) (by rfl) (by rfl) (by exact Q0k _ _ _ v18) ?_
     refine X.nil (R.castB (n:=320) [.own 1472 ((setL a13 z12 v18).map int).length,.own 1473 (v4.Modes.map int).length] (by rfl) (.cons (.inl (by first | rfl | simp [setL])) (.cons (.inl (by first | rfl | simp [setL])) .nil)) ?_)
     exact R.mt hmeet21 (setL a13 z12 v18) (Option.some.inj h)
    replace h:=condF hc23 h
    refine Run.skip ?_
    exact R.mt hmeet21 a13 (Option.some.inj h)
   rintro p24 rfl
   refine Run.seq (Run.draw (B0r [(1,([320],[],[],[])),(3,([],[],[1472],[])),(4,([1472],[],[],[])),(6,([256],[],[],[]))]) mixed (by kernel_rfl) (by kernel_rfl) ?_)
   refine X.fl F0b ?_
   refine X.ld shp26 ?_
   refine X.mv ?_
   obtain ⟨v25,hv25,h⟩:=bindE h
   refine X.index_xs elt26 (by rfl) (by rfl) (by first | rfl | simp [setL] | omega) (by rfl) (by exact (Int.toNat_of_nonneg (A0d hv25).1).symm) (by have:=M0b hv25;first | exact this | (rw [List.length_map];exact this)) (by rfl) (by rfl) ?_
   refine X.load_e shp3 (by rfl) (by rfl) (by rfl) (by first | rfl | simp [setL] | omega) (A0e _ hv25) (by rfl) (by rfl) (by rfl) ?_
   refine X.fl G0b ?_
   refine X.ld shp26 ?_
   refine X.mv ?_
   obtain ⟨v26,hv26,h⟩:=bindE h
   refine X.ix elt26 (A0d hv26).1 (A0e int hv26) ?_
   refine X.lc shp3 ?_
   refine X.bi ?_
   refine X.nil ?_
   refine R.cd (fun hc27=>?_) (fun hc27=>?_)
   ·replace h:=condT hc27 h
    refine Run.draw (B0r [(1,([320],[],[],[])),(4,([256],[],[],[])),(8,([],[],[1472],[])),(9,([1472],[],[],[1472]))]) mixed (by kernel_rfl) (by kernel_rfl) ?_
    refine X.fl F0b ?_
    refine X.ld shp26 ?_
    refine X.mv ?_
    refine X.fl G0b ?_
    refine X.ld shp26 ?_
    refine X.mv ?_
    refine X.ix elt26 (A0d hv26).1 (A0e int hv26) ?_
    refine X.lc shp3 ?_
    refine X.index_xs elt26 (by rfl) (by rfl) (by first | rfl | simp [setL] | omega) (by rfl) (by exact (Int.toNat_of_nonneg (A0d hv25).1).symm) (by have:=M0b hv25;first | exact this | (rw [List.length_map];exact this)) (by rfl) (by rfl) ?_
    refine X.store_es shp3 (by rfl) (by rfl) (by first | rfl | simp [setL] | omega) (A0e _ hv25) (by rfl) (by rfl) (by repeat (first | trivial | refine ⟨by first | rfl | simp [setL],?_⟩)) (by rfl) (by rfl) (by rfl) (by rfl) (by exact Q0k _ _ _ v26) ?_
    refine X.nil (Run.blk (Run.reg (X.ad ?_)))
    refine X.mn ?_
    refine R.castB (n:=320) [.own 1472 ((setL p24 z12 v26).map int).length,.own 1473 (v4.Modes.map int).length] (by rfl) (.cons (.inl (by first | rfl | simp [setL])) (.cons (.inl (by first | rfl | simp [setL])) .nil)) ?_
    exact R.ag hag11 (n11 - 1) (z12+1,(setL p24 z12 v26)) (R.n3 (by first | (rw [hds11];exact h) | (dsimp only;rw [hds11];exact h)))
   replace h:=condF hc27 h
   refine Run.skip (Run.blk (Run.reg (X.ad ?_)))
   refine X.mn ?_
   exact R.ag hag11 (n11 - 1) (z12+1,p24) (R.n3 (by first | (rw [hds11];exact h) | (dsimp only;rw [hds11];exact h)))
  rw [A0w hza11 hc16] at h
  rw [w_FnCore_L1] at h
  refine Run.exit (by rfl) ?_
  exact R.mt hmeet7 a13 (Option.some.inj h)
 rintro p28 rfl
 refine Run.seq (Run.seq (R.pubObj (n:=1472) (by rfl) ?_))
 refine Run.reg (X.ld shp32 ?_)
 refine X.ld shp35 ?_
 obtain ⟨v29,hv29,h⟩:=bindE h
 refine X.cp (S0y _ _ _ hv29) ?_
 refine X.un (h:=?_)
 refine X.nil ?_
 refine R.cd (fun hc30=>?_) (fun hc30=>?_)
 ·replace h:=condT hc30 h
  refine Run.sr (X.an ?_)
  cases h
  refine R.f1 Tryz.results3 ?_
  rfl
 replace h:=condF hc30 h
 refine Run.skip (Run.seq (Run.sr (X.an ?_)))
 obtain ⟨o31,ho31,h⟩:=bindE h
 refine R.join2 (β:=Unit) [(3,.lptr 192 0),(4,.lptr 256 0),(5,.lptr 320 0)] [(1088,.obj false 50 3 (v2.Activities.map A0b)),(1089,.obj false 101 4 (v2.Links.map A0o)),(1090,.obj false 64 2 (v2.Resources.map A0c)),(1091,.obj false 3 1 (v2.Stocks.map int)),(256,.blk true [.slice (v3.MinStart.map int),.slice (v3.MaxStart.map int),.slice (v3.Modes.map l_int)]),(1472,.obj false 3 1 (p28.map int)),(1473,.obj false 3 1 (v4.Modes.map int))] (fun p75 S=>S) (fun p75 M=>(192,.blk true [int v2.Deadline,.own 1088 (v2.Activities.map A0b).length,.own 1089 (v2.Links.map A0o).length,.own 1090 (v2.Resources.map A0c).length,.own 1091 (v2.Stocks.map int).length])::(320,.blk true [.own 1472 (p28.map int).length,.own 1473 (v4.Modes.map int).length])::M) (fun p75=>(Sum.inl p75)=o31) ?_ ?_
 ·intro JJ34 hmeet33
  have hup32:=h;clear h;have h:=ho31;clear ho31
  refine Run.block ?_
  refine R.lp (β:=Int) [(3,.lptr 192 0),(4,.lptr 256 0),(5,.lptr 320 0)] [(1088,.obj false 50 3 (v2.Activities.map A0b)),(1089,.obj false 101 4 (v2.Links.map A0o)),(1090,.obj false 64 2 (v2.Resources.map A0c)),(1091,.obj false 3 1 (v2.Stocks.map int)),(256,.blk true [.slice (v3.MinStart.map int),.slice (v3.MaxStart.map int),.slice (v3.Modes.map l_int)]),(1472,.obj false 3 1 (p28.map int)),(1473,.obj false 3 1 (v4.Modes.map int))] (fun bb S=>(7,int bb)::S) (fun bb M=>(192,.blk true [int v2.Deadline,.own 1088 (v2.Activities.map A0b).length,.own 1089 (v2.Links.map A0o).length,.own 1090 (v2.Resources.map A0c).length,.own 1091 (v2.Stocks.map int).length])::(320,.blk true [.own 1472 (p28.map int).length,.own 1473 (v4.Modes.map int).length])::M) (fun n bb=>w_FnCore_L2 v2 v3 v4 p28 n bb=some o31) F0 0 h ?_
  clear h
  rintro JJ35 n35 a37 hag35 h
  obtain _ | n35:=n35
  ·exact absurd h (by simp [w_FnCore_L2])
  rw [w_FnCore_L2] at h
  refine Run.seq (Run.sr (X.mv ?_))
  refine X.bi ?_
  refine X.nil ?_
  refine R.cd (fun hc40=>?_) (fun hc40=>?_)
  ·replace h:=condT hc40 h
   refine Run.skip (Run.seq (Run.block (Run.seq (Run.seq (Run.draw (B0r [(0,([192],[],[],[])),(1,([256],[],[],[])),(3,([1088,1089,1090,1091],[],[],[])),(4,([192],[],[],[])),(5,([320],[],[],[])),(7,([1088,1089,1090,1091,1472,1473],[],[],[]))]) mixed (by kernel_rfl) (by kernel_rfl) ?_)))))
   refine X.ld shp28 ?_
   refine X.ld shp32 ?_
   refine X.mv ?_
   obtain ⟨v41,hv41,h⟩:=bindE h
   refine X.cp (Q0u _ _ _ _ _ hv41) ?_
   refine X.ld shp28 ?_
   refine X.ld shp35 ?_
   refine X.mv ?_
   obtain ⟨v42,hv42,h⟩:=bindE h
   refine X.cp (T0x _ _ _ _ _ hv42) ?_
   refine X.bi ?_
   refine X.nil ?_
   refine R.cd (fun hc43=>?_) (fun hc43=>?_)
   ·replace h:=condT hc43 h
    refine Run.sr (X.an ?_)
    cases h
    have h:=hup32
    replace h:=elimR h
    cases h
    refine R.f1 Tryz.results3 ?_
    rfl
   replace h:=condF hc43 h
   refine Run.skip (Run.sr (X.fl B0z ?_))
   refine X.ld shp23 ?_
   refine X.len_o elt23 (by rfl) (by rfl) (by first | rfl | simp [setL] | omega) (by first | exact List.length_map .. | rfl) (by rfl) (by rfl) ?_
   refine X.mn ?_
   obtain ⟨o44,ho44,h⟩:=bindE h
   refine R.join2 (β:=Unit) [(3,.lptr 192 0),(4,.lptr 256 0),(5,.lptr 320 0),(7,int a37)] [(1088,.obj false 50 3 (v2.Activities.map A0b)),(1089,.obj false 101 4 (v2.Links.map A0o)),(1090,.obj false 64 2 (v2.Resources.map A0c)),(1091,.obj false 3 1 (v2.Stocks.map int)),(256,.blk true [.slice (v3.MinStart.map int),.slice (v3.MaxStart.map int),.slice (v3.Modes.map l_int)]),(1472,.obj false 3 1 (p28.map int)),(1473,.obj false 3 1 (v4.Modes.map int))] (fun p73 S=>S) (fun p73 M=>(192,.blk true [int v2.Deadline,.own 1088 (v2.Activities.map A0b).length,.own 1089 (v2.Links.map A0o).length,.own 1090 (v2.Resources.map A0c).length,.own 1091 (v2.Stocks.map int).length])::(320,.blk true [.own 1472 (p28.map int).length,.own 1473 (v4.Modes.map int).length])::M) (fun p73=>(Sum.inl p73)=o44) ?_ ?_
   ·intro JJ47 hmeet46
    have hup45:=h;clear h;have h:=ho44;clear ho44
    refine Run.block ?_
    refine R.bndO (n:=1088) (by rfl) (fun hbd50=>?_)
    replace hbd50:v2.Activities.length≤9223372036854775807:=by first | (rw [List.length_map] at hbd50;exact hbd50) | simp
    refine R.lp (β:=Int) [(3,.lptr 192 0),(4,.lptr 256 0),(5,.lptr 320 0),(7,int a37),(90,int (v2.Activities.length:Int))] [(1088,.obj false 50 3 (v2.Activities.map A0b)),(1089,.obj false 101 4 (v2.Links.map A0o)),(1090,.obj false 64 2 (v2.Resources.map A0c)),(1091,.obj false 3 1 (v2.Stocks.map int)),(256,.blk true [.slice (v3.MinStart.map int),.slice (v3.MaxStart.map int),.slice (v3.Modes.map l_int)]),(1472,.obj false 3 1 (p28.map int)),(1473,.obj false 3 1 (v4.Modes.map int))] (fun bb S=>(91,int bb)::S) (fun bb M=>(192,.blk true [int v2.Deadline,.own 1088 (v2.Activities.map A0b).length,.own 1089 (v2.Links.map A0o).length,.own 1090 (v2.Resources.map A0c).length,.own 1091 (v2.Stocks.map int).length])::(320,.blk true [.own 1472 (p28.map int).length,.own 1473 (v4.Modes.map int).length])::M) (fun n bb=>0≤bb∧bb+n=(v2.Activities.length:Int)∧w_FnCore_L3 v2 v3 v4 p28 a37 (v2.Activities.drop bb.toNat) bb=some o44) v2.Activities.length (0:Int) ⟨Int.le_refl _,by simp,h⟩ ?_
    clear h
    rintro JJ50 n50 z51 hag50 ⟨hza50,hzb50,h⟩
    refine Run.sr (X.bi ?_)
    refine X.nil (Run.seq ?_)
    refine R.cd (fun hc54=>?_) (fun hc54=>?_)
    ·obtain ⟨x52,xs53,hd50,hx50,hds50,hlt50⟩:=B0c hza50 hc54
     rw [hd50] at h
     rw [w_FnCore_L3] at h
     refine Run.skip (Run.seq (Run.block (Run.sr (X.mv ?_))))
     refine X.an ?_
     refine Run.sr (X.ld shp28 ?_)
     refine X.ld shp32 ?_
     refine X.mv ?_
     obtain ⟨v55,hv55,h⟩:=bindE h
     refine X.callT (R0k _ _ _ _ hv55) (by rfl) (by rfl) (by rfl) (by repeat (first | trivial | refine ⟨by first | rfl | simp [setL],?_⟩)) (by rfl) (by rfl) (by rfl) (by rfl) (by rfl) (by rfl) ?_
     refine X.mv ?_
     refine X.extract (h:=?_)
     refine X.extract (h:=?_)
     refine X.extract (h:=?_)
     refine X.as ?_
     refine X.as ?_
     refine X.an ?_
     refine Run.seq (Run.seq ?_)
     obtain ⟨e56,he56,h2⟩:=bindE h
     refine R.regG [(3,.lptr 192 0),(4,.lptr 256 0),(5,.lptr 320 0),(7,int a37),(8,int z51),(90,int (v2.Activities.length:Int)),(91,int z51),(121,bool e56)] [(192,.blk true [int v2.Deadline,.own 1088 (v2.Activities.map A0b).length,.own 1089 (v2.Links.map A0o).length,.own 1090 (v2.Resources.map A0c).length,.own 1091 (v2.Stocks.map int).length]),(1088,.obj false 50 3 (v2.Activities.map A0b)),(1089,.obj false 101 4 (v2.Links.map A0o)),(1090,.obj false 64 2 (v2.Resources.map A0c)),(1091,.obj false 3 1 (v2.Stocks.map int)),(256,.blk true [.slice (v3.MinStart.map int),.slice (v3.MaxStart.map int),.slice (v3.Modes.map l_int)]),(320,.blk true [.own 1472 (p28.map int).length,.own 1473 (v4.Modes.map int).length]),(1472,.obj false 3 1 (p28.map int)),(1473,.obj false 3 1 (v4.Modes.map int))] ?_ ?_
     ·clear h;have h:=he56;clear he56 h2
      refine X.mv ?_
      refine X.mv ?_
      refine X.iG (fun hb57=>?_) (fun hb57=>?_)
      ·replace h:=condT hb57 h
       refine X.mv ?_
       refine X.gy (X.mv ?_)
       refine X.gy (X.bi ?_)
       refine X.pT ?_
       refine X.mv ?_
       refine X.iG (fun hb58=>?_) (fun hb58=>?_)
       ·replace h:=condT hb58 h
        refine X.mv ?_
        refine X.gy (X.mv ?_)
        refine X.gy (X.bi ?_)
        refine X.pT ?_
        refine X.mv ?_
        refine X.iG (fun hb59=>?_) (fun hb59=>?_)
        ·replace h:=condT hb59 h
         refine X.ld shp28 ?_
         refine X.gy (X.ld shp35 ?_)
         refine X.gy (X.mv ?_)
         refine X.gy ?_
         obtain ⟨v60,hv60,h⟩:=bindE h
         refine X.callF (W0n _ _ _ _ hv60) (by rfl) (by rfl) (by rfl) (by repeat (first | trivial | refine ⟨by first | rfl | simp [setL],?_⟩)) (by rfl) (by rfl) (by rfl) (by rfl) ?_
         refine X.gy (X.mv ?_)
         refine X.gy ?_
         obtain ⟨v61,hv61,h⟩:=bindE h
         refine X.cp (N0m _ _ _ hv61) ?_
         refine X.gy (X.un (h:=?_))
         refine X.pT ?_
         cases h
         exact X.eG
        replace h:=condF hb59 h
        refine X.gn (X.gn (X.gn (X.gn (X.gn (X.gn (X.pF ?_))))))
        cases h
        exact X.eG
       replace h:=condF hb58 h
       refine X.gn (X.gn (X.pF ?_))
       refine X.mv ?_
       refine X.gn (X.gn (X.gn (X.gn (X.gn (X.gn (X.gn (X.pF ?_)))))))
       cases h
       exact X.eG
      replace h:=condF hb57 h
      refine X.gn (X.gn (X.pF ?_))
      refine X.mv ?_
      refine X.gn (X.gn (X.gn (X.pF ?_)))
      refine X.mv ?_
      refine X.gn (X.gn (X.gn (X.gn (X.gn (X.gn (X.gn (X.pF ?_)))))))
      cases h
      exact X.eG
     replace h:=h2;clear h2
     refine R.cd (fun hc62=>?_) (fun hc62=>?_)
     ·replace h:=condT hc62 h
      refine Run.sr (X.an ?_)
      cases h
      have h:=hup45
      replace h:=elimR h
      cases h
      have h:=hup32
      replace h:=elimR h
      cases h
      refine R.f1 Tryz.results3 ?_
      rfl
     replace h:=condF hc62 h
     refine Run.skip (Run.seq ?_)
     obtain ⟨v63,hv63,h⟩:=bindE h
     obtain ⟨v64,hv64,h⟩:=bindE h
     obtain ⟨v65,hv65,h⟩:=bindE h
     obtain ⟨e66,he66,h2⟩:=bindE h
     refine R.drawG [(3,.lptr 192 0),(4,.lptr 256 0),(5,.lptr 320 0),(7,int a37),(90,int (v2.Activities.length:Int)),(91,int z51),(159,bool e66)] [(192,.blk true [int v2.Deadline,.own 1088 (v2.Activities.map A0b).length,.own 1089 (v2.Links.map A0o).length,.own 1090 (v2.Resources.map A0c).length,.own 1091 (v2.Stocks.map int).length]),(1088,.obj false 50 3 (v2.Activities.map A0b)),(1089,.obj false 101 4 (v2.Links.map A0o)),(1090,.obj false 64 2 (v2.Resources.map A0c)),(1091,.obj false 3 1 (v2.Stocks.map int)),(256,.blk true [.slice (v3.MinStart.map int),.slice (v3.MaxStart.map int),.slice (v3.Modes.map l_int)]),(320,.blk true [.own 1472 (p28.map int).length,.own 1473 (v4.Modes.map int).length]),(1472,.obj false 3 1 (p28.map int)),(1473,.obj false 3 1 (v4.Modes.map int))] (B0r [(0,([192],[],[],[])),(1,([256],[],[],[])),(3,([1088,1089,1090,1091],[],[],[])),(4,([192],[],[],[])),(5,([320],[],[],[])),(7,([1088,1089,1090,1091,1472,1473],[],[],[])),(9,([320],[],[],[])),(11,([1472],[],[],[])),(16,([192],[],[],[])),(17,([256],[],[],[])),(19,([1088,1089,1090,1091],[],[],[])),(21,([192],[],[],[])),(23,([1088],[],[],[])),(27,([320],[],[],[])),(29,([1473],[],[],[]))]) mixed (by kernel_rfl) (by kernel_rfl) ?_ ?_
     ·clear h;have h:=he66;clear he66 h2
      refine X.ld shp28 ?_
      refine X.ld shp32 ?_
      refine X.mv ?_
      refine X.cp (Q0d _ _ _ _ hv63) ?_
      refine X.ld shp28 ?_
      refine X.ld shp35 ?_
      refine X.mv ?_
      refine X.cp (Z0c _ _ _ _ hv64) ?_
      refine X.fl F0b ?_
      refine X.ld shp26 ?_
      refine X.mv ?_
      refine X.index_o elt26 (by rfl) (by rfl) (by first | rfl | simp [setL] | omega) (by rfl) (A0d hv65).1 (A0e int hv65) (by rfl) (by rfl) (by rfl) ?_
      refine X.lc shp3 ?_
      refine X.subW (h:=?_)
      refine X.bi ?_
      refine X.mv ?_
      refine X.iG (fun hb67=>?_) (fun hb67=>?_)
      ·replace h:=condF hb67 h
       refine X.ld shp28 ?_
       refine X.gy (X.ld shp32 ?_)
       refine X.gy (X.mv ?_)
       refine X.gy ?_
       obtain ⟨v68,hv68,h⟩:=bindE h
       refine X.cp (S0u _ _ _ _ _ hv68) ?_
       refine X.gy (X.fl B0z ?_)
       refine X.gy (X.ld shp23 ?_)
       refine X.gy (X.mv ?_)
       refine X.gy (X.index_o elt23 (by rfl) (by rfl) (by first | rfl | simp [setL] | omega) (by rfl) (A0d hx50).1 (A0e A0b hx50) (by rfl) (by rfl) (by rfl) ?_)
       refine X.gy (X.fieldAddr_c H0v (by rfl) (by rfl) ?_)
       refine X.gy (X.lc shp48 ?_)
       refine X.gy (X.fl N0f ?_)
       refine X.gy (X.ld shp26 ?_)
       refine X.gy (X.mv ?_)
       refine X.gy ?_
       obtain ⟨v69,hv69,h⟩:=bindE h
       refine X.index_o elt26 (by rfl) (by rfl) (by first | rfl | simp [setL] | omega) (by rfl) (A0d hv69).1 (A0e int hv69) (by rfl) (by rfl) (by rfl) ?_
       refine X.gy (X.lc shp3 ?_)
       refine X.gy ?_
       obtain ⟨v70,hv70,h⟩:=bindE h
       refine X.ix elt48 (A0d hv70).1 (A0e B0o hv70) ?_
       refine X.gy (X.fieldAddr_c N0n (by rfl) (by rfl) ?_)
       refine X.gy (X.lc shp26 ?_)
       refine X.gy ?_
       obtain ⟨v71,hv71,h⟩:=bindE h
       refine X.ix elt26 (A0d hv71).1 (A0e int hv71) ?_
       refine X.gy (X.lc shp3 ?_)
       refine X.gy (X.bi ?_)
       refine X.pF ?_
       cases h
       exact X.eG
      replace h:=condT hb67 h
      refine X.gn (X.gn (X.gn (X.gn (X.gn (X.gn (X.gn (X.gn ?_)))))))
      refine X.gn (X.gn (X.gn (X.gn (X.gn (X.gn (X.gn (X.gn ?_)))))))
      refine X.gn (X.gn (X.gn (X.gn (X.pT ?_))))
      cases h
      exact X.eG
     replace h:=h2;clear h2
     refine R.cd (fun hc72=>?_) (fun hc72=>?_)
     ·replace h:=condT hc72 h
      refine Run.sr (X.an ?_)
      cases h
      have h:=hup45
      replace h:=elimR h
      cases h
      have h:=hup32
      replace h:=elimR h
      cases h
      refine R.f1 Tryz.results3 ?_
      rfl
     replace h:=condF hc72 h
     refine Run.skip (Run.blk (Run.reg (X.ad ?_)))
     refine X.mn ?_
     exact R.ag hag50 (n50 - 1) (z51+1) (R.n3 (by first | (rw [hds50];exact h) | (dsimp only;rw [hds50];exact h)))
    rw [A0w hza50 hc54] at h
    rw [w_FnCore_L3] at h
    refine Run.exit (by rfl) ?_
    exact R.mt hmeet46 () (Option.some.inj h)
   rintro p73 rfl
   replace h:=elimL h
   refine Run.blk (Run.reg (X.mv ?_))
   refine X.addW (h:=?_)
   refine X.an ?_
   exact hag35 n35 (W (a37+1)) _ _ (by omega) h (by repeat (first | trivial | refine ⟨by first | rfl | simp [setL],?_⟩)) (by repeat (first | trivial | refine ⟨by first | rfl | simp [setL],?_⟩)) (by rfl) (by rfl)
  replace h:=condF hc40 h
  refine Run.exit (by rfl) ?_
  exact R.mt hmeet33 () (Option.some.inj h)
 rintro p75 rfl
 replace h:=elimL h
 refine Run.sr (X.ld shp28 ?_)
 refine X.ld shp32 ?_
 obtain ⟨v77,hv77,h⟩:=bindE h
 refine X.cp (T0d _ _ _ _ hv77) ?_
 refine X.an ?_
 refine Run.seq ?_
 obtain ⟨e78,he78,h2⟩:=bindE h
 refine R.regG [(2,bool e78)] [] ?_ ?_
 ·clear h;have h:=he78;clear he78 h2
  refine X.mv ?_
  refine X.bi ?_
  refine X.mv ?_
  refine X.iG (fun hb79=>?_) (fun hb79=>?_)
  ·replace h:=condF hb79 h
   refine X.ld shp28 ?_
   refine X.gy (X.ld shp35 ?_)
   refine X.gy (X.mv ?_)
   refine X.gy ?_
   refine X.build zer53 pl53 (by rfl) (by rfl) (by repeat (first | trivial | refine ⟨by first | rfl | simp [setL],?_⟩)) (by rfl) (by rfl) (by rfl) ?_
   refine X.gy ?_
   obtain ⟨v80,hv80,h⟩:=bindE h
   refine X.cp (R0s _ _ _ _ hv80) ?_
   refine X.pF ?_
   refine X.as ?_
   cases h
   exact X.eG
  replace h:=condT hb79 h
  refine X.gn (X.gn (X.gn (X.gn (X.pT ?_))))
  refine X.as ?_
  cases h
  exact X.eG
 replace h:=h2;clear h2
 cases h
 refine R.f1 Tryz.results3 ?_
 rfl
end Go.Px.YtncedeembfcakaaGreat
