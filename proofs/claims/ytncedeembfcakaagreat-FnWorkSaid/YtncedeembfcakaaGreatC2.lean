/-
  PROVED: contracts of functions of the program over pure values. No condition beyond those that each theorem names.
-/
import Derived.Test.YtncedeembfcakaaGreatProg
import Derived.Test.YtncedeembfcakaaGreatD1
import Derived.Test.YtncedeembfcakaaGreatC1
namespace Go.Px.YtncedeembfcakaaGreat
set_option linter.unusedSimpArgs false
set_option linter.unusedVariables false
open Go.Px Go.Proofs
theorem W0b (b0:A0a)(b1:A0f)(r:Bool)(h:K0v b0 b1=some r):PC Tryz.prog 69 [A0u b0,D0c b1] (bool r):=by
 unfold K0v at h
 refine PC.start Tryz.func69 Tryz.ntmps69 rfl ok69 rfl ?_
 refine Run.sr (X.bx ?_)
 refine X.bx ?_
 refine X.an ?_
 refine Run.sr (X.fl B0z ?_)
 refine X.ld shp23 ?_
 refine X.ls elt23 ?_
 refine X.an ?_
 refine Run.seq (Run.seq ?_)
 obtain ⟨v1,hv1,h⟩:=bindE h
 obtain ⟨e2,he2,h2⟩:=bindE h
 refine R.regG [(2,.lptr 128 0),(3,.lptr 192 0),(34,bool e2)] [(128,.blk true [int b0.Deadline,.slice (b0.Activities.map A0b),.slice (b0.Links.map A0o),.slice (b0.Resources.map A0c),.slice (b0.Stocks.map int)]),(192,.blk true [.slice (b1.MinStart.map int),.slice (b1.MaxStart.map int),.slice (b1.Modes.map l_int)])] ?_ ?_
 ·clear h;have h:=he2;clear he2 h2
  refine X.ld shp28 ?_
  refine X.cp (H0p _ _ hv1) ?_
  refine X.un (h:=?_)
  refine X.mv ?_
  refine X.iG (fun hb3=>?_) (fun hb3=>?_)
  ·replace h:=condF hb3 h
   refine X.fl H0a ?_
   refine X.gy (X.ld shp26 ?_)
   refine X.gy (X.ls elt26 ?_)
   refine X.gy (X.mv ?_)
   refine X.gy (X.bi ?_)
   refine X.pF ?_
   refine X.mv ?_
   refine X.iG (fun hb4=>?_) (fun hb4=>?_)
   ·replace h:=condF hb4 h
    refine X.fl G0b ?_
    refine X.gy (X.ld shp26 ?_)
    refine X.gy (X.ls elt26 ?_)
    refine X.gy (X.mv ?_)
    refine X.gy (X.bi ?_)
    refine X.pF ?_
    refine X.mv ?_
    refine X.iG (fun hb5=>?_) (fun hb5=>?_)
    ·replace h:=condF hb5 h
     refine X.fl H0n ?_
     refine X.gy (X.ld shp30 ?_)
     refine X.gy (X.ls elt30 ?_)
     refine X.gy (X.mv ?_)
     refine X.gy (X.bi ?_)
     refine X.pF ?_
     cases h
     exact X.eG
    replace h:=condT hb5 h
    refine X.gn (X.gn (X.gn (X.gn (X.pT ?_))))
    cases h
    exact X.eG
   replace h:=condT hb4 h
   refine X.gn (X.gn (X.gn (X.gn (X.pT ?_))))
   refine X.mv ?_
   refine X.gn (X.gn (X.gn (X.gn (X.gn (X.pT ?_)))))
   cases h
   exact X.eG
  replace h:=condT hb3 h
  refine X.gn (X.gn (X.gn (X.gn (X.pT ?_))))
  refine X.mv ?_
  refine X.gn (X.gn (X.gn (X.gn (X.gn (X.pT ?_)))))
  refine X.mv ?_
  refine X.gn (X.gn (X.gn (X.gn (X.gn (X.pT ?_)))))
  cases h
  exact X.eG
 replace h:=h2;clear h2
 refine R.cd (fun hc6=>?_) (fun hc6=>?_)
 ·replace h:=condT hc6 h
  refine Run.sr (X.an ?_)
  cases h
  refine R.f1 Tryz.results69 ?_
  rfl
 replace h:=condF hc6 h
 refine Run.skip (Run.seq (Run.sr (X.fl H0n ?_)))
 refine X.ld shp30 ?_
 refine X.ls elt30 ?_
 refine X.mn ?_
 obtain ⟨o7,ho7,h⟩:=bindE h
 refine R.join2 (β:=Unit) [] [] (fun p31 S=>S) (fun p31 M=>M) (fun p31=>(Sum.inl p31)=o7) ?_ ?_
 ·intro JJ10 hmeet9
  have hup8:=h;clear h;have h:=ho7;clear ho7
  refine Run.block ?_
  refine R.bndS (t:=36) (by rfl) (fun hbd13=>?_)
  replace hbd13:b1.Modes.length≤9223372036854775807:=by first | (rw [List.length_map] at hbd13;exact hbd13) | simp
  refine R.lp (β:=Int) [(2,.lptr 128 0),(3,.lptr 192 0),(36,.slice (b1.Modes.map l_int)),(37,int (b1.Modes.length:Int))] [(128,.blk true [int b0.Deadline,.slice (b0.Activities.map A0b),.slice (b0.Links.map A0o),.slice (b0.Resources.map A0c),.slice (b0.Stocks.map int)]),(192,.blk true [.slice (b1.MinStart.map int),.slice (b1.MaxStart.map int),.slice (b1.Modes.map l_int)])] (fun bb S=>(38,int bb)::S) (fun bb M=>M) (fun n bb=>0≤bb∧bb+n=(b1.Modes.length:Int)∧E0s b0 b1 (b1.Modes.drop bb.toNat) bb=some o7) b1.Modes.length (0:Int) ⟨Int.le_refl _,by simp,h⟩ ?_
  clear h
  rintro JJ13 n13 z14 hag13 ⟨hza13,hzb13,h⟩
  refine Run.sr (X.bi ?_)
  refine X.nil (Run.seq ?_)
  refine R.cd (fun hc17=>?_) (fun hc17=>?_)
  ·obtain ⟨x15,xs16,hd13,hx13,hds13,hlt13⟩:=B0c hza13 hc17
   rw [hd13] at h
   rw [E0s] at h
   refine Run.skip (Run.seq (Run.block (Run.sr (X.mv ?_))))
   refine X.ix elt30 (A0d hx13).1 (A0e l_int hx13) ?_
   refine X.lc shp26 ?_
   refine X.as ?_
   refine X.an ?_
   refine Run.seq ?_
   obtain ⟨v18,hv18,h⟩:=bindE h
   obtain ⟨v19,hv19,h⟩:=bindE h
   obtain ⟨e20,he20,h2⟩:=bindE h
   refine R.regG [(2,.lptr 128 0),(3,.lptr 192 0),(36,.slice (b1.Modes.map l_int)),(37,int (b1.Modes.length:Int)),(38,int z14),(74,bool e20)] [(128,.blk true [int b0.Deadline,.slice (b0.Activities.map A0b),.slice (b0.Links.map A0o),.slice (b0.Resources.map A0c),.slice (b0.Stocks.map int)]),(192,.blk true [.slice (b1.MinStart.map int),.slice (b1.MaxStart.map int),.slice (b1.Modes.map l_int)])] ?_ ?_
   ·clear h;have h:=he20;clear he20 h2
    refine X.fl H0a ?_
    refine X.ld shp26 ?_
    refine X.mv ?_
    refine X.ix elt26 (A0d hv18).1 (A0e int hv18) ?_
    refine X.lc shp3 ?_
    refine X.cp (T0t _ _ hv19) ?_
    refine X.un (h:=?_)
    refine X.mv ?_
    refine X.iG (fun hb21=>?_) (fun hb21=>?_)
    ·replace h:=condF hb21 h
     refine X.fl G0b ?_
     refine X.gy (X.ld shp26 ?_)
     refine X.gy (X.mv ?_)
     refine X.gy ?_
     obtain ⟨v22,hv22,h⟩:=bindE h
     refine X.ix elt26 (A0d hv22).1 (A0e int hv22) ?_
     refine X.gy (X.lc shp3 ?_)
     refine X.gy ?_
     obtain ⟨v23,hv23,h⟩:=bindE h
     refine X.cp (T0t _ _ hv23) ?_
     refine X.gy (X.un (h:=?_))
     refine X.pF ?_
     refine X.mv ?_
     refine X.iG (fun hb24=>?_) (fun hb24=>?_)
     ·replace h:=condF hb24 h
      refine X.mv ?_
      refine X.gy ?_
      obtain ⟨v25,hv25,h⟩:=bindE h
      refine X.cp (B1m _ _ hv25) ?_
      refine X.gy (X.un (h:=?_))
      refine X.pF ?_
      refine X.mv ?_
      refine X.iG (fun hb26=>?_) (fun hb26=>?_)
      ·replace h:=condF hb26 h
       refine X.mv ?_
       refine X.gy (X.fl B0z ?_)
       refine X.gy (X.ld shp23 ?_)
       refine X.gy (X.mv ?_)
       refine X.gy ?_
       obtain ⟨v27,hv27,h⟩:=bindE h
       refine X.ix elt23 (A0d hv27).1 (A0e A0b hv27) ?_
       refine X.gy (X.lc shp50 ?_)
       refine X.gy ?_
       obtain ⟨v28,hv28,h⟩:=bindE h
       refine X.callF (U0d _ _ hv28) (by rfl) (by rfl) (by rfl) (by trivial) (by rfl) (by rfl) (by rfl) (by rfl) ?_
       refine X.gy ?_
       obtain ⟨v29,hv29,h⟩:=bindE h
       refine X.cp (W0l _ _ _ hv29) ?_
       refine X.gy (X.un (h:=?_))
       refine X.pF ?_
       cases h
       exact X.eG
      replace h:=condT hb26 h
      refine X.gn (X.gn (X.gn (X.gn (X.gn (X.gn (X.gn (X.gn ?_)))))))
      refine X.pT ?_
      cases h
      exact X.eG
     replace h:=condT hb24 h
     refine X.gn (X.gn (X.pT ?_))
     refine X.mv ?_
     refine X.gn (X.gn (X.gn (X.gn (X.gn (X.gn (X.gn (X.gn ?_)))))))
     refine X.gn (X.pT ?_)
     cases h
     exact X.eG
    replace h:=condT hb21 h
    refine X.gn (X.gn (X.gn (X.gn (X.gn (X.gn (X.pT ?_))))))
    refine X.mv ?_
    refine X.gn (X.gn (X.gn (X.pT ?_)))
    refine X.mv ?_
    refine X.gn (X.gn (X.gn (X.gn (X.gn (X.gn (X.gn (X.gn ?_)))))))
    refine X.gn (X.pT ?_)
    cases h
    exact X.eG
   replace h:=h2;clear h2
   refine R.cd (fun hc30=>?_) (fun hc30=>?_)
   ·replace h:=condT hc30 h
    refine Run.sr (X.an ?_)
    cases h
    have h:=hup8
    replace h:=elimR h
    cases h
    refine R.f1 Tryz.results69 ?_
    rfl
   replace h:=condF hc30 h
   refine Run.skip (Run.blk (Run.reg (X.ad ?_)))
   refine X.mn ?_
   exact R.ag hag13 (n13 - 1) (z14+1) (R.n3 (by first | (rw [hds13];exact h) | (dsimp only;rw [hds13];exact h)))
  rw [A0w hza13 hc17] at h
  rw [E0s] at h
  refine Run.exit (by rfl) ?_
  exact R.mt hmeet9 () (Option.some.inj h)
 rintro p31 rfl
 replace h:=elimL h
 refine Run.sr (X.an ?_)
 cases h
 refine R.f1 Tryz.results69 ?_
 rfl
theorem M0w (b0:List (List Int))(g1:(List Int)→Option Bool)(g1id:Nat)(g1c:List PV)(hg1:∀(x0:List Int) v,g1 x0=some v→PC Tryz.prog g1id ([.slice (x0.map int)] ++ g1c) (bool v))(r:Int)(h:E0a b0 g1=some r):PC Tryz.prog 119 [.slice (b0.map l_int),.fn g1id g1c] (int r):=by
 unfold E0a at h
 refine PC.start Tryz.func119 Tryz.ntmps119 rfl ok119 rfl ?_
 refine Run.sr (X.an ?_)
 refine Run.seq (Run.sr (X.mv ?_))
 refine X.ls elt30 ?_
 refine X.mn ?_
 obtain ⟨o1,ho1,h⟩:=bindE h
 refine R.join2 (β:=Unit) [] [] (fun p14 S=>S) (fun p14 M=>M) (fun p14=>(Sum.inl p14)=o1) ?_ ?_
 ·intro JJ4 hmeet3
  have hup2:=h;clear h;have h:=ho1;clear ho1
  refine Run.block ?_
  refine R.bndS (t:=0) (by rfl) (fun hbd7=>?_)
  replace hbd7:b0.length≤9223372036854775807:=by first | (rw [List.length_map] at hbd7;exact hbd7) | simp
  refine R.lp (β:=Int) [(0,.slice (b0.map l_int)),(1,.fn g1id g1c),(7,int (b0.length:Int))] [] (fun bb S=>(8,int bb)::S) (fun bb M=>M) (fun n bb=>0≤bb∧bb+n=(b0.length:Int)∧B0f g1 (b0.drop bb.toNat) bb=some o1) b0.length (0:Int) ⟨Int.le_refl _,by simp,h⟩ ?_
  clear h
  rintro JJ7 n7 z8 hag7 ⟨hza7,hzb7,h⟩
  refine Run.sr (X.bi ?_)
  refine X.nil (Run.seq ?_)
  refine R.cd (fun hc11=>?_) (fun hc11=>?_)
  ·obtain ⟨x9,xs10,hd7,hx7,hds7,hlt7⟩:=B0c hza7 hc11
   rw [hd7] at h
   rw [B0f] at h
   refine Run.skip (Run.seq (Run.block (Run.sr (X.mv ?_))))
   refine X.an ?_
   refine Run.sr (X.mv ?_)
   refine X.mv ?_
   refine X.mv ?_
   refine X.ix elt30 (A0d hx7).1 (A0e l_int hx7) ?_
   refine X.lc shp26 ?_
   obtain ⟨v12,hv12,h⟩:=bindE h
   refine X.cp (hg1 _ _ hv12) ?_
   refine X.nil ?_
   refine R.cd (fun hc13=>?_) (fun hc13=>?_)
   ·replace h:=condT hc13 h
    refine Run.sr (X.mv ?_)
    refine X.an ?_
    cases h
    have h:=hup2
    replace h:=elimR h
    cases h
    refine R.f1 Tryz.results119 ?_
    rfl
   replace h:=condF hc13 h
   refine Run.skip (Run.blk (Run.reg (X.ad ?_)))
   refine X.mn ?_
   exact R.ag hag7 (n7 - 1) (z8+1) (R.n3 (by first | (rw [hds7];exact h) | (dsimp only;rw [hds7];exact h)))
  rw [A0w hza7 hc11] at h
  rw [B0f] at h
  refine Run.exit (by rfl) ?_
  exact R.mt hmeet3 () (Option.some.inj h)
 rintro p14 rfl
 replace h:=elimL h
 refine Run.sr (X.an ?_)
 cases h
 refine R.f1 Tryz.results119 ?_
 rfl
theorem L0r (b0:List (List Int))(g1:(List Int)→Option Bool)(g1id:Nat)(g1c:List PV)(hg1:∀(x0:List Int) v,g1 x0=some v→PC Tryz.prog g1id ([.slice (x0.map int)] ++ g1c) (bool v))(r:Bool)(h:C0x b0 g1=some r):PC Tryz.prog 106 [.slice (b0.map l_int),.fn g1id g1c] (bool r):=by
 unfold C0x at h
 refine PC.start Tryz.func106 Tryz.ntmps106 rfl ok106 rfl ?_
 refine Run.sr (X.an ?_)
 refine Run.sr (X.mv ?_)
 refine X.mv ?_
 obtain ⟨v1,hv1,h⟩:=bindE h
 refine X.cp (M0w _ g1 _ _ hg1 _ hv1) ?_
 refine X.bi ?_
 refine X.an ?_
 cases h
 refine R.f1 Tryz.results106 ?_
 rfl
theorem R0g (b0:List Int)(r:Bool)(h:D0l b0=some r):PC Tryz.prog 107 [.slice (b0.map int)] (bool r):=by
 unfold D0l at h
 refine PC.start Tryz.func107 Tryz.ntmps107 rfl ok107 rfl ?_
 refine Run.sr (X.an ?_)
 refine Run.sr (X.mv ?_)
 refine X.ls elt26 ?_
 refine X.bi ?_
 refine X.an ?_
 cases h
 refine R.f1 Tryz.results107 ?_
 rfl
theorem U0i (b0:A0f)(r:Bool)(h:J0q b0=some r):PC Tryz.prog 70 [D0c b0] (bool r):=by
 unfold J0q at h
 refine PC.start Tryz.func70 Tryz.ntmps70 rfl ok70 rfl ?_
 refine Run.sr (X.bx ?_)
 refine X.an ?_
 refine Run.seq (Run.sr (X.fl H0a ?_))
 refine X.ld shp26 ?_
 refine X.ls elt26 ?_
 refine X.mn ?_
 obtain ⟨o1,ho1,h⟩:=bindE h
 refine R.join2 (β:=Unit) [(1,.lptr 64 0)] [(64,.blk true [.slice (b0.MinStart.map int),.slice (b0.MaxStart.map int),.slice (b0.Modes.map l_int)])] (fun p16 S=>S) (fun p16 M=>M) (fun p16=>(Sum.inl p16)=o1) ?_ ?_
 ·intro JJ4 hmeet3
  have hup2:=h;clear h;have h:=ho1;clear ho1
  refine Run.block ?_
  refine R.bndS (t:=6) (by rfl) (fun hbd7=>?_)
  replace hbd7:b0.MinStart.length≤9223372036854775807:=by first | (rw [List.length_map] at hbd7;exact hbd7) | simp
  refine R.lp (β:=Int) [(1,.lptr 64 0),(6,.slice (b0.MinStart.map int)),(7,int (b0.MinStart.length:Int))] [(64,.blk true [.slice (b0.MinStart.map int),.slice (b0.MaxStart.map int),.slice (b0.Modes.map l_int)])] (fun bb S=>(8,int bb)::S) (fun bb M=>M) (fun n bb=>0≤bb∧bb+n=(b0.MinStart.length:Int)∧E0i b0 (b0.MinStart.drop bb.toNat) bb=some o1) b0.MinStart.length (0:Int) ⟨Int.le_refl _,by simp,h⟩ ?_
  clear h
  rintro JJ7 n7 z8 hag7 ⟨hza7,hzb7,h⟩
  refine Run.sr (X.bi ?_)
  refine X.nil (Run.seq ?_)
  refine R.cd (fun hc11=>?_) (fun hc11=>?_)
  ·obtain ⟨x9,xs10,hd7,hx7,hds7,hlt7⟩:=B0c hza7 hc11
   rw [hd7] at h
   rw [E0i] at h
   refine Run.skip (Run.seq (Run.block (Run.sr (X.mv ?_))))
   refine X.ix elt26 (A0d hx7).1 (A0e int hx7) ?_
   refine X.lc shp3 ?_
   refine X.as ?_
   refine X.an ?_
   refine Run.seq ?_
   obtain ⟨e12,he12,h2⟩:=bindE h
   refine R.regG [(1,.lptr 64 0),(6,.slice (b0.MinStart.map int)),(7,int (b0.MinStart.length:Int)),(8,int z8),(26,bool e12)] [(64,.blk true [.slice (b0.MinStart.map int),.slice (b0.MaxStart.map int),.slice (b0.Modes.map l_int)])] ?_ ?_
   ·clear h;have h:=he12;clear he12 h2
    refine X.mv ?_
    refine X.fl G0b ?_
    refine X.ld shp26 ?_
    refine X.ls elt26 ?_
    refine X.bi ?_
    refine X.mv ?_
    refine X.iG (fun hb13=>?_) (fun hb13=>?_)
    ·replace h:=condT hb13 h
     refine X.mv ?_
     refine X.gy (X.fl G0b ?_)
     refine X.gy (X.ld shp26 ?_)
     refine X.gy (X.mv ?_)
     refine X.gy ?_
     obtain ⟨v14,hv14,h⟩:=bindE h
     refine X.ix elt26 (A0d hv14).1 (A0e int hv14) ?_
     refine X.gy (X.lc shp3 ?_)
     refine X.gy (X.bi ?_)
     refine X.pT ?_
     cases h
     exact X.eG
    replace h:=condF hb13 h
    refine X.gn (X.gn (X.gn (X.gn (X.gn (X.gn (X.pF ?_))))))
    cases h
    exact X.eG
   replace h:=h2;clear h2
   refine R.cd (fun hc15=>?_) (fun hc15=>?_)
   ·replace h:=condT hc15 h
    refine Run.sr (X.an ?_)
    cases h
    have h:=hup2
    replace h:=elimR h
    cases h
    refine R.f1 Tryz.results70 ?_
    rfl
   replace h:=condF hc15 h
   refine Run.skip (Run.blk (Run.reg (X.ad ?_)))
   refine X.mn ?_
   exact R.ag hag7 (n7 - 1) (z8+1) (R.n3 (by first | (rw [hds7];exact h) | (dsimp only;rw [hds7];exact h)))
  rw [A0w hza7 hc11] at h
  rw [E0i] at h
  refine Run.exit (by rfl) ?_
  exact R.mt hmeet3 () (Option.some.inj h)
 rintro p16 rfl
 replace h:=elimL h
 refine Run.sr (X.fl H0n ?_)
 refine X.ld shp30 ?_
 obtain ⟨v18,hv18,h⟩:=bindE h
 refine X.cp (L0r _ (fun x0=>D0l x0) _ _ (fun x0 v hv=>R0g _ _ hv) _ hv18) ?_
 refine X.an ?_
 cases h
 refine R.f1 Tryz.results70 ?_
 rfl
theorem E0k (b0:A0a)(b1:A0f)(r:Bool)(h:E0d b0 b1=some r):PC Tryz.prog 34 [A0u b0,D0c b1] (bool r):=by
 unfold E0d at h
 refine PC.start Tryz.func34 Tryz.ntmps34 rfl ok34 rfl ?_
 refine Run.sr (X.bx ?_)
 refine X.bx ?_
 refine X.an ?_
 refine Run.seq ?_
 obtain ⟨v1,hv1,h⟩:=bindE h
 obtain ⟨e2,he2,h2⟩:=bindE h
 refine R.regG [(4,bool e2)] [] ?_ ?_
 ·clear h;have h:=he2;clear he2 h2
  refine X.ld shp28 ?_
  refine X.ld shp32 ?_
  refine X.cp (W0b _ _ _ hv1) ?_
  refine X.mv ?_
  refine X.iG (fun hb3=>?_) (fun hb3=>?_)
  ·replace h:=condT hb3 h
   refine X.ld shp32 ?_
   refine X.gy ?_
   obtain ⟨v4,hv4,h⟩:=bindE h
   refine X.cp (U0i _ _ hv4) ?_
   refine X.gy (X.un (h:=?_))
   refine X.pT ?_
   refine X.as ?_
   cases h
   exact X.eG
  replace h:=condF hb3 h
  refine X.gn (X.gn (X.pF ?_))
  refine X.as ?_
  cases h
  exact X.eG
 replace h:=h2;clear h2
 cases h
 refine R.f1 Tryz.results34 ?_
 rfl
theorem A0y (b0:A0a)(b1:Int)(r:Bool)(h:A0r b0 b1=some r):PC Tryz.prog 35 [A0u b0,int b1] (bool r):=by
 unfold A0r at h
 refine PC.start Tryz.func35 Tryz.ntmps35 rfl ok35 rfl ?_
 refine Run.sr (X.bx ?_)
 refine X.an ?_
 refine Run.sr (X.mv ?_)
 refine X.fl G0s ?_
 refine X.ld shp25 ?_
 refine X.ls elt25 ?_
 refine X.subW (h:=?_)
 obtain ⟨v1,hv1,h⟩:=bindE h
 refine X.cp (B0m _ _ _ _ hv1) ?_
 refine X.an ?_
 cases h
 refine R.f1 Tryz.results35 ?_
 rfl
theorem V0e (b0:A0g)(b1:List Int)(r:List TMode)(h:Q0n b0 b1=some r):PC Tryz.prog 78 [A0b b0,.slice (b1.map int)] (.fresh false 47 3 (r.map B0o)):=by
 unfold Q0n at h
 refine PC.start Tryz.func78 Tryz.ntmps78 rfl ok78 rfl ?_
 refine Run.sr (X.bx ?_)
 refine X.an ?_
 refine Run.sr ?_
 refine X.buildSlice false elt48 zer47 (by rfl) (by rfl) (by rfl) (by rfl) (by rfl) (by rfl) (by repeat (first | trivial | refine ⟨by first | rfl | simp [setL],?_⟩)) (A0j (by rfl)) (by rfl) (by rfl) (by rfl) ?_
 refine X.an ?_
 refine Run.seq (Run.sr (X.fl H0v ?_))
 refine X.ld shp48 ?_
 refine X.ls elt48 ?_
 refine X.mn ?_
 obtain ⟨o1,ho1,h⟩:=bindE h
 refine R.join2 (β:=(List TMode)) [] [] (fun p16 S=>(5,.own 512 (p16.map B0o).length)::S) (fun p16 M=>(512,.obj false 47 3 (p16.map B0o))::M) (fun p16=>p16=o1) ?_ ?_
 ·intro JJ4 hmeet3
  have hup2:=h;clear h;have h:=ho1;clear ho1
  refine Run.block ?_
  refine R.bndS (t:=10) (by rfl) (fun hbd7=>?_)
  replace hbd7:b0.Modes.length≤9223372036854775807:=by first | (rw [List.length_map] at hbd7;exact hbd7) | simp
  refine R.lp (β:=Int×(List TMode)) [(1,.slice (b1.map int)),(10,.slice (b0.Modes.map B0o)),(11,int (b0.Modes.length:Int))] [] (fun bb S=>(5,.own 512 (bb.2.map B0o).length)::(12,int bb.1)::S) (fun bb M=>(512,.obj false 47 3 (bb.2.map B0o))::M) (fun n bb=>0≤bb.1∧bb.1+n=(b0.Modes.length:Int)∧G0l b1 (b0.Modes.drop bb.1.toNat) bb.1 bb.2=some o1) b0.Modes.length (0,([]:List TMode)) ⟨Int.le_refl _,by simp,h⟩ ?_
  clear h
  rintro JJ7 n7 ⟨z8,a9⟩ hag7 ⟨hza7,hzb7,h⟩
  dsimp only at hza7 hzb7 h
  refine Run.sr (X.bi ?_)
  refine X.nil (Run.seq ?_)
  refine R.cd (fun hc12=>?_) (fun hc12=>?_)
  ·obtain ⟨x10,xs11,hd7,hx7,hds7,hlt7⟩:=B0c hza7 hc12
   rw [hd7] at h
   rw [G0l] at h
   refine Run.skip (Run.seq (Run.block (Run.sr (X.mv ?_))))
   refine X.ix elt48 (A0d hx7).1 (A0e B0o hx7) ?_
   refine X.lc shp47 ?_
   refine X.alloc zer47 (h:=?_)
   refine X.as ?_
   refine X.sl shp47 ?_
   refine X.nil (Run.sr (X.mv ?_))
   refine X.mv ?_
   obtain ⟨v13,hv13,h⟩:=bindE h
   refine X.cp (N0m _ _ _ hv13) ?_
   refine X.nil ?_
   refine R.cd (fun hc14=>?_) (fun hc14=>?_)
   ·replace h:=condT hc14 h
    refine Run.reg (X.mv ?_)
    refine X.ld shp47 ?_
    refine X.buildSlice false elt48 zer47 (by rfl) (by rfl) (by rfl) (by rfl) (by rfl) (by rfl) (by repeat (first | trivial | refine ⟨by first | rfl | simp [setL],?_⟩)) (A0j (by rfl)) (by rfl) (by rfl) (by rfl) ?_
    obtain ⟨v15,hv15,h⟩:=bindE h
    refine X.append elt48 zer47 (by rfl) (by rfl) (by first | rfl | simp [setL] | omega) (by rfl) (.own _ _ _ _ _ _ (A0h (by rfl)) (by first | rfl | simp [setL] | omega)) (A0j (by rfl)) (D0n B0o hv15) (D0o B0o hv15) (by rfl) (by rfl) (by rfl) (by rfl) ?_
    refine X.an ?_
    refine Run.blk (Run.reg (X.ad ?_))
    refine X.mn ?_
    exact R.ag hag7 (n7 - 1) (z8+1,v15) (R.n3 (by first | (rw [hds7];exact h) | (dsimp only;rw [hds7];exact h)))
   replace h:=condF hc14 h
   refine Run.skip (Run.blk (Run.reg (X.ad ?_)))
   refine X.mn ?_
   exact R.ag hag7 (n7 - 1) (z8+1,a9) (R.n3 (by first | (rw [hds7];exact h) | (dsimp only;rw [hds7];exact h)))
  rw [A0w hza7 hc12] at h
  rw [G0l] at h
  refine Run.exit (by rfl) ?_
  exact R.mt hmeet3 a9 (Option.some.inj h)
 rintro p16 rfl
 refine Run.sr (X.mv ?_)
 refine X.an ?_
 cases h
 refine R.fin1o Tryz.results78 (by rfl) (by rfl) (by first | rfl | simp [setL] | omega) ?_
 rfl
theorem U0e (b0:A0g)(b1:List Int)(r:Int)(h:G0m b0 b1=some r):PC Tryz.prog 76 [A0b b0,.slice (b1.map int)] (int r):=by
 unfold G0m at h
 refine PC.start Tryz.func76 Tryz.ntmps76 rfl ok76 rfl ?_
 refine Run.sr (X.bx ?_)
 refine X.an ?_
 refine Run.sr (X.an ?_)
 refine Run.seq (Run.sr (X.ld shp50 ?_))
 refine X.mv ?_
 obtain ⟨v1,hv1,h⟩:=bindE h
 refine X.callF (V0e _ _ _ hv1) (by rfl) (by rfl) (by rfl) (by trivial) (by rfl) (by rfl) (by rfl) (by rfl) ?_
 refine X.len_o elt48 (by rfl) (by rfl) (by first | rfl | simp [setL] | omega) (by first | exact List.length_map .. | rfl) (by rfl) (by rfl) ?_
 refine X.mn ?_
 obtain ⟨o2,ho2,h⟩:=bindE h
 refine R.join2 (β:=Int) [] [] (fun p17 S=>(5,int p17)::S) (fun p17 M=>M) (fun p17=>p17=o2) ?_ ?_
 ·intro JJ5 hmeet4
  have hup3:=h;clear h;have h:=ho2;clear ho2
  refine Run.block ?_
  refine R.bndO (n:=640) (by rfl) (fun hbd8=>?_)
  replace hbd8:v1.length≤9223372036854775807:=by first | (rw [List.length_map] at hbd8;exact hbd8) | simp
  refine R.lp (β:=Int×Int) [(11,int (v1.length:Int))] [(640,.obj false 47 3 (v1.map B0o))] (fun bb S=>(5,int bb.2)::(10,.own 640 (v1.map B0o).length)::(12,int bb.1)::S) (fun bb M=>M) (fun n bb=>0≤bb.1∧bb.1+n=(v1.length:Int)∧C0q (v1.drop bb.1.toNat) bb.1 bb.2=some o2) v1.length (0,0) ⟨Int.le_refl _,by simp,h⟩ ?_
  clear h
  rintro JJ8 n8 ⟨z9,a10⟩ hag8 ⟨hza8,hzb8,h⟩
  dsimp only at hza8 hzb8 h
  refine Run.sr (X.bi ?_)
  refine X.nil (Run.seq ?_)
  refine R.cd (fun hc13=>?_) (fun hc13=>?_)
  ·obtain ⟨x11,xs12,hd8,hx8,hds8,hlt8⟩:=B0c hza8 hc13
   rw [hd8] at h
   rw [C0q] at h
   refine Run.skip (Run.seq (Run.block (Run.sr (X.mv ?_))))
   refine X.index_o elt48 (by rfl) (by rfl) (by first | rfl | simp [setL] | omega) (by rfl) (A0d hx8).1 (A0e B0o hx8) (by rfl) (by rfl) (by rfl) ?_
   refine X.lc shp47 ?_
   refine X.alloc zer47 (h:=?_)
   refine X.as ?_
   refine X.sl shp47 ?_
   refine X.nil (Run.seq ?_)
   obtain ⟨e14,he14,h2⟩:=bindE h
   refine R.regG [(5,int a10),(7,.lptr 448 0),(10,.own 640 (v1.map B0o).length),(11,int (v1.length:Int)),(12,int z9),(24,bool e14)] [(448,.blk true [int x11.Duration,.slice (x11.Usage.map int),.slice (x11.Consumption.map int)]),(640,.obj false 47 3 (v1.map B0o))] ?_ ?_
   ·clear h;have h:=he14;clear he14 h2
    refine X.mv ?_
    refine X.bi ?_
    refine X.mv ?_
    refine X.iG (fun hb15=>?_) (fun hb15=>?_)
    ·replace h:=condF hb15 h
     refine X.fl R0f ?_
     refine X.gy (X.ld shp3 ?_)
     refine X.gy (X.mv ?_)
     refine X.gy (X.bi ?_)
     refine X.pF ?_
     cases h
     exact X.eG
    replace h:=condT hb15 h
    refine X.gn (X.gn (X.gn (X.pT ?_)))
    cases h
    exact X.eG
   replace h:=h2;clear h2
   refine R.cd (fun hc16=>?_) (fun hc16=>?_)
   ·replace h:=condT hc16 h
    refine Run.reg (X.fl R0f ?_)
    refine X.ld shp3 ?_
    refine X.an ?_
    refine Run.blk (Run.reg (X.ad ?_))
    refine X.mn ?_
    exact R.ag hag8 (n8 - 1) (z9+1,x11.Duration) (R.n3 (by first | (rw [hds8];exact h) | (dsimp only;rw [hds8];exact h)))
   replace h:=condF hc16 h
   refine Run.skip (Run.blk (Run.reg (X.ad ?_)))
   refine X.mn ?_
   exact R.ag hag8 (n8 - 1) (z9+1,a10) (R.n3 (by first | (rw [hds8];exact h) | (dsimp only;rw [hds8];exact h)))
  rw [A0w hza8 hc13] at h
  rw [C0q] at h
  refine Run.exit (by rfl) ?_
  exact R.mt hmeet4 a10 (Option.some.inj h)
 rintro p17 rfl
 refine Run.sr (X.mv ?_)
 refine X.an ?_
 cases h
 refine R.f1 Tryz.results76 ?_
 rfl
theorem K0t (b0:A0a)(b1:A0f)(b2:Int)(r:Int)(h:E0e b0 b1 b2=some r):PC Tryz.prog 43 [A0u b0,D0c b1,int b2] (int r):=by
 unfold E0e at h
 refine PC.start Tryz.func43 Tryz.ntmps43 rfl ok43 rfl ?_
 refine Run.sr (X.bx ?_)
 refine X.bx ?_
 refine X.an ?_
 refine Run.seq (Run.draw (B0r [(1,([192],[],[],[])),(6,([256],[],[],[]))]) mixed (by kernel_rfl) (by kernel_rfl) ?_)
 refine X.fl B0z ?_
 refine X.ld shp23 ?_
 refine X.mv ?_
 obtain ⟨v1,hv1,h⟩:=bindE h
 refine X.ix elt23 (A0d hv1).1 (A0e A0b hv1) ?_
 refine X.lc shp50 ?_
 refine X.fl H0n ?_
 refine X.ld shp30 ?_
 refine X.mv ?_
 obtain ⟨v2,hv2,h⟩:=bindE h
 refine X.ix elt30 (A0d hv2).1 (A0e l_int hv2) ?_
 refine X.lc shp26 ?_
 obtain ⟨v3,hv3,h⟩:=bindE h
 refine X.cp (U0e _ _ _ hv3) ?_
 refine X.an ?_
 cases h
 refine R.f1 Tryz.results43 ?_
 rfl
theorem J0w (b0:A0a)(b1:A0f)(b2:Int)(r:Int×Int)(h:D0i b0 b1 b2=some r):PC Tryz.prog 40 [A0u b0,D0c b1,int b2] (.tuple [int r.1,int r.2]):=by
 unfold D0i at h
 refine PC.start Tryz.func40 Tryz.ntmps40 rfl ok40 rfl ?_
 refine Run.sr (X.bx ?_)
 refine X.bx ?_
 refine X.as ?_
 refine X.an ?_
 refine Run.seq (Run.draw (B0r [(1,([256],[],[],[])),(6,([256],[],[],[])),(10,([192],[],[],[])),(11,([256],[],[],[]))]) mixed (by kernel_rfl) (by kernel_rfl) ?_)
 refine X.fl G0b ?_
 refine X.ld shp26 ?_
 refine X.mv ?_
 obtain ⟨v1,hv1,h⟩:=bindE h
 refine X.ix elt26 (A0d hv1).1 (A0e int hv1) ?_
 refine X.lc shp3 ?_
 refine X.fl H0a ?_
 refine X.ld shp26 ?_
 refine X.mv ?_
 obtain ⟨v2,hv2,h⟩:=bindE h
 refine X.ix elt26 (A0d hv2).1 (A0e int hv2) ?_
 refine X.lc shp3 ?_
 refine X.ld shp28 ?_
 refine X.ld shp32 ?_
 refine X.mv ?_
 obtain ⟨v3,hv3,h⟩:=bindE h
 refine X.cp (K0t _ _ _ _ hv3) ?_
 refine X.addW (h:=?_)
 refine X.as ?_
 refine X.an ?_
 cases h
 refine R.fin2 Tryz.results40 (by rfl) (by rfl) (by rfl) (by repeat (first | trivial | refine ⟨by first | rfl | simp [setL],?_⟩)) ?_
 rfl
theorem Z0f (b0:List Int)(b1:Int)(r:Int×Bool)(h:Q0g b0 b1=some r):PC Tryz.prog 80 [.slice (b0.map int),int b1] (.tuple [int r.1,bool r.2]):=by
 unfold Q0g at h
 refine PC.start Tryz.func80 Tryz.ntmps80 rfl ok80 rfl ?_
 refine Run.sr (X.as ?_)
 refine X.an ?_
 refine Run.seq (Run.sr (X.mv ?_))
 refine X.mv ?_
 refine X.ls elt26 ?_
 refine X.subW (h:=?_)
 obtain ⟨v1,hv1,h⟩:=bindE h
 refine X.cp (B0m _ _ _ _ hv1) ?_
 refine X.un (h:=?_)
 refine X.nil ?_
 refine R.cd (fun hc2=>?_) (fun hc2=>?_)
 ·replace h:=condT hc2 h
  refine Run.sr (X.as ?_)
  refine X.an ?_
  cases h
  refine R.fin2 Tryz.results80 (by rfl) (by rfl) (by rfl) (by repeat (first | trivial | refine ⟨by first | rfl | simp [setL],?_⟩)) ?_
  rfl
 replace h:=condF hc2 h
 refine Run.skip (Run.sr (X.mv ?_))
 refine X.mv ?_
 obtain ⟨v3,hv3,h⟩:=bindE h
 refine X.ix elt26 (A0d hv3).1 (A0e int hv3) ?_
 refine X.lc shp3 ?_
 refine X.as ?_
 refine X.an ?_
 cases h
 refine R.fin2 Tryz.results80 (by rfl) (by rfl) (by rfl) (by repeat (first | trivial | refine ⟨by first | rfl | simp [setL],?_⟩)) ?_
 rfl
theorem U0j (b0:TMode)(c1:Int)(r:Int×Bool)(h:J0s b0 c1=some r):PC Tryz.prog 79 [B0o b0,.cptr (int c1:PV).cells 0] (.tuple [int r.1,bool r.2]):=by
 unfold J0s at h
 refine PC.start Tryz.func79 Tryz.ntmps79 rfl ok79 rfl ?_
 refine Run.sr (X.bx ?_)
 refine X.as ?_
 refine X.an ?_
 refine Run.sr (X.fl N0n ?_)
 refine X.ld shp26 ?_
 refine X.lc shp3 ?_
 obtain ⟨v1,hv1,h⟩:=bindE h
 refine X.callT (Z0f _ _ _ hv1) (by rfl) (by rfl) (by rfl) (by trivial) (by rfl) (by rfl) (by rfl) (by rfl) (by rfl) (by rfl) ?_
 refine X.extract (h:=?_)
 refine X.extract (h:=?_)
 refine X.as ?_
 refine X.an ?_
 cases h
 refine R.fin2 Tryz.results79 (by rfl) (by rfl) (by rfl) (by repeat (first | trivial | refine ⟨by first | rfl | simp [setL],?_⟩)) ?_
 rfl
theorem Y0u (b0:List TMode)(g1:TMode→Option (Int×Bool))(g1id:Nat)(g1c:List PV)(hg1:∀(x0:TMode) v,g1 x0=some v→PC Tryz.prog g1id ([B0o x0] ++ g1c) (.tuple [int v.1,bool v.2]))(r:Int)(h:P0z b0 g1=some r):PC Tryz.prog 77 [.slice (b0.map B0o),.fn g1id g1c] (int r):=by
 unfold P0z at h
 refine PC.start Tryz.func77 Tryz.ntmps77 rfl ok77 rfl ?_
 refine Run.sr (X.an ?_)
 refine Run.sr (X.an ?_)
 refine Run.seq (Run.sr (X.mv ?_))
 refine X.ls elt48 ?_
 refine X.mn ?_
 obtain ⟨o1,ho1,h⟩:=bindE h
 refine R.join2 (β:=Int) [] [] (fun p18 S=>(5,int p18)::S) (fun p18 M=>M) (fun p18=>(Sum.inl p18)=o1) ?_ ?_
 ·intro JJ4 hmeet3
  have hup2:=h;clear h;have h:=ho1;clear ho1
  refine Run.block ?_
  refine R.bndS (t:=0) (by rfl) (fun hbd7=>?_)
  replace hbd7:b0.length≤9223372036854775807:=by first | (rw [List.length_map] at hbd7;exact hbd7) | simp
  refine R.lp (β:=Int×Int) [(1,.fn g1id g1c),(10,.slice (b0.map B0o)),(11,int (b0.length:Int))] [] (fun bb S=>(5,int bb.2)::(12,int bb.1)::S) (fun bb M=>M) (fun n bb=>0≤bb.1∧bb.1+n=(b0.length:Int)∧G0e g1 (b0.drop bb.1.toNat) bb.1 bb.2=some o1) b0.length (0,0) ⟨Int.le_refl _,by simp,h⟩ ?_
  clear h
  rintro JJ7 n7 ⟨z8,a9⟩ hag7 ⟨hza7,hzb7,h⟩
  dsimp only at hza7 hzb7 h
  refine Run.sr (X.bi ?_)
  refine X.nil (Run.seq ?_)
  refine R.cd (fun hc12=>?_) (fun hc12=>?_)
  ·obtain ⟨x10,xs11,hd7,hx7,hds7,hlt7⟩:=B0c hza7 hc12
   rw [hd7] at h
   rw [G0e] at h
   refine Run.skip (Run.seq (Run.block (Run.sr (X.mv ?_))))
   refine X.ix elt48 (A0d hx7).1 (A0e B0o hx7) ?_
   refine X.lc shp47 ?_
   refine X.alloc zer47 (h:=?_)
   refine X.as ?_
   refine X.sl shp47 ?_
   refine X.nil (Run.sr (X.mv ?_))
   refine X.ld shp47 ?_
   obtain ⟨v13,hv13,h⟩:=bindE h
   refine X.callT (hg1 _ _ hv13) (by rfl) (by rfl) (by rfl) (by trivial) (by rfl) (by rfl) (by rfl) (by rfl) (by rfl) (by rfl) ?_
   refine X.mv ?_
   refine X.extract (h:=?_)
   refine X.extract (h:=?_)
   refine X.as ?_
   refine X.an ?_
   refine Run.seq (Run.sr (X.mv ?_))
   refine X.un (h:=?_)
   refine X.nil ?_
   refine R.cd (fun hc14=>?_) (fun hc14=>?_)
   ·replace h:=condT hc14 h
    refine Run.sr (X.an ?_)
    cases h
    have h:=hup2
    replace h:=elimR h
    cases h
    refine R.f1 Tryz.results77 ?_
    rfl
   replace h:=condF hc14 h
   refine Run.skip (Run.seq ?_)
   obtain ⟨e15,he15,h2⟩:=bindE h
   refine R.regG [(1,.fn g1id g1c),(5,int a9),(8,int v13.1),(10,.slice (b0.map B0o)),(11,int (b0.length:Int)),(12,int z8),(31,bool e15)] [] ?_ ?_
   ·clear h;have h:=he15;clear he15 h2
    refine X.mv ?_
    refine X.bi ?_
    refine X.mv ?_
    refine X.iG (fun hb16=>?_) (fun hb16=>?_)
    ·replace h:=condF hb16 h
     refine X.mv ?_
     refine X.gy (X.mv ?_)
     refine X.gy (X.bi ?_)
     refine X.pF ?_
     cases h
     exact X.eG
    replace h:=condT hb16 h
    refine X.gn (X.gn (X.pT ?_))
    cases h
    exact X.eG
   replace h:=h2;clear h2
   refine R.cd (fun hc17=>?_) (fun hc17=>?_)
   ·replace h:=condT hc17 h
    refine Run.reg (X.mv ?_)
    refine X.an ?_
    refine Run.blk (Run.reg (X.ad ?_))
    refine X.mn ?_
    exact R.ag hag7 (n7 - 1) (z8+1,v13.1) (R.n3 (by first | (rw [hds7];exact h) | (dsimp only;rw [hds7];exact h)))
   replace h:=condF hc17 h
   refine Run.skip (Run.blk (Run.reg (X.ad ?_)))
   refine X.mn ?_
   exact R.ag hag7 (n7 - 1) (z8+1,a9) (R.n3 (by first | (rw [hds7];exact h) | (dsimp only;rw [hds7];exact h)))
  rw [A0w hza7 hc12] at h
  rw [G0e] at h
  refine Run.exit (by rfl) ?_
  exact R.mt hmeet3 a9 (Option.some.inj h)
 rintro p18 rfl
 replace h:=elimL h
 refine Run.sr (X.mv ?_)
 refine X.an ?_
 cases h
 refine R.f1 Tryz.results77 ?_
 rfl
theorem S0b (b0:A0g)(b1:List Int)(b2:Int)(r:Int)(h:J0f b0 b1 b2=some r):PC Tryz.prog 45 [A0b b0,.slice (b1.map int),int b2] (int r):=by
 unfold J0f at h
 refine PC.start Tryz.func45 Tryz.ntmps45 rfl ok45 rfl ?_
 refine Run.sr (X.bx ?_)
 refine X.bx ?_
 refine X.an ?_
 refine Run.seq ?_
 refine R.pubBlk (n:=320) (by rfl) (by rfl) (by repeat (first | trivial | refine ⟨by first | rfl | simp [setL],?_⟩)) ?_
 refine Run.reg (X.ld shp50 ?_)
 refine X.mv ?_
 obtain ⟨v1,hv1,h⟩:=bindE h
 refine X.callF (V0e _ _ _ hv1) (by rfl) (by rfl) (by rfl) (by trivial) (by rfl) (by rfl) (by rfl) (by rfl) ?_
 refine X.makeFunc (by rfl) (by rfl) (by repeat (first | trivial | refine ⟨by first | rfl | simp [setL],?_⟩)) (by rfl) (by rfl) ?_
 obtain ⟨v2,hv2,h⟩:=bindE h
 refine X.cp (Y0u _ (fun x0=>J0s x0 b2) _ _ (fun x0 v hv=>U0j _ _ _ hv) _ hv2) ?_
 refine X.an ?_
 cases h
 refine R.f1 Tryz.results45 ?_
 rfl
theorem E0j (b0:A0a)(b1:A0f)(b2:Int)(b3:Int)(r:Int)(h:B0l b0 b1 b2 b3=some r):PC Tryz.prog 36 [A0u b0,D0c b1,int b2,int b3] (int r):=by
 unfold B0l at h
 refine PC.start Tryz.func36 Tryz.ntmps36 rfl ok36 rfl ?_
 refine Run.sr (X.bx ?_)
 refine X.bx ?_
 refine X.an ?_
 refine Run.sr (X.an ?_)
 refine Run.seq (Run.sr (X.fl B0z ?_))
 refine X.ld shp23 ?_
 refine X.ls elt23 ?_
 refine X.mn ?_
 obtain ⟨o1,ho1,h⟩:=bindE h
 refine R.join2 (β:=Int) [] [] (fun p19 S=>(9,int p19)::S) (fun p19 M=>M) (fun p19=>p19=o1) ?_ ?_
 ·intro JJ4 hmeet3
  have hup2:=h;clear h;have h:=ho1;clear ho1
  refine Run.block ?_
  refine R.bndS (t:=15) (by rfl) (fun hbd7=>?_)
  replace hbd7:b0.Activities.length≤9223372036854775807:=by first | (rw [List.length_map] at hbd7;exact hbd7) | simp
  refine R.lp (β:=Int×Int) [(2,int b2),(3,int b3),(4,.lptr 256 0),(5,.lptr 320 0),(15,.slice (b0.Activities.map A0b)),(16,int (b0.Activities.length:Int))] [(256,.blk true [int b0.Deadline,.slice (b0.Activities.map A0b),.slice (b0.Links.map A0o),.slice (b0.Resources.map A0c),.slice (b0.Stocks.map int)]),(320,.blk true [.slice (b1.MinStart.map int),.slice (b1.MaxStart.map int),.slice (b1.Modes.map l_int)])] (fun bb S=>(9,int bb.2)::(17,int bb.1)::S) (fun bb M=>M) (fun n bb=>0≤bb.1∧bb.1+n=(b0.Activities.length:Int)∧A0x b0 b1 b2 b3 (b0.Activities.drop bb.1.toNat) bb.1 bb.2=some o1) b0.Activities.length (0,0) ⟨Int.le_refl _,by simp,h⟩ ?_
  clear h
  rintro JJ7 n7 ⟨z8,a9⟩ hag7 ⟨hza7,hzb7,h⟩
  dsimp only at hza7 hzb7 h
  refine Run.sr (X.bi ?_)
  refine X.nil (Run.seq ?_)
  refine R.cd (fun hc12=>?_) (fun hc12=>?_)
  ·obtain ⟨x10,xs11,hd7,hx7,hds7,hlt7⟩:=B0c hza7 hc12
   rw [hd7] at h
   rw [A0x] at h
   refine Run.skip (Run.seq (Run.block (Run.sr (X.mv ?_))))
   refine X.ix elt23 (A0d hx7).1 (A0e A0b hx7) ?_
   refine X.lc shp50 ?_
   refine X.alloc zer50 (h:=?_)
   refine X.as ?_
   refine X.sl shp50 ?_
   refine X.nil (Run.sr (X.ld shp28 ?_))
   refine X.ld shp32 ?_
   refine X.mv ?_
   obtain ⟨v13,hv13,h⟩:=bindE h
   refine X.callT (J0w _ _ _ _ hv13) (by rfl) (by rfl) (by rfl) (by trivial) (by rfl) (by rfl) (by rfl) (by rfl) (by rfl) (by rfl) ?_
   refine X.mv ?_
   refine X.extract (h:=?_)
   refine X.extract (h:=?_)
   refine X.as ?_
   refine X.an ?_
   refine Run.seq ?_
   obtain ⟨e14,he14,h2⟩:=bindE h
   refine R.regG [(2,int b2),(3,int b3),(4,.lptr 256 0),(5,.lptr 320 0),(9,int a9),(10,int z8),(11,.lptr 704 0),(15,.slice (b0.Activities.map A0b)),(16,int (b0.Activities.length:Int)),(17,int z8),(36,bool e14)] [(256,.blk true [int b0.Deadline,.slice (b0.Activities.map A0b),.slice (b0.Links.map A0o),.slice (b0.Resources.map A0c),.slice (b0.Stocks.map int)]),(320,.blk true [.slice (b1.MinStart.map int),.slice (b1.MaxStart.map int),.slice (b1.Modes.map l_int)]),(704,.blk true [str x10.Name,int x10.Family,.slice (x10.Modes.map B0o)])] ?_ ?_
   ·clear h;have h:=he14;clear he14 h2
    refine X.mv ?_
    refine X.mv ?_
    refine X.bi ?_
    refine X.mv ?_
    refine X.iG (fun hb15=>?_) (fun hb15=>?_)
    ·replace h:=condT hb15 h
     refine X.mv ?_
     refine X.gy (X.mv ?_)
     refine X.gy (X.bi ?_)
     refine X.pT ?_
     cases h
     exact X.eG
    replace h:=condF hb15 h
    refine X.gn (X.gn (X.pF ?_))
    cases h
    exact X.eG
   replace h:=h2;clear h2
   refine R.cd (fun hc16=>?_) (fun hc16=>?_)
   ·replace h:=condT hc16 h
    refine Run.draw (B0r [(1,([704],[],[],[])),(3,([320],[],[],[]))]) mixed (by kernel_rfl) (by kernel_rfl) ?_
    refine X.mv ?_
    refine X.ld shp50 ?_
    refine X.fl H0n ?_
    refine X.ld shp30 ?_
    refine X.mv ?_
    obtain ⟨v17,hv17,h⟩:=bindE h
    refine X.ix elt30 (A0d hv17).1 (A0e l_int hv17) ?_
    refine X.lc shp26 ?_
    refine X.mv ?_
    obtain ⟨v18,hv18,h⟩:=bindE h
    refine X.cp (S0b _ _ _ _ hv18) ?_
    refine X.addW (h:=?_)
    refine X.an ?_
    refine Run.blk (Run.reg (X.ad ?_))
    refine X.mn ?_
    exact R.ag hag7 (n7 - 1) (z8+1,(W (a9+v18))) (R.n3 (by first | (rw [hds7];exact h) | (dsimp only;rw [hds7];exact h)))
   replace h:=condF hc16 h
   refine Run.skip (Run.blk (Run.reg (X.ad ?_)))
   refine X.mn ?_
   exact R.ag hag7 (n7 - 1) (z8+1,a9) (R.n3 (by first | (rw [hds7];exact h) | (dsimp only;rw [hds7];exact h)))
  rw [A0w hza7 hc12] at h
  rw [A0x] at h
  refine Run.exit (by rfl) ?_
  exact R.mt hmeet3 a9 (Option.some.inj h)
 rintro p19 rfl
 refine Run.sr (X.mv ?_)
 refine X.an ?_
 cases h
 refine R.f1 Tryz.results36 ?_
 rfl
theorem F0z (b0:A0a)(b1:A0l)(r:Bool)(h:D0s b0 b1=some r):PC Tryz.prog 37 [A0u b0,D0j b1] (bool r):=by
 unfold D0s at h
 refine PC.start Tryz.func37 Tryz.ntmps37 rfl ok37 rfl ?_
 refine Run.sr (X.bx ?_)
 refine X.bx ?_
 refine X.an ?_
 refine Run.seq (Run.seq ?_)
 obtain ⟨v1,hv1,h⟩:=bindE h
 obtain ⟨e2,he2,h2⟩:=bindE h
 refine R.regG [(2,.lptr 128 0),(3,.lptr 192 0),(26,bool e2)] [(128,.blk true [int b0.Deadline,.slice (b0.Activities.map A0b),.slice (b0.Links.map A0o),.slice (b0.Resources.map A0c),.slice (b0.Stocks.map int)]),(192,.blk true [.slice (b1.Starts.map int),.slice (b1.Modes.map int)])] ?_ ?_
 ·clear h;have h:=he2;clear he2 h2
  refine X.ld shp28 ?_
  refine X.cp (H0p _ _ hv1) ?_
  refine X.un (h:=?_)
  refine X.mv ?_
  refine X.iG (fun hb3=>?_) (fun hb3=>?_)
  ·replace h:=condF hb3 h
   refine X.fl F0b ?_
   refine X.gy (X.ld shp26 ?_)
   refine X.gy (X.ls elt26 ?_)
   refine X.gy (X.fl B0z ?_)
   refine X.gy (X.ld shp23 ?_)
   refine X.gy (X.ls elt23 ?_)
   refine X.gy (X.bi ?_)
   refine X.pF ?_
   refine X.mv ?_
   refine X.iG (fun hb4=>?_) (fun hb4=>?_)
   ·replace h:=condF hb4 h
    refine X.fl N0f ?_
    refine X.gy (X.ld shp26 ?_)
    refine X.gy (X.ls elt26 ?_)
    refine X.gy (X.fl B0z ?_)
    refine X.gy (X.ld shp23 ?_)
    refine X.gy (X.ls elt23 ?_)
    refine X.gy (X.bi ?_)
    refine X.pF ?_
    cases h
    exact X.eG
   replace h:=condT hb4 h
   refine X.gn (X.gn (X.gn (X.gn (X.gn (X.gn (X.pT ?_))))))
   cases h
   exact X.eG
  replace h:=condT hb3 h
  refine X.gn (X.gn (X.gn (X.gn (X.gn (X.gn (X.pT ?_))))))
  refine X.mv ?_
  refine X.gn (X.gn (X.gn (X.gn (X.gn (X.gn (X.gn (X.pT ?_)))))))
  cases h
  exact X.eG
 replace h:=h2;clear h2
 refine R.cd (fun hc5=>?_) (fun hc5=>?_)
 ·replace h:=condT hc5 h
  refine Run.sr (X.an ?_)
  cases h
  refine R.f1 Tryz.results37 ?_
  rfl
 replace h:=condF hc5 h
 refine Run.skip (Run.seq (Run.sr (X.fl B0z ?_)))
 refine X.ld shp23 ?_
 refine X.ls elt23 ?_
 refine X.mn ?_
 obtain ⟨o6,ho6,h⟩:=bindE h
 refine R.join2 (β:=Unit) [] [] (fun p24 S=>S) (fun p24 M=>M) (fun p24=>(Sum.inl p24)=o6) ?_ ?_
 ·intro JJ9 hmeet8
  have hup7:=h;clear h;have h:=ho6;clear ho6
  refine Run.block ?_
  refine R.bndS (t:=28) (by rfl) (fun hbd12=>?_)
  replace hbd12:b0.Activities.length≤9223372036854775807:=by first | (rw [List.length_map] at hbd12;exact hbd12) | simp
  refine R.lp (β:=Int) [(2,.lptr 128 0),(3,.lptr 192 0),(29,int (b0.Activities.length:Int))] [(128,.blk true [int b0.Deadline,.slice (b0.Activities.map A0b),.slice (b0.Links.map A0o),.slice (b0.Resources.map A0c),.slice (b0.Stocks.map int)]),(192,.blk true [.slice (b1.Starts.map int),.slice (b1.Modes.map int)])] (fun bb S=>(30,int bb)::S) (fun bb M=>M) (fun n bb=>0≤bb∧bb+n=(b0.Activities.length:Int)∧C0v b1 (b0.Activities.drop bb.toNat) bb=some o6) b0.Activities.length (0:Int) ⟨Int.le_refl _,by simp,h⟩ ?_
  clear h
  rintro JJ12 n12 z13 hag12 ⟨hza12,hzb12,h⟩
  refine Run.sr (X.bi ?_)
  refine X.nil (Run.seq ?_)
  refine R.cd (fun hc16=>?_) (fun hc16=>?_)
  ·obtain ⟨x14,xs15,hd12,hx12,hds12,hlt12⟩:=B0c hza12 hc16
   rw [hd12] at h
   rw [C0v] at h
   refine Run.skip (Run.seq (Run.block (Run.sr (X.mv ?_))))
   refine X.an ?_
   refine Run.seq ?_
   obtain ⟨v17,hv17,h⟩:=bindE h
   obtain ⟨v18,hv18,h⟩:=bindE h
   obtain ⟨e19,he19,h2⟩:=bindE h
   refine R.drawG [(2,.lptr 128 0),(3,.lptr 192 0),(29,int (b0.Activities.length:Int)),(30,int z13),(56,bool e19)] [(128,.blk true [int b0.Deadline,.slice (b0.Activities.map A0b),.slice (b0.Links.map A0o),.slice (b0.Resources.map A0c),.slice (b0.Stocks.map int)]),(192,.blk true [.slice (b1.Starts.map int),.slice (b1.Modes.map int)])] (B0r [(1,([192],[],[],[])),(9,([192],[],[],[])),(14,([128],[],[],[]))]) mixed (by kernel_rfl) (by kernel_rfl) ?_ ?_
   ·clear h;have h:=he19;clear he19 h2
    refine X.fl F0b ?_
    refine X.ld shp26 ?_
    refine X.mv ?_
    refine X.ix elt26 (A0d hv17).1 (A0e int hv17) ?_
    refine X.lc shp3 ?_
    refine X.cp (E0t _ _ hv18) ?_
    refine X.un (h:=?_)
    refine X.mv ?_
    refine X.iG (fun hb20=>?_) (fun hb20=>?_)
    ·replace h:=condF hb20 h
     refine X.fl N0f ?_
     refine X.gy (X.ld shp26 ?_)
     refine X.gy (X.mv ?_)
     refine X.gy ?_
     obtain ⟨v21,hv21,h⟩:=bindE h
     refine X.ix elt26 (A0d hv21).1 (A0e int hv21) ?_
     refine X.gy (X.lc shp3 ?_)
     refine X.gy (X.fl B0z ?_)
     refine X.gy (X.ld shp23 ?_)
     refine X.gy (X.mv ?_)
     refine X.gy (X.ix elt23 (A0d hx12).1 (A0e A0b hx12) ?_)
     refine X.gy (X.fieldAddr_c H0v (by rfl) (by rfl) ?_)
     refine X.gy (X.lc shp48 ?_)
     refine X.gy (X.ls elt48 ?_)
     refine X.gy (X.subW (h:=?_))
     refine X.gy ?_
     obtain ⟨v22,hv22,h⟩:=bindE h
     refine X.cp (B0m _ _ _ _ hv22) ?_
     refine X.gy (X.un (h:=?_))
     refine X.pF ?_
     cases h
     exact X.eG
    replace h:=condT hb20 h
    refine X.gn (X.gn (X.gn (X.gn (X.gn (X.gn (X.gn (X.gn ?_)))))))
    refine X.gn (X.gn (X.gn (X.gn (X.gn (X.gn (X.pT ?_))))))
    cases h
    exact X.eG
   replace h:=h2;clear h2
   refine R.cd (fun hc23=>?_) (fun hc23=>?_)
   ·replace h:=condT hc23 h
    refine Run.sr (X.an ?_)
    cases h
    have h:=hup7
    replace h:=elimR h
    cases h
    refine R.f1 Tryz.results37 ?_
    rfl
   replace h:=condF hc23 h
   refine Run.skip (Run.blk (Run.reg (X.ad ?_)))
   refine X.mn ?_
   exact R.ag hag12 (n12 - 1) (z13+1) (R.n3 (by first | (rw [hds12];exact h) | (dsimp only;rw [hds12];exact h)))
  rw [A0w hza12 hc16] at h
  rw [C0v] at h
  refine Run.exit (by rfl) ?_
  exact R.mt hmeet8 () (Option.some.inj h)
 rintro p24 rfl
 replace h:=elimL h
 refine Run.sr (X.an ?_)
 cases h
 refine R.f1 Tryz.results37 ?_
 rfl
theorem F0x (b0:A0a)(b1:A0l)(b2:Int)(r:TMode)(h:D0t b0 b1 b2=some r):PC Tryz.prog 71 [A0u b0,D0j b1,int b2] (B0o r):=by
 unfold D0t at h
 refine PC.start Tryz.func71 Tryz.ntmps71 rfl ok71 rfl ?_
 refine Run.sr (X.bx ?_)
 refine X.bx ?_
 refine X.alloc zer47 (h:=?_)
 refine X.nil (Run.seq (Run.draw (B0r [(1,([192],[],[],[])),(7,([256],[],[],[])),(13,([384],[384],[],[]))]) mixed (by kernel_rfl) (by kernel_rfl) ?_))
 refine X.fl B0z ?_
 refine X.ld shp23 ?_
 refine X.mv ?_
 obtain ⟨v1,hv1,h⟩:=bindE h
 refine X.ix elt23 (A0d hv1).1 (A0e A0b hv1) ?_
 refine X.fieldAddr_c H0v (by rfl) (by rfl) ?_
 refine X.lc shp48 ?_
 refine X.fl N0f ?_
 refine X.ld shp26 ?_
 refine X.mv ?_
 obtain ⟨v2,hv2,h⟩:=bindE h
 refine X.ix elt26 (A0d hv2).1 (A0e int hv2) ?_
 refine X.lc shp3 ?_
 obtain ⟨v3,hv3,h⟩:=bindE h
 refine X.ix elt48 (A0d hv3).1 (A0e B0o hv3) ?_
 refine X.lc shp47 ?_
 refine X.sl shp47 ?_
 refine X.nil ?_
 cases h
 refine R.finC Tryz.results71 shp47 (by rfl) (by rfl) (by rfl) (by rfl) (by repeat (first | trivial | refine ⟨by first | rfl | simp [setL],?_⟩)) ?_
 rfl
theorem F0d (b0:A0a)(b1:A0l)(b2:Int)(r:Int)(h:D0r b0 b1 b2=some r):PC Tryz.prog 44 [A0u b0,D0j b1,int b2] (int r):=by
 unfold D0r at h
 refine PC.start Tryz.func44 Tryz.ntmps44 rfl ok44 rfl ?_
 refine Run.sr (X.bx ?_)
 refine X.bx ?_
 refine X.an ?_
 refine Run.seq (Run.draw (B0r [(1,([256],[],[],[])),(5,([192],[],[],[])),(6,([256],[],[],[]))]) mixed (by kernel_rfl) (by kernel_rfl) ?_)
 refine X.fl F0b ?_
 refine X.ld shp26 ?_
 refine X.mv ?_
 obtain ⟨v1,hv1,h⟩:=bindE h
 refine X.ix elt26 (A0d hv1).1 (A0e int hv1) ?_
 refine X.lc shp3 ?_
 refine X.ld shp28 ?_
 refine X.ld shp35 ?_
 refine X.mv ?_
 obtain ⟨v2,hv2,h⟩:=bindE h
 refine X.callA (F0x _ _ _ _ hv2) (by rfl) (by rfl) (by rfl) (by trivial) (by rfl) (by rfl) (by rfl) (by rfl) (by rfl) (by rfl) ?_
 refine X.fldV D1s shp3 (by rfl) (by rfl) (by rfl) ?_
 refine X.addW (h:=?_)
 refine X.an ?_
 cases h
 refine R.f1 Tryz.results44 ?_
 rfl
theorem N0y (b0:Int)(c1:A0l)(c2:Int)(c3:A0a)(r:Bool)(h:D0h b0 c1 c2 c3=some r):PC Tryz.prog 75 [int b0,.cptr (D0j c1:PV).cells 0,.cptr (int c2:PV).cells 0,.cptr (A0u c3:PV).cells 0] (bool r):=by
 unfold D0h at h
 refine PC.start Tryz.func75 Tryz.ntmps75 rfl ok75 rfl ?_
 refine Run.sr (X.an ?_)
 refine Run.seq ?_
 obtain ⟨v1,hv1,h⟩:=bindE h
 obtain ⟨e2,he2,h2⟩:=bindE h
 refine R.drawG [(5,bool e2)] [] (B0r []) mixed (by kernel_rfl) (by kernel_rfl) ?_ ?_
 ·clear h;have h:=he2;clear he2 h2
  refine X.fieldAddr_c F0b (by rfl) (by rfl) ?_
  refine X.lc shp26 ?_
  refine X.mv ?_
  refine X.ix elt26 (A0d hv1).1 (A0e int hv1) ?_
  refine X.lc shp3 ?_
  refine X.lc shp3 ?_
  refine X.bi ?_
  refine X.mv ?_
  refine X.iG (fun hb3=>?_) (fun hb3=>?_)
  ·replace h:=condT hb3 h
   refine X.lc shp28 ?_
   refine X.gy (X.lc shp35 ?_)
   refine X.gy (X.mv ?_)
   refine X.gy ?_
   obtain ⟨v4,hv4,h⟩:=bindE h
   refine X.cp (F0d _ _ _ _ hv4) ?_
   refine X.gy (X.lc shp3 ?_)
   refine X.gy (X.bi ?_)
   refine X.pT ?_
   refine X.as ?_
   cases h
   exact X.eG
  replace h:=condF hb3 h
  refine X.gn (X.gn (X.gn (X.gn (X.gn (X.pF ?_)))))
  refine X.as ?_
  cases h
  exact X.eG
 replace h:=h2;clear h2
 cases h
 refine R.f1 Tryz.results75 ?_
 rfl
theorem C1e (b0:List Int)(g1:Int→Option Bool)(g1id:Nat)(g1c:List PV)(hg1:∀(x0:Int) v,g1 x0=some v→PC Tryz.prog g1id ([int x0] ++ g1c) (bool v))(r:List Int)(h:A1k b0 g1=some r):PC Tryz.prog 73 [.slice (b0.map int),.fn g1id g1c] (.fresh false 3 1 (r.map int)):=by
 unfold A1k at h
 refine PC.start Tryz.func73 Tryz.ntmps73 rfl ok73 rfl ?_
 refine Run.sr (X.an ?_)
 refine Run.sr ?_
 refine X.buildSlice false elt26 zer3 (by rfl) (by rfl) (by rfl) (by rfl) (by rfl) (by rfl) (by repeat (first | trivial | refine ⟨by first | rfl | simp [setL],?_⟩)) (A0j (by rfl)) (by rfl) (by rfl) (by rfl) ?_
 refine X.an ?_
 refine Run.seq (Run.sr (X.mv ?_))
 refine X.ls elt26 ?_
 refine X.mn ?_
 obtain ⟨o1,ho1,h⟩:=bindE h
 refine R.join2 (β:=(List Int)) [] [] (fun p16 S=>(5,.own 512 (p16.map int).length)::S) (fun p16 M=>(512,.obj false 3 1 (p16.map int))::M) (fun p16=>p16=o1) ?_ ?_
 ·intro JJ4 hmeet3
  have hup2:=h;clear h;have h:=ho1;clear ho1
  refine Run.block ?_
  refine R.bndS (t:=0) (by rfl) (fun hbd7=>?_)
  replace hbd7:b0.length≤9223372036854775807:=by first | (rw [List.length_map] at hbd7;exact hbd7) | simp
  refine R.lp (β:=Int×(List Int)) [(1,.fn g1id g1c),(9,.slice (b0.map int)),(10,int (b0.length:Int))] [] (fun bb S=>(5,.own 512 (bb.2.map int).length)::(11,int bb.1)::S) (fun bb M=>(512,.obj false 3 1 (bb.2.map int))::M) (fun n bb=>0≤bb.1∧bb.1+n=(b0.length:Int)∧H0o g1 (b0.drop bb.1.toNat) bb.1 bb.2=some o1) b0.length (0,([]:List Int)) ⟨Int.le_refl _,by simp,h⟩ ?_
  clear h
  rintro JJ7 n7 ⟨z8,a9⟩ hag7 ⟨hza7,hzb7,h⟩
  dsimp only at hza7 hzb7 h
  refine Run.sr (X.bi ?_)
  refine X.nil (Run.seq ?_)
  refine R.cd (fun hc12=>?_) (fun hc12=>?_)
  ·obtain ⟨x10,xs11,hd7,hx7,hds7,hlt7⟩:=B0c hza7 hc12
   rw [hd7] at h
   rw [H0o] at h
   refine Run.skip (Run.seq (Run.block (Run.sr (X.ix elt26 (A0d hx7).1 (A0e int hx7) ?_))))
   refine X.lc shp3 ?_
   refine X.an ?_
   refine Run.sr (X.mv ?_)
   refine X.mv ?_
   obtain ⟨v13,hv13,h⟩:=bindE h
   refine X.cp (hg1 _ _ hv13) ?_
   refine X.nil ?_
   refine R.cd (fun hc14=>?_) (fun hc14=>?_)
   ·replace h:=condT hc14 h
    refine Run.reg (X.mv ?_)
    refine X.mv ?_
    refine X.buildSlice false elt26 zer3 (by rfl) (by rfl) (by rfl) (by rfl) (by rfl) (by rfl) (by repeat (first | trivial | refine ⟨by first | rfl | simp [setL],?_⟩)) (A0j (by rfl)) (by rfl) (by rfl) (by rfl) ?_
    obtain ⟨v15,hv15,h⟩:=bindE h
    refine X.append elt26 zer3 (by rfl) (by rfl) (by first | rfl | simp [setL] | omega) (by rfl) (.own _ _ _ _ _ _ (A0h (by rfl)) (by first | rfl | simp [setL] | omega)) (A0j (by rfl)) (D0n int hv15) (D0o int hv15) (by rfl) (by rfl) (by rfl) (by rfl) ?_
    refine X.an ?_
    refine Run.blk (Run.reg (X.ad ?_))
    refine X.mn ?_
    exact R.ag hag7 (n7 - 1) (z8+1,v15) (R.n3 (by first | (rw [hds7];exact h) | (dsimp only;rw [hds7];exact h)))
   replace h:=condF hc14 h
   refine Run.skip (Run.blk (Run.reg (X.ad ?_)))
   refine X.mn ?_
   exact R.ag hag7 (n7 - 1) (z8+1,a9) (R.n3 (by first | (rw [hds7];exact h) | (dsimp only;rw [hds7];exact h)))
  rw [A0w hza7 hc12] at h
  rw [H0o] at h
  refine Run.exit (by rfl) ?_
  exact R.mt hmeet3 a9 (Option.some.inj h)
 rintro p16 rfl
 refine Run.sr (X.mv ?_)
 refine X.an ?_
 cases h
 refine R.fin1o Tryz.results73 (by rfl) (by rfl) (by first | rfl | simp [setL] | omega) ?_
 rfl
theorem L0c (b0:A0a)(b1:A0l)(b2:Int)(r:List Int)(h:E0o b0 b1 b2=some r):PC Tryz.prog 42 [A0u b0,D0j b1,int b2] (.fresh false 3 1 (r.map int)):=by
 unfold E0o at h
 refine PC.start Tryz.func42 Tryz.ntmps42 rfl ok42 rfl ?_
 refine Run.sr (X.bx ?_)
 refine X.bx ?_
 refine X.bx ?_
 refine X.an ?_
 refine Run.seq ?_
 refine R.pubBlk (n:=256) (by rfl) (by rfl) (by repeat (first | trivial | refine ⟨by first | rfl | simp [setL],?_⟩)) ?_
 refine R.pubBlk (n:=320) (by rfl) (by rfl) (by repeat (first | trivial | refine ⟨by first | rfl | simp [setL],?_⟩)) ?_
 refine R.pubBlk (n:=192) (by rfl) (by rfl) (by repeat (first | trivial | refine ⟨by first | rfl | simp [setL],?_⟩)) ?_
 refine Run.reg (X.fl B0z ?_)
 refine X.ld shp23 ?_
 refine X.ls elt23 ?_
 obtain ⟨v1,hv1,h⟩:=bindE h
 refine X.callF (R0t _ _ hv1) (by rfl) (by rfl) (by rfl) (by trivial) (by rfl) (by rfl) (by rfl) (by rfl) ?_
 refine X.makeFunc (by rfl) (by rfl) (by repeat (first | trivial | refine ⟨by first | rfl | simp [setL],?_⟩)) (by rfl) (by rfl) ?_
 obtain ⟨v2,hv2,h⟩:=bindE h
 refine X.callF (C1e _ (fun x0=>D0h x0 b1 b2 b0) _ _ (fun x0 v hv=>N0y _ _ _ _ _ hv) _ hv2) (by rfl) (by rfl) (by rfl) (by repeat (first | trivial | refine ⟨by first | rfl | simp [setL],?_⟩)) (by rfl) (by rfl) (by rfl) (by rfl) ?_
 refine X.an ?_
 cases h
 refine R.fin1o Tryz.results42 (by rfl) (by rfl) (by first | rfl | simp [setL] | omega) ?_
 rfl
theorem J0u (b0:A0a)(b1:A0l)(b2:Int)(b3:Int)(r:Int)(h:E0w b0 b1 b2 b3=some r):PC Tryz.prog 38 [A0u b0,D0j b1,int b2,int b3] (int r):=by
 unfold E0w at h
 refine PC.start Tryz.func38 Tryz.ntmps38 rfl ok38 rfl ?_
 refine Run.sr (X.bx ?_)
 refine X.bx ?_
 refine X.an ?_
 refine Run.sr (X.an ?_)
 refine Run.seq (Run.sr (X.ld shp28 ?_))
 refine X.ld shp35 ?_
 refine X.mv ?_
 obtain ⟨v1,hv1,h⟩:=bindE h
 refine X.callF (L0c _ _ _ _ hv1) (by rfl) (by rfl) (by rfl) (by trivial) (by rfl) (by rfl) (by rfl) (by rfl) ?_
 refine X.len_o elt26 (by rfl) (by rfl) (by first | rfl | simp [setL] | omega) (by first | exact List.length_map .. | rfl) (by rfl) (by rfl) ?_
 refine X.mn ?_
 obtain ⟨o2,ho2,h⟩:=bindE h
 refine R.join2 (β:=Int) [] [] (fun p16 S=>(9,int p16)::S) (fun p16 M=>M) (fun p16=>p16=o2) ?_ ?_
 ·intro JJ5 hmeet4
  have hup3:=h;clear h;have h:=ho2;clear ho2
  refine Run.block ?_
  refine R.bndO (n:=960) (by rfl) (fun hbd8=>?_)
  replace hbd8:v1.length≤9223372036854775807:=by first | (rw [List.length_map] at hbd8;exact hbd8) | simp
  refine R.lp (β:=Int×Int) [(2,int b2),(4,.lptr 256 0),(5,.lptr 320 0),(16,int (v1.length:Int))] [(256,.blk true [int b0.Deadline,.slice (b0.Activities.map A0b),.slice (b0.Links.map A0o),.slice (b0.Resources.map A0c),.slice (b0.Stocks.map int)]),(320,.blk true [.slice (b1.Starts.map int),.slice (b1.Modes.map int)]),(960,.obj false 3 1 (v1.map int))] (fun bb S=>(9,int bb.2)::(15,.own 960 (v1.map int).length)::(17,int bb.1)::S) (fun bb M=>M) (fun n bb=>0≤bb.1∧bb.1+n=(v1.length:Int)∧C0o b0 b1 b2 (v1.drop bb.1.toNat) bb.1 bb.2=some o2) v1.length (0,0) ⟨Int.le_refl _,by simp,h⟩ ?_
  clear h
  rintro JJ8 n8 ⟨z9,a10⟩ hag8 ⟨hza8,hzb8,h⟩
  dsimp only at hza8 hzb8 h
  refine Run.sr (X.bi ?_)
  refine X.nil (Run.seq ?_)
  refine R.cd (fun hc13=>?_) (fun hc13=>?_)
  ·obtain ⟨x11,xs12,hd8,hx8,hds8,hlt8⟩:=B0c hza8 hc13
   rw [hd8] at h
   rw [C0o] at h
   refine Run.skip (Run.seq (Run.block (Run.sr (X.index_o elt26 (by rfl) (by rfl) (by first | rfl | simp [setL] | omega) (by rfl) (A0d hx8).1 (A0e int hx8) (by rfl) (by rfl) (by rfl) ?_))))
   refine X.lc shp3 ?_
   refine X.an ?_
   refine Run.reg (X.mv ?_)
   refine X.ld shp28 ?_
   refine X.ld shp35 ?_
   refine X.mv ?_
   obtain ⟨v14,hv14,h⟩:=bindE h
   refine X.callA (F0x _ _ _ _ hv14) (by rfl) (by rfl) (by rfl) (by trivial) (by rfl) (by rfl) (by rfl) (by rfl) (by rfl) (by rfl) ?_
   refine X.fldV X0t shp26 (by rfl) (by rfl) (by rfl) ?_
   refine X.mv ?_
   obtain ⟨v15,hv15,h⟩:=bindE h
   refine X.ix elt26 (A0d hv15).1 (A0e int hv15) ?_
   refine X.lc shp3 ?_
   refine X.addW (h:=?_)
   refine X.an ?_
   refine Run.blk (Run.reg (X.ad ?_))
   refine X.mn ?_
   exact R.ag hag8 (n8 - 1) (z9+1,(W (a10+v15))) (R.n3 (by first | (rw [hds8];exact h) | (dsimp only;rw [hds8];exact h)))
  rw [A0w hza8 hc13] at h
  rw [C0o] at h
  refine Run.exit (by rfl) ?_
  exact R.mt hmeet4 a10 (Option.some.inj h)
 rintro p16 rfl
 refine Run.sr (X.mv ?_)
 refine X.an ?_
 cases h
 refine R.f1 Tryz.results38 ?_
 rfl
theorem T0x (b0:A0a)(b1:A0l)(b2:Int)(b3:Int)(r:Int)(h:M0z b0 b1 b2 b3=some r):PC Tryz.prog 10 [A0u b0,D0j b1,int b2,int b3] (int r):=by
 unfold M0z at h
 refine PC.start Tryz.func10 Tryz.ntmps10 rfl ok10 rfl ?_
 refine Run.sr (X.bx ?_)
 refine X.bx ?_
 refine X.an ?_
 refine Run.seq (Run.seq ?_)
 obtain ⟨v1,hv1,h⟩:=bindE h
 obtain ⟨e2,he2,h2⟩:=bindE h
 refine R.regG [(2,int b2),(3,int b3),(4,.lptr 256 0),(5,.lptr 320 0),(18,bool e2)] [(256,.blk true [int b0.Deadline,.slice (b0.Activities.map A0b),.slice (b0.Links.map A0o),.slice (b0.Resources.map A0c),.slice (b0.Stocks.map int)]),(320,.blk true [.slice (b1.Starts.map int),.slice (b1.Modes.map int)])] ?_ ?_
 ·clear h;have h:=he2;clear he2 h2
  refine X.ld shp28 ?_
  refine X.ld shp35 ?_
  refine X.cp (F0z _ _ _ hv1) ?_
  refine X.un (h:=?_)
  refine X.mv ?_
  refine X.iG (fun hb3=>?_) (fun hb3=>?_)
  ·replace h:=condF hb3 h
   refine X.ld shp28 ?_
   refine X.gy (X.mv ?_)
   refine X.gy ?_
   obtain ⟨v4,hv4,h⟩:=bindE h
   refine X.cp (A0y _ _ _ hv4) ?_
   refine X.gy (X.un (h:=?_))
   refine X.pF ?_
   cases h
   exact X.eG
  replace h:=condT hb3 h
  refine X.gn (X.gn (X.gn (X.pT ?_)))
  cases h
  exact X.eG
 replace h:=h2;clear h2
 refine R.cd (fun hc5=>?_) (fun hc5=>?_)
 ·replace h:=condT hc5 h
  refine Run.sr (X.an ?_)
  cases h
  refine R.f1 Tryz.results10 ?_
  rfl
 replace h:=condF hc5 h
 refine Run.skip (Run.sr (X.ld shp28 ?_))
 refine X.ld shp35 ?_
 refine X.mv ?_
 refine X.mv ?_
 obtain ⟨v6,hv6,h⟩:=bindE h
 refine X.cp (J0u _ _ _ _ _ hv6) ?_
 refine X.an ?_
 cases h
 refine R.f1 Tryz.results10 ?_
 rfl
theorem M0c (b0:List TStep)(b1:Int)(r:Int)(h:G0d b0 b1=some r):PC Tryz.prog 46 [.slice (b0.map C0p),int b1] (int r):=by
 unfold G0d at h
 refine PC.start Tryz.func46 Tryz.ntmps46 rfl ok46 rfl ?_
 refine Run.sr (X.an ?_)
 refine Run.sr (X.an ?_)
 refine Run.seq (Run.sr (X.mv ?_))
 refine X.ls elt62 ?_
 refine X.mn ?_
 obtain ⟨o1,ho1,h⟩:=bindE h
 refine R.join2 (β:=Int) [] [] (fun p14 S=>(5,int p14)::S) (fun p14 M=>M) (fun p14=>p14=o1) ?_ ?_
 ·intro JJ4 hmeet3
  have hup2:=h;clear h;have h:=ho1;clear ho1
  refine Run.block ?_
  refine R.bndS (t:=0) (by rfl) (fun hbd7=>?_)
  replace hbd7:b0.length≤9223372036854775807:=by first | (rw [List.length_map] at hbd7;exact hbd7) | simp
  refine R.lp (β:=Int×Int) [(1,int b1),(8,.slice (b0.map C0p)),(9,int (b0.length:Int))] [] (fun bb S=>(5,int bb.2)::(10,int bb.1)::S) (fun bb M=>M) (fun n bb=>0≤bb.1∧bb.1+n=(b0.length:Int)∧D0w b1 (b0.drop bb.1.toNat) bb.1 bb.2=some o1) b0.length (0,0) ⟨Int.le_refl _,by simp,h⟩ ?_
  clear h
  rintro JJ7 n7 ⟨z8,a9⟩ hag7 ⟨hza7,hzb7,h⟩
  dsimp only at hza7 hzb7 h
  refine Run.sr (X.bi ?_)
  refine X.nil (Run.seq ?_)
  refine R.cd (fun hc12=>?_) (fun hc12=>?_)
  ·obtain ⟨x10,xs11,hd7,hx7,hds7,hlt7⟩:=B0c hza7 hc12
   rw [hd7] at h
   rw [D0w] at h
   refine Run.skip (Run.seq (Run.block (Run.sr (X.ix elt62 (A0d hx7).1 (A0e C0p hx7) ?_))))
   refine X.lc W0y ?_
   refine X.alloc T0r (h:=?_)
   refine X.sl W0y ?_
   refine X.nil (Run.sr (X.fl H0s ?_))
   refine X.ld shp3 ?_
   refine X.mv ?_
   refine X.bi ?_
   refine X.nil ?_
   refine R.cd (fun hc13=>?_) (fun hc13=>?_)
   ·replace h:=condT hc13 h
    refine Run.reg (X.fl X0u ?_)
    refine X.ld shp3 ?_
    refine X.an ?_
    refine Run.blk (Run.reg (X.ad ?_))
    refine X.mn ?_
    exact R.ag hag7 (n7 - 1) (z8+1,x10.Capacity) (R.n3 (by first | (rw [hds7];exact h) | (dsimp only;rw [hds7];exact h)))
   replace h:=condF hc13 h
   refine Run.skip (Run.blk (Run.reg (X.ad ?_)))
   refine X.mn ?_
   exact R.ag hag7 (n7 - 1) (z8+1,a9) (R.n3 (by first | (rw [hds7];exact h) | (dsimp only;rw [hds7];exact h)))
  rw [A0w hza7 hc12] at h
  rw [D0w] at h
  refine Run.exit (by rfl) ?_
  exact R.mt hmeet3 a9 (Option.some.inj h)
 rintro p14 rfl
 refine Run.sr (X.mv ?_)
 refine X.an ?_
 cases h
 refine R.f1 Tryz.results46 ?_
 rfl
theorem Q0w (b0:A0a)(b1:Int)(r:Bool)(h:N0x b0 b1=some r):PC Tryz.prog 81 [A0u b0,int b1] (bool r):=by
 unfold N0x at h
 refine PC.start Tryz.func81 Tryz.ntmps81 rfl ok81 rfl ?_
 refine Run.sr (X.bx ?_)
 refine X.an ?_
 refine Run.seq ?_
 obtain ⟨v1,hv1,h⟩:=bindE h
 obtain ⟨e2,he2,h2⟩:=bindE h
 refine R.regG [(4,bool e2)] [] ?_ ?_
 ·clear h;have h:=he2;clear he2 h2
  refine X.ld shp28 ?_
  refine X.mv ?_
  refine X.cp (A0y _ _ _ hv1) ?_
  refine X.mv ?_
  refine X.iG (fun hb3=>?_) (fun hb3=>?_)
  ·replace h:=condT hb3 h
   refine X.fl G0s ?_
   refine X.gy (X.ld shp25 ?_)
   refine X.gy (X.mv ?_)
   refine X.gy ?_
   obtain ⟨v4,hv4,h⟩:=bindE h
   refine X.ix elt25 (A0d hv4).1 (A0e A0c hv4) ?_
   refine X.gy (X.fieldAddr_c N0u (by rfl) (by rfl) ?_)
   refine X.gy (X.lc shp30 ?_)
   refine X.gy (X.ls elt30 ?_)
   refine X.gy (X.bi ?_)
   refine X.pT ?_
   refine X.as ?_
   cases h
   exact X.eG
  replace h:=condF hb3 h
  refine X.gn (X.gn (X.gn (X.gn (X.gn (X.gn (X.gn (X.pF ?_)))))))
  refine X.as ?_
  cases h
  exact X.eG
 replace h:=h2;clear h2
 cases h
 refine R.f1 Tryz.results81 ?_
 rfl
theorem K0w (b0:A0a)(b1:Int)(r:Bool)(h:H0b b0 b1=some r):PC Tryz.prog 82 [A0u b0,int b1] (bool r):=by
 unfold H0b at h
 refine PC.start Tryz.func82 Tryz.ntmps82 rfl ok82 rfl ?_
 refine Run.sr (X.bx ?_)
 refine X.an ?_
 refine Run.sr (X.mv ?_)
 refine X.fl M0q ?_
 refine X.ld shp26 ?_
 refine X.ls elt26 ?_
 refine X.subW (h:=?_)
 obtain ⟨v1,hv1,h⟩:=bindE h
 refine X.cp (B0m _ _ _ _ hv1) ?_
 refine X.an ?_
 cases h
 refine R.f1 Tryz.results82 ?_
 rfl
theorem Z0s (b0:A0a)(b1:TRule)(r:Bool)(h:N0q b0 b1=some r):PC Tryz.prog 47 [A0u b0,B1x b1] (bool r):=by
 unfold N0q at h
 refine PC.start Tryz.func47 Tryz.ntmps47 rfl ok47 rfl ?_
 refine Run.sr (X.bx ?_)
 refine X.bx ?_
 refine X.an ?_
 refine Run.seq (Run.sr (X.ld shp28 ?_))
 obtain ⟨v1,hv1,h⟩:=bindE h
 refine X.cp (H0p _ _ hv1) ?_
 refine X.un (h:=?_)
 refine X.nil ?_
 refine R.cd (fun hc2=>?_) (fun hc2=>?_)
 ·replace h:=condT hc2 h
  refine Run.sr (X.an ?_)
  cases h
  refine R.f1 Tryz.results47 ?_
  rfl
 replace h:=condF hc2 h
 refine Run.skip (Run.seq (Run.sr (X.fl B1u ?_)))
 refine X.ld shp3 ?_
 refine X.nil (Run.block (Run.sr (X.bi ?_)))
 refine X.an ?_
 refine R.cd (fun hc3=>?_) (fun hc3=>?_)
 ·replace h:=condT hc3 h
  refine Run.seq ?_
  obtain ⟨v4,hv4,h⟩:=bindE h
  obtain ⟨e5,he5,h2⟩:=bindE h
  refine R.regG [(4,bool e5)] [] ?_ ?_
  ·clear h;have h:=he5;clear he5 h2
   refine X.fl H0y ?_
   refine X.ld shp3 ?_
   refine X.fl P0n ?_
   refine X.ld shp24 ?_
   refine X.ls elt24 ?_
   refine X.subW (h:=?_)
   refine X.cp (B0m _ _ _ _ hv4) ?_
   refine X.mv ?_
   refine X.iG (fun hb6=>?_) (fun hb6=>?_)
   ·replace h:=condT hb6 h
    refine X.fl K0f ?_
    refine X.gy (X.ld shp3 ?_)
    refine X.gy (X.bi ?_)
    refine X.pT ?_
    refine X.mv ?_
    refine X.iG (fun hb7=>?_) (fun hb7=>?_)
    ·replace h:=condT hb7 h
     refine X.fl L0v ?_
     refine X.gy (X.ld shp3 ?_)
     refine X.gy (X.bi ?_)
     refine X.pT ?_
     refine X.as ?_
     cases h
     exact X.eG
    replace h:=condF hb7 h
    refine X.gn (X.gn (X.pF ?_))
    refine X.as ?_
    cases h
    exact X.eG
   replace h:=condF hb6 h
   refine X.gn (X.gn (X.pF ?_))
   refine X.mv ?_
   refine X.gn (X.gn (X.gn (X.pF ?_)))
   refine X.as ?_
   cases h
   exact X.eG
  replace h:=h2;clear h2
  cases h
  refine R.f1 Tryz.results47 ?_
  rfl
 replace h:=condF hc3 h
 refine Run.sr (X.bi ?_)
 refine X.an ?_
 refine R.cd (fun hc8=>?_) (fun hc8=>?_)
 ·replace h:=condT hc8 h
  refine Run.seq ?_
  obtain ⟨v9,hv9,h⟩:=bindE h
  obtain ⟨e10,he10,h2⟩:=bindE h
  refine R.regG [(4,bool e10)] [] ?_ ?_
  ·clear h;have h:=he10;clear he10 h2
   refine X.ld shp28 ?_
   refine X.fl H0y ?_
   refine X.ld shp3 ?_
   refine X.cp (A0z _ _ _ hv9) ?_
   refine X.mv ?_
   refine X.iG (fun hb11=>?_) (fun hb11=>?_)
   ·replace h:=condT hb11 h
    refine X.fl K0f ?_
    refine X.gy (X.ld shp3 ?_)
    refine X.gy (X.bi ?_)
    refine X.pT ?_
    refine X.mv ?_
    refine X.iG (fun hb12=>?_) (fun hb12=>?_)
    ·replace h:=condT hb12 h
     refine X.fl L0v ?_
     refine X.gy (X.ld shp3 ?_)
     refine X.gy (X.bi ?_)
     refine X.pT ?_
     refine X.as ?_
     cases h
     exact X.eG
    replace h:=condF hb12 h
    refine X.gn (X.gn (X.pF ?_))
    refine X.as ?_
    cases h
    exact X.eG
   replace h:=condF hb11 h
   refine X.gn (X.gn (X.pF ?_))
   refine X.mv ?_
   refine X.gn (X.gn (X.gn (X.pF ?_)))
   refine X.as ?_
   cases h
   exact X.eG
  replace h:=h2;clear h2
  cases h
  refine R.f1 Tryz.results47 ?_
  rfl
 replace h:=condF hc8 h
 refine Run.sr (X.bi ?_)
 refine X.an ?_
 refine R.cd (fun hc13=>?_) (fun hc13=>?_)
 ·replace h:=condT hc13 h
  refine Run.seq ?_
  obtain ⟨v14,hv14,h⟩:=bindE h
  obtain ⟨e15,he15,h2⟩:=bindE h
  refine R.regG [(4,bool e15)] [] ?_ ?_
  ·clear h;have h:=he15;clear he15 h2
   refine X.ld shp28 ?_
   refine X.fl H0y ?_
   refine X.ld shp3 ?_
   refine X.cp (A0y _ _ _ hv14) ?_
   refine X.mv ?_
   refine X.iG (fun hb16=>?_) (fun hb16=>?_)
   ·replace h:=condT hb16 h
    refine X.fl K0f ?_
    refine X.gy (X.ld shp3 ?_)
    refine X.gy ?_
    obtain ⟨v17,hv17,h⟩:=bindE h
    refine X.cp (E0t _ _ hv17) ?_
    refine X.pT ?_
    refine X.mv ?_
    refine X.iG (fun hb18=>?_) (fun hb18=>?_)
    ·replace h:=condT hb18 h
     refine X.fl L0v ?_
     refine X.gy (X.ld shp3 ?_)
     refine X.gy (X.bi ?_)
     refine X.pT ?_
     refine X.as ?_
     cases h
     exact X.eG
    replace h:=condF hb18 h
    refine X.gn (X.gn (X.pF ?_))
    refine X.as ?_
    cases h
    exact X.eG
   replace h:=condF hb16 h
   refine X.gn (X.gn (X.pF ?_))
   refine X.mv ?_
   refine X.gn (X.gn (X.gn (X.pF ?_)))
   refine X.as ?_
   cases h
   exact X.eG
  replace h:=h2;clear h2
  cases h
  refine R.f1 Tryz.results47 ?_
  rfl
 replace h:=condF hc13 h
 refine Run.sr (X.bi ?_)
 refine X.an ?_
 refine R.cd (fun hc19=>?_) (fun hc19=>?_)
 ·replace h:=condT hc19 h
  refine Run.seq ?_
  obtain ⟨v20,hv20,h⟩:=bindE h
  obtain ⟨e21,he21,h2⟩:=bindE h
  refine R.regG [(4,bool e21)] [] ?_ ?_
  ·clear h;have h:=he21;clear he21 h2
   refine X.ld shp28 ?_
   refine X.fl H0y ?_
   refine X.ld shp3 ?_
   refine X.cp (A0y _ _ _ hv20) ?_
   refine X.mv ?_
   refine X.iG (fun hb22=>?_) (fun hb22=>?_)
   ·replace h:=condT hb22 h
    refine X.fl K0f ?_
    refine X.gy (X.ld shp3 ?_)
    refine X.gy ?_
    obtain ⟨v23,hv23,h⟩:=bindE h
    refine X.cp (E0t _ _ hv23) ?_
    refine X.pT ?_
    refine X.mv ?_
    refine X.iG (fun hb24=>?_) (fun hb24=>?_)
    ·replace h:=condT hb24 h
     refine X.fl L0v ?_
     refine X.gy (X.ld shp3 ?_)
     refine X.gy ?_
     obtain ⟨v25,hv25,h⟩:=bindE h
     refine X.cp (E0t _ _ hv25) ?_
     refine X.pT ?_
     refine X.mv ?_
     refine X.iG (fun hb26=>?_) (fun hb26=>?_)
     ·replace h:=condT hb26 h
      refine X.fl K0f ?_
      refine X.gy (X.ld shp3 ?_)
      refine X.gy (X.fl L0v ?_)
      refine X.gy (X.ld shp3 ?_)
      refine X.gy (X.bi ?_)
      refine X.pT ?_
      refine X.as ?_
      cases h
      exact X.eG
     replace h:=condF hb26 h
     refine X.gn (X.gn (X.gn (X.gn (X.pF ?_))))
     refine X.as ?_
     cases h
     exact X.eG
    replace h:=condF hb24 h
    refine X.gn (X.gn (X.pF ?_))
    refine X.mv ?_
    refine X.gn (X.gn (X.gn (X.gn (X.gn (X.pF ?_)))))
    refine X.as ?_
    cases h
    exact X.eG
   replace h:=condF hb22 h
   refine X.gn (X.gn (X.pF ?_))
   refine X.mv ?_
   refine X.gn (X.gn (X.gn (X.pF ?_)))
   refine X.mv ?_
   refine X.gn (X.gn (X.gn (X.gn (X.gn (X.pF ?_)))))
   refine X.as ?_
   cases h
   exact X.eG
  replace h:=h2;clear h2
  cases h
  refine R.f1 Tryz.results47 ?_
  rfl
 replace h:=condF hc19 h
 refine Run.sr (X.bi ?_)
 refine X.an ?_
 refine R.cd (fun hc27=>?_) (fun hc27=>?_)
 ·replace h:=condT hc27 h
  refine Run.seq ?_
  obtain ⟨v28,hv28,h⟩:=bindE h
  obtain ⟨e29,he29,h2⟩:=bindE h
  refine R.regG [(4,bool e29)] [] ?_ ?_
  ·clear h;have h:=he29;clear he29 h2
   refine X.ld shp28 ?_
   refine X.fl H0y ?_
   refine X.ld shp3 ?_
   refine X.cp (Q0w _ _ _ hv28) ?_
   refine X.mv ?_
   refine X.iG (fun hb30=>?_) (fun hb30=>?_)
   ·replace h:=condT hb30 h
    refine X.ld shp28 ?_
    refine X.gy (X.fl K0f ?_)
    refine X.gy (X.ld shp3 ?_)
    refine X.gy ?_
    obtain ⟨v31,hv31,h⟩:=bindE h
    refine X.cp (A0z _ _ _ hv31) ?_
    refine X.pT ?_
    refine X.mv ?_
    refine X.iG (fun hb32=>?_) (fun hb32=>?_)
    ·replace h:=condT hb32 h
     refine X.ld shp28 ?_
     refine X.gy (X.fl L0v ?_)
     refine X.gy (X.ld shp3 ?_)
     refine X.gy ?_
     obtain ⟨v33,hv33,h⟩:=bindE h
     refine X.cp (A0z _ _ _ hv33) ?_
     refine X.pT ?_
     refine X.mv ?_
     refine X.iG (fun hb34=>?_) (fun hb34=>?_)
     ·replace h:=condT hb34 h
      refine X.fl K0f ?_
      refine X.gy (X.ld shp3 ?_)
      refine X.gy (X.fl L0v ?_)
      refine X.gy (X.ld shp3 ?_)
      refine X.gy (X.bi ?_)
      refine X.pT ?_
      refine X.as ?_
      cases h
      exact X.eG
     replace h:=condF hb34 h
     refine X.gn (X.gn (X.gn (X.gn (X.pF ?_))))
     refine X.as ?_
     cases h
     exact X.eG
    replace h:=condF hb32 h
    refine X.gn (X.gn (X.gn (X.pF ?_)))
    refine X.mv ?_
    refine X.gn (X.gn (X.gn (X.gn (X.gn (X.pF ?_)))))
    refine X.as ?_
    cases h
    exact X.eG
   replace h:=condF hb30 h
   refine X.gn (X.gn (X.gn (X.pF ?_)))
   refine X.mv ?_
   refine X.gn (X.gn (X.gn (X.gn (X.pF ?_))))
   refine X.mv ?_
   refine X.gn (X.gn (X.gn (X.gn (X.gn (X.pF ?_)))))
   refine X.as ?_
   cases h
   exact X.eG
  replace h:=h2;clear h2
  cases h
  refine R.f1 Tryz.results47 ?_
  rfl
 replace h:=condF hc27 h
 refine Run.sr (X.bi ?_)
 refine X.an ?_
 refine R.cd (fun hc35=>?_) (fun hc35=>?_)
 ·replace h:=condT hc35 h
  refine Run.seq ?_
  obtain ⟨v36,hv36,h⟩:=bindE h
  obtain ⟨e37,he37,h2⟩:=bindE h
  refine R.regG [(4,bool e37)] [] ?_ ?_
  ·clear h;have h:=he37;clear he37 h2
   refine X.ld shp28 ?_
   refine X.fl H0y ?_
   refine X.ld shp3 ?_
   refine X.cp (K0w _ _ _ hv36) ?_
   refine X.mv ?_
   refine X.iG (fun hb38=>?_) (fun hb38=>?_)
   ·replace h:=condT hb38 h
    refine X.fl K0f ?_
    refine X.gy (X.ld shp3 ?_)
    refine X.gy (X.bi ?_)
    refine X.pT ?_
    refine X.mv ?_
    refine X.iG (fun hb39=>?_) (fun hb39=>?_)
    ·replace h:=condT hb39 h
     refine X.fl L0v ?_
     refine X.gy (X.ld shp3 ?_)
     refine X.gy (X.bi ?_)
     refine X.pT ?_
     refine X.as ?_
     cases h
     exact X.eG
    replace h:=condF hb39 h
    refine X.gn (X.gn (X.pF ?_))
    refine X.as ?_
    cases h
    exact X.eG
   replace h:=condF hb38 h
   refine X.gn (X.gn (X.pF ?_))
   refine X.mv ?_
   refine X.gn (X.gn (X.gn (X.pF ?_)))
   refine X.as ?_
   cases h
   exact X.eG
  replace h:=h2;clear h2
  cases h
  refine R.f1 Tryz.results47 ?_
  rfl
 replace h:=condF hc35 h
 refine Run.skip (Run.blk (Run.sr (X.an ?_)))
 cases h
 refine R.f1 Tryz.results47 ?_
 rfl
theorem P0j (b0:A0a)(b1:A0l)(b2:TLink)(r:Bool)(h:H0w b0 b1 b2=some r):PC Tryz.prog 83 [A0u b0,D0j b1,A0o b2] (bool r):=by
 unfold H0w at h
 refine PC.start Tryz.func83 Tryz.ntmps83 rfl ok83 rfl ?_
 refine Run.sr (X.bx ?_)
 refine X.bx ?_
 refine X.bx ?_
 refine X.an ?_
 refine Run.sr (X.fl F0b ?_)
 refine X.ld shp26 ?_
 refine X.fl N0r ?_
 refine X.ld shp3 ?_
 obtain ⟨v1,hv1,h⟩:=bindE h
 refine X.ix elt26 (A0d hv1).1 (A0e int hv1) ?_
 refine X.lc shp3 ?_
 refine X.an ?_
 refine Run.seq (Run.sr (X.fl D1n ?_))
 refine X.ld shp4 ?_
 refine X.nil ?_
 obtain ⟨o2,ho2,h⟩:=bindE h
 refine R.join2 (β:=Int) [(4,.lptr 256 0),(5,.lptr 320 0)] [(256,.blk true [.slice (b1.Starts.map int),.slice (b1.Modes.map int)]),(320,.blk true [int b2.From,int b2.To,bool b2.FromEnd,int b2.Lag])] (fun p8 S=>(7,int p8)::S) (fun p8 M=>M) (fun p8=>p8=o2) ?_ ?_
 ·intro JJ5 hmeet4
  have hup3:=h;clear h;have h:=ho2;clear ho2
  refine R.cd (fun hc6=>?_) (fun hc6=>?_)
  ·replace h:=condT hc6 h
   refine Run.reg (X.ld shp28 ?_)
   refine X.ld shp35 ?_
   refine X.fl N0r ?_
   refine X.ld shp3 ?_
   obtain ⟨v7,hv7,h⟩:=bindE h
   refine X.cp (F0d _ _ _ _ hv7) ?_
   refine X.an ?_
   exact R.mt hmeet4 v7 (Option.some.inj h)
  replace h:=condF hc6 h
  refine Run.skip ?_
  exact R.mt hmeet4 v1 (Option.some.inj h)
 rintro p8 rfl
 refine Run.seq (Run.draw (B0r [(1,([256],[],[],[])),(3,([320],[],[],[])),(8,([320],[],[],[]))]) mixed (by kernel_rfl) (by kernel_rfl) ?_)
 refine X.fl F0b ?_
 refine X.ld shp26 ?_
 refine X.fl Q0i ?_
 refine X.ld shp3 ?_
 obtain ⟨v9,hv9,h⟩:=bindE h
 refine X.ix elt26 (A0d hv9).1 (A0e int hv9) ?_
 refine X.lc shp3 ?_
 refine X.mv ?_
 refine X.fl X0r ?_
 refine X.ld shp3 ?_
 refine X.addW (h:=?_)
 refine X.bi ?_
 refine X.an ?_
 cases h
 refine R.f1 Tryz.results83 ?_
 rfl
theorem P0o (b0:A0a)(b1:A0l)(b2:Int)(b3:Int)(b4:Int)(r:Int)(h:F0j b0 b1 b2 b3 b4=some r):PC Tryz.prog 84 [A0u b0,D0j b1,int b2,int b3,int b4] (int r):=by
 unfold F0j at h
 refine PC.start Tryz.func84 Tryz.ntmps84 rfl ok84 rfl ?_
 refine Run.sr (X.bx ?_)
 refine X.bx ?_
 refine X.an ?_
 refine Run.sr (X.an ?_)
 refine Run.seq (Run.sr (X.mv ?_))
 refine X.an ?_
 obtain ⟨o1,ho1,h⟩:=bindE h
 refine R.join2 (β:=Int) [] [] (fun p12 S=>(11,int p12)::S) (fun p12 M=>M) (fun p12=>p12=o1) ?_ ?_
 ·intro JJ4 hmeet3
  have hup2:=h;clear h;have h:=ho1;clear ho1
  refine Run.block ?_
  refine R.lp (β:=Int×Int) [(2,int b2),(4,int b4),(5,.lptr 320 0),(6,.lptr 384 0)] [(320,.blk true [int b0.Deadline,.slice (b0.Activities.map A0b),.slice (b0.Links.map A0o),.slice (b0.Resources.map A0c),.slice (b0.Stocks.map int)]),(384,.blk true [.slice (b1.Starts.map int),.slice (b1.Modes.map int)])] (fun bb S=>(11,int bb.1)::(12,int bb.2)::S) (fun bb M=>M) (fun n bb=>B0p b0 b1 b2 b4 n bb.1 bb.2=some o1) F0 (0,b3) h ?_
  clear h
  rintro JJ4 n4 ⟨a6,a7⟩ hag4 h
  dsimp only at h
  obtain _ | n4:=n4
  ·exact absurd h (by simp [B0p])
  rw [B0p] at h
  refine Run.seq (Run.sr (X.mv ?_))
  refine X.mv ?_
  refine X.bi ?_
  refine X.nil ?_
  refine R.cd (fun hc10=>?_) (fun hc10=>?_)
  ·replace h:=condT hc10 h
   refine Run.skip (Run.seq (Run.block (Run.reg (X.mv ?_))))
   refine X.ld shp28 ?_
   refine X.ld shp35 ?_
   refine X.mv ?_
   refine X.mv ?_
   obtain ⟨v11,hv11,h⟩:=bindE h
   refine X.cp (J0u _ _ _ _ _ hv11) ?_
   refine X.addW (h:=?_)
   refine X.an ?_
   refine Run.blk (Run.reg (X.mv ?_))
   refine X.addW (h:=?_)
   refine X.an ?_
   exact hag4 n4 ((W (a6+v11)),(W (a7+1))) _ _ (by omega) h (by trivial) (by trivial) (by rfl) (by rfl)
  replace h:=condF hc10 h
  refine Run.exit (by rfl) ?_
  exact R.mt hmeet3 a6 (Option.some.inj h)
 rintro p12 rfl
 refine Run.sr (X.mv ?_)
 refine X.an ?_
 cases h
 refine R.f1 Tryz.results84 ?_
 rfl
theorem F0g (b0:List TStep)(b1:Int)(b2:Int)(r:Int)(h:D0f b0 b1 b2=some r):PC Tryz.prog 26 [.slice (b0.map C0p),int b1,int b2] (int r):=by
 unfold D0f at h
 refine PC.start Tryz.func26 Tryz.ntmps26 rfl ok26 rfl ?_
 refine Run.sr (X.an ?_)
 refine Run.seq (Run.seq ?_)
 obtain ⟨v1,hv1,h⟩:=bindE h
 obtain ⟨e2,he2,h2⟩:=bindE h
 refine R.regG [(0,.slice (b0.map C0p)),(1,int b1),(2,int b2),(21,bool e2)] [] ?_ ?_
 ·clear h;have h:=he2;clear he2 h2
  refine X.mv ?_
  refine X.cp (T0u _ _ hv1) ?_
  refine X.un (h:=?_)
  refine X.mv ?_
  refine X.iG (fun hb3=>?_) (fun hb3=>?_)
  ·replace h:=condF hb3 h
   refine X.mv ?_
   refine X.gy ?_
   obtain ⟨v4,hv4,h⟩:=bindE h
   refine X.cp (E0t _ _ hv4) ?_
   refine X.gy (X.un (h:=?_))
   refine X.pF ?_
   refine X.mv ?_
   refine X.iG (fun hb5=>?_) (fun hb5=>?_)
   ·replace h:=condF hb5 h
    refine X.mv ?_
    refine X.gy ?_
    obtain ⟨v6,hv6,h⟩:=bindE h
    refine X.cp (E0t _ _ hv6) ?_
    refine X.gy (X.un (h:=?_))
    refine X.pF ?_
    cases h
    exact X.eG
   replace h:=condT hb5 h
   refine X.gn (X.gn (X.pT ?_))
   cases h
   exact X.eG
  replace h:=condT hb3 h
  refine X.gn (X.gn (X.pT ?_))
  refine X.mv ?_
  refine X.gn (X.gn (X.gn (X.pT ?_)))
  cases h
  exact X.eG
 replace h:=h2;clear h2
 refine R.cd (fun hc7=>?_) (fun hc7=>?_)
 ·replace h:=condT hc7 h
  refine Run.sr (X.an ?_)
  cases h
  refine R.f1 Tryz.results26 ?_
  rfl
 replace h:=condF hc7 h
 refine Run.skip (Run.sr (X.an ?_))
 refine Run.seq (Run.sr (X.mv ?_))
 refine X.an ?_
 obtain ⟨o8,ho8,h⟩:=bindE h
 refine R.join2 (β:=Int) [] [] (fun p19 S=>(7,int p19)::S) (fun p19 M=>M) (fun p19=>p19=o8) ?_ ?_
 ·intro JJ11 hmeet10
  have hup9:=h;clear h;have h:=ho8;clear ho8
  refine Run.block ?_
  refine R.lp (β:=Int×Int) [(0,.slice (b0.map C0p)),(2,int b2)] [] (fun bb S=>(7,int bb.1)::(8,int bb.2)::S) (fun bb M=>M) (fun n bb=>D0d b0 b2 n bb.1 bb.2=some o8) F0 (0,b1) h ?_
  clear h
  rintro JJ11 n11 ⟨a13,a14⟩ hag11 h
  dsimp only at h
  obtain _ | n11:=n11
  ·exact absurd h (by simp [D0d])
  rw [D0d] at h
  refine Run.seq (Run.sr (X.mv ?_))
  refine X.mv ?_
  refine X.bi ?_
  refine X.nil ?_
  refine R.cd (fun hc17=>?_) (fun hc17=>?_)
  ·replace h:=condT hc17 h
   refine Run.skip (Run.seq (Run.block (Run.reg (X.mv ?_))))
   refine X.mv ?_
   refine X.mv ?_
   obtain ⟨v18,hv18,h⟩:=bindE h
   refine X.cp (M0c _ _ _ hv18) ?_
   refine X.addW (h:=?_)
   refine X.an ?_
   refine Run.blk (Run.reg (X.mv ?_))
   refine X.addW (h:=?_)
   refine X.an ?_
   exact hag11 n11 ((W (a13+v18)),(W (a14+1))) _ _ (by omega) h (by trivial) (by trivial) (by rfl) (by rfl)
  replace h:=condF hc17 h
  refine Run.exit (by rfl) ?_
  exact R.mt hmeet10 a13 (Option.some.inj h)
 rintro p19 rfl
 refine Run.sr (X.mv ?_)
 refine X.an ?_
 cases h
 refine R.f1 Tryz.results26 ?_
 rfl
theorem Q0v (b0:A0a)(b1:Int)(b2:Int)(b3:Int)(r:Int)(h:N0d b0 b1 b2 b3=some r):PC Tryz.prog 108 [A0u b0,int b1,int b2,int b3] (int r):=by
 unfold N0d at h
 refine PC.start Tryz.func108 Tryz.ntmps108 rfl ok108 rfl ?_
 refine Run.sr (X.bx ?_)
 refine X.an ?_
 refine Run.seq (Run.seq ?_)
 obtain ⟨v1,hv1,h⟩:=bindE h
 obtain ⟨e2,he2,h2⟩:=bindE h
 refine R.regG [(1,int b1),(2,int b2),(3,int b3),(4,.lptr 256 0),(29,bool e2)] [(256,.blk true [int b0.Deadline,.slice (b0.Activities.map A0b),.slice (b0.Links.map A0o),.slice (b0.Resources.map A0c),.slice (b0.Stocks.map int)])] ?_ ?_
 ·clear h;have h:=he2;clear he2 h2
  refine X.ld shp28 ?_
  refine X.mv ?_
  refine X.cp (Q0w _ _ _ hv1) ?_
  refine X.un (h:=?_)
  refine X.mv ?_
  refine X.iG (fun hb3=>?_) (fun hb3=>?_)
  ·replace h:=condF hb3 h
   refine X.ld shp28 ?_
   refine X.gy ?_
   obtain ⟨v4,hv4,h⟩:=bindE h
   refine X.cp (H0p _ _ hv4) ?_
   refine X.gy (X.un (h:=?_))
   refine X.pF ?_
   refine X.mv ?_
   refine X.iG (fun hb5=>?_) (fun hb5=>?_)
   ·replace h:=condF hb5 h
    refine X.ld shp28 ?_
    refine X.gy (X.mv ?_)
    refine X.gy ?_
    obtain ⟨v6,hv6,h⟩:=bindE h
    refine X.cp (A0z _ _ _ hv6) ?_
    refine X.gy (X.un (h:=?_))
    refine X.pF ?_
    refine X.mv ?_
    refine X.iG (fun hb7=>?_) (fun hb7=>?_)
    ·replace h:=condF hb7 h
     refine X.ld shp28 ?_
     refine X.gy (X.mv ?_)
     refine X.gy ?_
     obtain ⟨v8,hv8,h⟩:=bindE h
     refine X.cp (A0z _ _ _ hv8) ?_
     refine X.gy (X.un (h:=?_))
     refine X.pF ?_
     cases h
     exact X.eG
    replace h:=condT hb7 h
    refine X.gn (X.gn (X.gn (X.pT ?_)))
    cases h
    exact X.eG
   replace h:=condT hb5 h
   refine X.gn (X.gn (X.gn (X.pT ?_)))
   refine X.mv ?_
   refine X.gn (X.gn (X.gn (X.gn (X.pT ?_))))
   cases h
   exact X.eG
  replace h:=condT hb3 h
  refine X.gn (X.gn (X.pT ?_))
  refine X.mv ?_
  refine X.gn (X.gn (X.gn (X.gn (X.pT ?_))))
  refine X.mv ?_
  refine X.gn (X.gn (X.gn (X.gn (X.pT ?_))))
  cases h
  exact X.eG
 replace h:=h2;clear h2
 refine R.cd (fun hc9=>?_) (fun hc9=>?_)
 ·replace h:=condT hc9 h
  refine Run.sr (X.an ?_)
  cases h
  refine R.f1 Tryz.results108 ?_
  rfl
 replace h:=condF hc9 h
 refine Run.skip (Run.seq (Run.draw (B0r [(1,([256],[],[],[])),(7,([256],[],[],[])),(15,([256],[],[],[]))]) mixed (by kernel_rfl) (by kernel_rfl) ?_))
 refine X.fl G0s ?_
 refine X.ld shp25 ?_
 refine X.mv ?_
 obtain ⟨v10,hv10,h⟩:=bindE h
 refine X.ix elt25 (A0d hv10).1 (A0e A0c hv10) ?_
 refine X.fieldAddr_c N0u (by rfl) (by rfl) ?_
 refine X.lc shp30 ?_
 refine X.fl B0z ?_
 refine X.ld shp23 ?_
 refine X.mv ?_
 obtain ⟨v11,hv11,h⟩:=bindE h
 refine X.ix elt23 (A0d hv11).1 (A0e A0b hv11) ?_
 refine X.fieldAddr_c X0i (by rfl) (by rfl) ?_
 refine X.lc shp3 ?_
 obtain ⟨v12,hv12,h⟩:=bindE h
 refine X.ix elt30 (A0d hv12).1 (A0e l_int hv12) ?_
 refine X.lc shp26 ?_
 refine X.fl B0z ?_
 refine X.ld shp23 ?_
 refine X.mv ?_
 obtain ⟨v13,hv13,h⟩:=bindE h
 refine X.ix elt23 (A0d hv13).1 (A0e A0b hv13) ?_
 refine X.fieldAddr_c X0i (by rfl) (by rfl) ?_
 refine X.lc shp3 ?_
 obtain ⟨v14,hv14,h⟩:=bindE h
 refine X.ix elt26 (A0d hv14).1 (A0e int hv14) ?_
 refine X.lc shp3 ?_
 refine X.an ?_
 cases h
 refine R.f1 Tryz.results108 ?_
 rfl
theorem P0m (b0:A0a)(b1:A0l)(b2:Int)(b3:Int)(b4:Int)(r:Bool)(h:J0a b0 b1 b2 b3 b4=some r):PC Tryz.prog 85 [A0u b0,D0j b1,int b2,int b3,int b4] (bool r):=by
 unfold J0a at h
 refine PC.start Tryz.func85 Tryz.ntmps85 rfl ok85 rfl ?_
 refine Run.sr (X.bx ?_)
 refine X.bx ?_
 refine X.an ?_
 refine Run.seq (Run.seq ?_)
 obtain ⟨v1,hv1,h⟩:=bindE h
 obtain ⟨v2,hv2,h⟩:=bindE h
 obtain ⟨e3,he3,h2⟩:=bindE h
 refine R.regG [(2,int b2),(3,int b3),(4,int b4),(5,.lptr 320 0),(6,.lptr 384 0),(30,bool e3)] [(320,.blk true [int b0.Deadline,.slice (b0.Activities.map A0b),.slice (b0.Links.map A0o),.slice (b0.Resources.map A0c),.slice (b0.Stocks.map int)]),(384,.blk true [.slice (b1.Starts.map int),.slice (b1.Modes.map int)])] ?_ ?_
 ·clear h;have h:=he3;clear he3 h2
  refine X.ld shp28 ?_
  refine X.ld shp35 ?_
  refine X.mv ?_
  refine X.callA (F0x _ _ _ _ hv1) (by rfl) (by rfl) (by rfl) (by trivial) (by rfl) (by rfl) (by rfl) (by rfl) (by rfl) (by rfl) ?_
  refine X.fldV X0t shp26 (by rfl) (by rfl) (by rfl) ?_
  refine X.mv ?_
  refine X.ix elt26 (A0d hv2).1 (A0e int hv2) ?_
  refine X.lc shp3 ?_
  refine X.bi ?_
  refine X.mv ?_
  refine X.iG (fun hb4=>?_) (fun hb4=>?_)
  ·replace h:=condF hb4 h
   refine X.ld shp28 ?_
   refine X.gy (X.ld shp35 ?_)
   refine X.gy (X.mv ?_)
   refine X.gy ?_
   obtain ⟨v5,hv5,h⟩:=bindE h
   refine X.callA (F0x _ _ _ _ hv5) (by rfl) (by rfl) (by rfl) (by trivial) (by rfl) (by rfl) (by rfl) (by rfl) (by rfl) (by rfl) ?_
   refine X.gy (X.fldV X0t shp26 (by rfl) (by rfl) (by rfl) ?_)
   refine X.gy (X.mv ?_)
   refine X.gy ?_
   obtain ⟨v6,hv6,h⟩:=bindE h
   refine X.ix elt26 (A0d hv6).1 (A0e int hv6) ?_
   refine X.gy (X.lc shp3 ?_)
   refine X.gy (X.bi ?_)
   refine X.pF ?_
   cases h
   exact X.eG
  replace h:=condT hb4 h
  refine X.gn (X.gn (X.gn (X.gn (X.gn (X.gn (X.gn (X.gn ?_)))))))
  refine X.pT ?_
  cases h
  exact X.eG
 replace h:=h2;clear h2
 refine R.cd (fun hc7=>?_) (fun hc7=>?_)
 ·replace h:=condT hc7 h
  refine Run.sr (X.an ?_)
  cases h
  refine R.f1 Tryz.results85 ?_
  rfl
 replace h:=condF hc7 h
 refine Run.skip (Run.seq ?_)
 obtain ⟨v8,hv8,h⟩:=bindE h
 obtain ⟨v9,hv9,h⟩:=bindE h
 obtain ⟨v10,hv10,h⟩:=bindE h
 obtain ⟨e11,he11,h2⟩:=bindE h
 refine R.drawG [(10,bool e11)] [] (B0r [(0,([320],[],[],[])),(1,([384],[],[],[])),(4,([320],[],[],[])),(11,([384],[],[],[])),(17,([320],[],[],[])),(18,([384],[],[],[])),(21,([320],[],[],[])),(28,([384],[],[],[]))]) mixed (by kernel_rfl) (by kernel_rfl) ?_ ?_
 ·clear h;have h:=he11;clear he11 h2
  refine X.ld shp28 ?_
  refine X.ld shp35 ?_
  refine X.mv ?_
  refine X.cp (F0d _ _ _ _ hv8) ?_
  refine X.ld shp28 ?_
  refine X.mv ?_
  refine X.mv ?_
  refine X.mv ?_
  refine X.cp (Q0v _ _ _ _ _ hv9) ?_
  refine X.addW (h:=?_)
  refine X.fl F0b ?_
  refine X.ld shp26 ?_
  refine X.mv ?_
  refine X.ix elt26 (A0d hv10).1 (A0e int hv10) ?_
  refine X.lc shp3 ?_
  refine X.bi ?_
  refine X.mv ?_
  refine X.iG (fun hb12=>?_) (fun hb12=>?_)
  ·replace h:=condF hb12 h
   refine X.ld shp28 ?_
   refine X.gy (X.ld shp35 ?_)
   refine X.gy (X.mv ?_)
   refine X.gy ?_
   obtain ⟨v13,hv13,h⟩:=bindE h
   refine X.cp (F0d _ _ _ _ hv13) ?_
   refine X.gy (X.ld shp28 ?_)
   refine X.gy (X.mv ?_)
   refine X.gy (X.mv ?_)
   refine X.gy (X.mv ?_)
   refine X.gy ?_
   obtain ⟨v14,hv14,h⟩:=bindE h
   refine X.cp (Q0v _ _ _ _ _ hv14) ?_
   refine X.gy (X.addW (h:=?_))
   refine X.gy (X.fl F0b ?_)
   refine X.gy (X.ld shp26 ?_)
   refine X.gy (X.mv ?_)
   refine X.gy ?_
   obtain ⟨v15,hv15,h⟩:=bindE h
   refine X.ix elt26 (A0d hv15).1 (A0e int hv15) ?_
   refine X.gy (X.lc shp3 ?_)
   refine X.gy (X.bi ?_)
   refine X.pF ?_
   refine X.as ?_
   cases h
   exact X.eG
  replace h:=condT hb12 h
  refine X.gn (X.gn (X.gn (X.gn (X.gn (X.gn (X.gn (X.gn ?_)))))))
  refine X.gn (X.gn (X.gn (X.gn (X.gn (X.gn (X.gn (X.pT ?_)))))))
  refine X.as ?_
  cases h
  exact X.eG
 replace h:=h2;clear h2
 cases h
 refine R.f1 Tryz.results85 ?_
 rfl
theorem S0i (b0:A0a)(b1:A0l)(b2:Int)(r:Int)(h:L0t b0 b1 b2=some r):PC Tryz.prog 86 [A0u b0,D0j b1,int b2] (int r):=by
 unfold L0t at h
 refine PC.start Tryz.func86 Tryz.ntmps86 rfl ok86 rfl ?_
 refine Run.sr (X.bx ?_)
 refine X.bx ?_
 refine X.an ?_
 refine Run.seq (Run.seq ?_)
 obtain ⟨v1,hv1,h⟩:=bindE h
 obtain ⟨e2,he2,h2⟩:=bindE h
 refine R.regG [(2,int b2),(3,.lptr 192 0),(4,.lptr 256 0),(18,bool e2)] [(192,.blk true [int b0.Deadline,.slice (b0.Activities.map A0b),.slice (b0.Links.map A0o),.slice (b0.Resources.map A0c),.slice (b0.Stocks.map int)]),(256,.blk true [.slice (b1.Starts.map int),.slice (b1.Modes.map int)])] ?_ ?_
 ·clear h;have h:=he2;clear he2 h2
  refine X.ld shp28 ?_
  refine X.ld shp35 ?_
  refine X.cp (F0z _ _ _ hv1) ?_
  refine X.un (h:=?_)
  refine X.mv ?_
  refine X.iG (fun hb3=>?_) (fun hb3=>?_)
  ·replace h:=condF hb3 h
   refine X.ld shp28 ?_
   refine X.gy (X.mv ?_)
   refine X.gy ?_
   obtain ⟨v4,hv4,h⟩:=bindE h
   refine X.cp (K0w _ _ _ hv4) ?_
   refine X.gy (X.un (h:=?_))
   refine X.pF ?_
   cases h
   exact X.eG
  replace h:=condT hb3 h
  refine X.gn (X.gn (X.gn (X.pT ?_)))
  cases h
  exact X.eG
 replace h:=h2;clear h2
 refine R.cd (fun hc5=>?_) (fun hc5=>?_)
 ·replace h:=condT hc5 h
  refine Run.sr (X.an ?_)
  cases h
  refine R.f1 Tryz.results86 ?_
  rfl
 replace h:=condF hc5 h
 refine Run.skip (Run.sr (X.an ?_))
 refine Run.seq (Run.sr (X.fl B0z ?_))
 refine X.ld shp23 ?_
 refine X.ls elt23 ?_
 refine X.mn ?_
 obtain ⟨o6,ho6,h⟩:=bindE h
 refine R.join2 (β:=Int) [] [] (fun p20 S=>(7,int p20)::S) (fun p20 M=>M) (fun p20=>p20=o6) ?_ ?_
 ·intro JJ9 hmeet8
  have hup7:=h;clear h;have h:=ho6;clear ho6
  refine Run.block ?_
  refine R.bndS (t:=20) (by rfl) (fun hbd12=>?_)
  replace hbd12:b0.Activities.length≤9223372036854775807:=by first | (rw [List.length_map] at hbd12;exact hbd12) | simp
  refine R.lp (β:=Int×Int) [(2,int b2),(3,.lptr 192 0),(4,.lptr 256 0),(21,int (b0.Activities.length:Int))] [(192,.blk true [int b0.Deadline,.slice (b0.Activities.map A0b),.slice (b0.Links.map A0o),.slice (b0.Resources.map A0c),.slice (b0.Stocks.map int)]),(256,.blk true [.slice (b1.Starts.map int),.slice (b1.Modes.map int)])] (fun bb S=>(7,int bb.2)::(22,int bb.1)::S) (fun bb M=>M) (fun n bb=>0≤bb.1∧bb.1+n=(b0.Activities.length:Int)∧F0e b0 b1 b2 (b0.Activities.drop bb.1.toNat) bb.1 bb.2=some o6) b0.Activities.length (0,0) ⟨Int.le_refl _,by simp,h⟩ ?_
  clear h
  rintro JJ12 n12 ⟨z13,a14⟩ hag12 ⟨hza12,hzb12,h⟩
  dsimp only at hza12 hzb12 h
  refine Run.sr (X.bi ?_)
  refine X.nil (Run.seq ?_)
  refine R.cd (fun hc17=>?_) (fun hc17=>?_)
  ·obtain ⟨x15,xs16,hd12,hx12,hds12,hlt12⟩:=B0c hza12 hc17
   rw [hd12] at h
   rw [F0e] at h
   refine Run.skip (Run.seq (Run.block (Run.sr (X.mv ?_))))
   refine X.an ?_
   refine Run.reg (X.mv ?_)
   refine X.ld shp28 ?_
   refine X.ld shp35 ?_
   refine X.mv ?_
   obtain ⟨v18,hv18,h⟩:=bindE h
   refine X.callA (F0x _ _ _ _ hv18) (by rfl) (by rfl) (by rfl) (by trivial) (by rfl) (by rfl) (by rfl) (by rfl) (by rfl) (by rfl) ?_
   refine X.fldV D1d shp26 (by rfl) (by rfl) (by rfl) ?_
   refine X.mv ?_
   obtain ⟨v19,hv19,h⟩:=bindE h
   refine X.ix elt26 (A0d hv19).1 (A0e int hv19) ?_
   refine X.lc shp3 ?_
   refine X.addW (h:=?_)
   refine X.an ?_
   refine Run.blk (Run.reg (X.ad ?_))
   refine X.mn ?_
   exact R.ag hag12 (n12 - 1) (z13+1,(W (a14+v19))) (R.n3 (by first | (rw [hds12];exact h) | (dsimp only;rw [hds12];exact h)))
  rw [A0w hza12 hc17] at h
  rw [F0e] at h
  refine Run.exit (by rfl) ?_
  exact R.mt hmeet8 a14 (Option.some.inj h)
 rintro p20 rfl
 refine Run.sr (X.mv ?_)
 refine X.an ?_
 cases h
 refine R.f1 Tryz.results86 ?_
 rfl
theorem P0k (b0:A0a)(b1:A0l)(b2:TRule)(r:Bool)(h:C0t b0 b1 b2=some r):PC Tryz.prog 48 [A0u b0,D0j b1,B1x b2] (bool r):=by
 unfold C0t at h
 refine PC.start Tryz.func48 Tryz.ntmps48 rfl ok48 rfl ?_
 refine Run.sr (X.bx ?_)
 refine X.bx ?_
 refine X.bx ?_
 refine X.an ?_
 refine Run.seq (Run.sr (X.fl B1u ?_))
 refine X.ld shp3 ?_
 refine X.nil (Run.block (Run.sr (X.bi ?_)))
 refine X.an ?_
 refine R.cd (fun hc1=>?_) (fun hc1=>?_)
 ·replace h:=condT hc1 h
  refine Run.seq (Run.draw (B0r [(0,([192],[],[],[])),(1,([256],[],[],[])),(3,([192],[],[],[])),(5,([320],[],[],[]))]) mixed (by kernel_rfl) (by kernel_rfl) ?_)
  refine X.ld shp28 ?_
  refine X.ld shp35 ?_
  refine X.fl P0n ?_
  refine X.ld shp24 ?_
  refine X.fl H0y ?_
  refine X.ld shp3 ?_
  obtain ⟨v2,hv2,h⟩:=bindE h
  refine X.ix elt24 (A0d hv2).1 (A0e A0o hv2) ?_
  refine X.lc T0p ?_
  obtain ⟨v3,hv3,h⟩:=bindE h
  refine X.cp (P0j _ _ _ _ hv3) ?_
  refine X.an ?_
  cases h
  refine R.f1 Tryz.results48 ?_
  rfl
 replace h:=condF hc1 h
 refine Run.sr (X.bi ?_)
 refine X.an ?_
 refine R.cd (fun hc4=>?_) (fun hc4=>?_)
 ·replace h:=condT hc4 h
  refine Run.seq (Run.draw (B0r [(0,([192],[],[],[])),(1,([256],[],[],[])),(3,([320],[],[],[])),(6,([192],[],[],[]))]) mixed (by kernel_rfl) (by kernel_rfl) ?_)
  refine X.ld shp28 ?_
  refine X.ld shp35 ?_
  refine X.fl H0y ?_
  refine X.ld shp3 ?_
  obtain ⟨v5,hv5,h⟩:=bindE h
  refine X.cp (F0d _ _ _ _ hv5) ?_
  refine X.fl V0r ?_
  refine X.ld shp3 ?_
  refine X.bi ?_
  refine X.an ?_
  cases h
  refine R.f1 Tryz.results48 ?_
  rfl
 replace h:=condF hc4 h
 refine Run.sr (X.bi ?_)
 refine X.an ?_
 refine R.cd (fun hc6=>?_) (fun hc6=>?_)
 ·replace h:=condT hc6 h
  refine Run.seq (Run.draw (B0r [(0,([192],[],[],[])),(1,([256],[],[],[])),(3,([320],[],[],[])),(5,([320],[],[],[])),(8,([192],[],[],[])),(10,([320],[],[],[])),(15,([320],[],[],[]))]) mixed (by kernel_rfl) (by kernel_rfl) ?_)
  refine X.ld shp28 ?_
  refine X.ld shp35 ?_
  refine X.fl H0y ?_
  refine X.ld shp3 ?_
  refine X.fl K0f ?_
  refine X.ld shp3 ?_
  obtain ⟨v7,hv7,h⟩:=bindE h
  refine X.cp (J0u _ _ _ _ _ hv7) ?_
  refine X.fl G0s ?_
  refine X.ld shp25 ?_
  refine X.fl H0y ?_
  refine X.ld shp3 ?_
  obtain ⟨v8,hv8,h⟩:=bindE h
  refine X.ix elt25 (A0d hv8).1 (A0e A0c hv8) ?_
  refine X.fieldAddr_c N0g (by rfl) (by rfl) ?_
  refine X.lc shp62 ?_
  refine X.fl K0f ?_
  refine X.ld shp3 ?_
  obtain ⟨v9,hv9,h⟩:=bindE h
  refine X.cp (M0c _ _ _ hv9) ?_
  refine X.bi ?_
  refine X.an ?_
  cases h
  refine R.f1 Tryz.results48 ?_
  rfl
 replace h:=condF hc6 h
 refine Run.sr (X.bi ?_)
 refine X.an ?_
 refine R.cd (fun hc10=>?_) (fun hc10=>?_)
 ·replace h:=condT hc10 h
  refine Run.seq (Run.draw (B0r [(0,([192],[],[],[])),(1,([256],[],[],[])),(3,([320],[],[],[])),(5,([320],[],[],[])),(7,([320],[],[],[])),(10,([192],[],[],[])),(12,([320],[],[],[])),(17,([320],[],[],[])),(19,([320],[],[],[]))]) mixed (by kernel_rfl) (by kernel_rfl) ?_)
  refine X.ld shp28 ?_
  refine X.ld shp35 ?_
  refine X.fl H0y ?_
  refine X.ld shp3 ?_
  refine X.fl K0f ?_
  refine X.ld shp3 ?_
  refine X.fl L0v ?_
  refine X.ld shp3 ?_
  obtain ⟨v11,hv11,h⟩:=bindE h
  refine X.cp (P0o _ _ _ _ _ _ hv11) ?_
  refine X.fl G0s ?_
  refine X.ld shp25 ?_
  refine X.fl H0y ?_
  refine X.ld shp3 ?_
  obtain ⟨v12,hv12,h⟩:=bindE h
  refine X.ix elt25 (A0d hv12).1 (A0e A0c hv12) ?_
  refine X.fieldAddr_c N0g (by rfl) (by rfl) ?_
  refine X.lc shp62 ?_
  refine X.fl K0f ?_
  refine X.ld shp3 ?_
  refine X.fl L0v ?_
  refine X.ld shp3 ?_
  obtain ⟨v13,hv13,h⟩:=bindE h
  refine X.cp (F0g _ _ _ _ hv13) ?_
  refine X.bi ?_
  refine X.an ?_
  cases h
  refine R.f1 Tryz.results48 ?_
  rfl
 replace h:=condF hc10 h
 refine Run.sr (X.bi ?_)
 refine X.an ?_
 refine R.cd (fun hc14=>?_) (fun hc14=>?_)
 ·replace h:=condT hc14 h
  refine Run.sr (X.ld shp28 ?_)
  refine X.ld shp35 ?_
  refine X.fl H0y ?_
  refine X.ld shp3 ?_
  refine X.fl K0f ?_
  refine X.ld shp3 ?_
  refine X.fl L0v ?_
  refine X.ld shp3 ?_
  obtain ⟨v15,hv15,h⟩:=bindE h
  refine X.cp (P0m _ _ _ _ _ _ hv15) ?_
  refine X.an ?_
  cases h
  refine R.f1 Tryz.results48 ?_
  rfl
 replace h:=condF hc14 h
 refine Run.skip (Run.blk (Run.seq (Run.draw (B0r [(0,([192],[],[],[])),(1,([256],[],[],[])),(3,([320],[],[],[])),(6,([192],[],[],[])),(8,([320],[],[],[]))]) mixed (by kernel_rfl) (by kernel_rfl) ?_)))
 refine X.ld shp28 ?_
 refine X.ld shp35 ?_
 refine X.fl H0y ?_
 refine X.ld shp3 ?_
 obtain ⟨v16,hv16,h⟩:=bindE h
 refine X.cp (S0i _ _ _ _ hv16) ?_
 refine X.fl M0q ?_
 refine X.ld shp26 ?_
 refine X.fl H0y ?_
 refine X.ld shp3 ?_
 obtain ⟨v17,hv17,h⟩:=bindE h
 refine X.ix elt26 (A0d hv17).1 (A0e int hv17) ?_
 refine X.lc shp3 ?_
 refine X.bi ?_
 refine X.an ?_
 cases h
 refine R.f1 Tryz.results48 ?_
 rfl
theorem R0s (b0:A0a)(b1:A0l)(b2:TRule)(r:Bool)(h:J0h b0 b1 b2=some r):PC Tryz.prog 18 [A0u b0,D0j b1,B1x b2] (bool r):=by
 unfold J0h at h
 refine PC.start Tryz.func18 Tryz.ntmps18 rfl ok18 rfl ?_
 refine Run.sr (X.bx ?_)
 refine X.bx ?_
 refine X.bx ?_
 refine X.an ?_
 refine Run.seq ?_
 obtain ⟨v1,hv1,h⟩:=bindE h
 obtain ⟨e2,he2,h2⟩:=bindE h
 refine R.regG [(6,bool e2)] [] ?_ ?_
 ·clear h;have h:=he2;clear he2 h2
  refine X.ld shp28 ?_
  refine X.ld shp35 ?_
  refine X.cp (F0z _ _ _ hv1) ?_
  refine X.mv ?_
  refine X.iG (fun hb3=>?_) (fun hb3=>?_)
  ·replace h:=condT hb3 h
   refine X.ld shp28 ?_
   refine X.gy (X.ld shp53 ?_)
   refine X.gy ?_
   obtain ⟨v4,hv4,h⟩:=bindE h
   refine X.cp (Z0s _ _ _ hv4) ?_
   refine X.pT ?_
   refine X.mv ?_
   refine X.iG (fun hb5=>?_) (fun hb5=>?_)
   ·replace h:=condT hb5 h
    refine X.ld shp28 ?_
    refine X.gy (X.ld shp35 ?_)
    refine X.gy (X.ld shp53 ?_)
    refine X.gy ?_
    obtain ⟨v6,hv6,h⟩:=bindE h
    refine X.cp (P0k _ _ _ _ hv6) ?_
    refine X.gy (X.un (h:=?_))
    refine X.pT ?_
    refine X.as ?_
    cases h
    exact X.eG
   replace h:=condF hb5 h
   refine X.gn (X.gn (X.gn (X.gn (X.pF ?_))))
   refine X.as ?_
   cases h
   exact X.eG
  replace h:=condF hb3 h
  refine X.gn (X.gn (X.pF ?_))
  refine X.mv ?_
  refine X.gn (X.gn (X.gn (X.gn (X.gn (X.pF ?_)))))
  refine X.as ?_
  cases h
  exact X.eG
 replace h:=h2;clear h2
 cases h
 refine R.f1 Tryz.results18 ?_
 rfl
end Go.Px.YtncedeembfcakaaGreat
