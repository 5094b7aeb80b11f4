/-
  PROVED: contracts of functions of the program over pure values. No condition beyond those that each theorem names.
-/
import Derived.Test.YtimegoembedagaaGreatProg
import Derived.Test.YtimegoembedagaaGreatD2
import Derived.Test.YtimegoembedagaaGreatC1
namespace Go.Px.YtimegoembedagaaGreat
set_option linter.unusedSimpArgs false
set_option linter.unusedVariables false
open Go.Px Go.Proofs
theorem W0c (b0:A0b)(b1:TLink)(r:Bool)(h:L0y b0 b1=some r):PC Tryz.prog 77 [A0n b0,A0l b1] (bool r):=by
 unfold L0y at h
 refine PC.start Tryz.func77 Tryz.ntmps77 rfl ok77 rfl ?_
 refine Run.sr (X.bx ?_)
 refine X.bx ?_
 refine X.an ?_
 refine Run.seq ?_
 obtain ⟨v1,hv1,h⟩:=bindE h
 obtain ⟨e2,he2,h2⟩:=bindE h
 refine R.regG [(4,bool e2)] [] ?_ ?_
 ·clear h;have h:=he2;clear he2 h2
  refine X.ld shp34 ?_
  refine X.fl J0s ?_
  refine X.ld shp3 ?_
  refine X.cp (D0p _ _ _ hv1) ?_
  refine X.mv ?_
  refine X.iG (fun hb3=>?_) (fun hb3=>?_)
  ·replace h:=condT hb3 h
   refine X.ld shp34 ?_
   refine X.gy (X.fl L0j ?_)
   refine X.gy (X.ld shp3 ?_)
   refine X.gy ?_
   obtain ⟨v4,hv4,h⟩:=bindE h
   refine X.cp (D0p _ _ _ hv4) ?_
   refine X.pT ?_
   refine X.mv ?_
   refine X.iG (fun hb5=>?_) (fun hb5=>?_)
   ·replace h:=condT hb5 h
    refine X.fl J0s ?_
    refine X.gy (X.ld shp3 ?_)
    refine X.gy (X.fl L0j ?_)
    refine X.gy (X.ld shp3 ?_)
    refine X.gy (X.bi ?_)
    refine X.pT ?_
    refine X.mv ?_
    refine X.iG (fun hb6=>?_) (fun hb6=>?_)
    ·replace h:=condT hb6 h
     refine X.fl T0m ?_
     refine X.gy (X.ld shp3 ?_)
     refine X.gy ?_
     obtain ⟨v7,hv7,h⟩:=bindE h
     refine X.cp (C0p _ _ _ _ hv7) ?_
     refine X.pT ?_
     refine X.as ?_
     cases h
     exact X.eG
    replace h:=condF hb6 h
    refine X.gn (X.gn (X.pF ?_))
    refine X.as ?_
    cases h
    exact X.eG
   replace h:=condF hb5 h
   refine X.gn (X.gn (X.gn (X.gn (X.pF ?_))))
   refine X.mv ?_
   refine X.gn (X.gn (X.gn (X.pF ?_)))
   refine X.as ?_
   cases h
   exact X.eG
  replace h:=condF hb3 h
  refine X.gn (X.gn (X.gn (X.pF ?_)))
  refine X.mv ?_
  refine X.gn (X.gn (X.gn (X.gn (X.gn (X.pF ?_)))))
  refine X.mv ?_
  refine X.gn (X.gn (X.gn (X.pF ?_)))
  refine X.as ?_
  cases h
  exact X.eG
 replace h:=h2;clear h2
 cases h
 refine R.f1 Tryz.results77 ?_
 rfl
theorem Z0j (b0:TLink)(c1:A0b)(r:Bool)(h:B0x b0 c1=some r):PC Tryz.prog 76 [A0l b0,.cptr (A0n c1:PV).cells 0] (bool r):=by
 unfold B0x at h
 refine PC.start Tryz.func76 Tryz.ntmps76 rfl ok76 rfl ?_
 refine Run.sr (X.bx ?_)
 refine X.an ?_
 refine Run.sr (X.lc shp34 ?_)
 refine X.ld shp87 ?_
 obtain ⟨v1,hv1,h⟩:=bindE h
 refine X.cp (W0c _ _ _ hv1) ?_
 refine X.un (h:=?_)
 refine X.an ?_
 cases h
 refine R.f1 Tryz.results76 ?_
 rfl
theorem S0n (b0:List TLink)(g1:TLink→Option Bool)(g1id:Nat)(g1c:List PV)(hg1:∀(x0:TLink) v,g1 x0=some v→PC Tryz.prog g1id ([A0l x0] ++ g1c) (bool v))(r:Int)(h:F0e b0 g1=some r):PC Tryz.prog 126 [.slice (b0.map A0l),.fn g1id g1c] (int r):=by
 unfold F0e at h
 refine PC.start Tryz.func126 Tryz.ntmps126 rfl ok126 rfl ?_
 refine Run.sr (X.an ?_)
 refine Run.seq (Run.sr (X.mv ?_))
 refine X.ls elt31 ?_
 refine X.mn ?_
 obtain ⟨o1,ho1,h⟩:=bindE h
 refine R.join2 (β:=Unit) [] [] (fun p14 S=>S) (fun p14 M=>M) (fun p14=>(Sum.inl p14)=o1) ?_ ?_
 ·intro JJ4 hmeet3
  have hup2:=h;clear h;have h:=ho1;clear ho1
  refine Run.block ?_
  refine R.bndS (t:=0) (by rfl) (fun hbd7=>?_)
  replace hbd7:b0.length≤9223372036854775807:=by first | (rw [List.length_map] at hbd7;exact hbd7) | simp
  refine R.lp (β:=Int) [(0,.slice (b0.map A0l)),(1,.fn g1id g1c),(7,int (b0.length:Int))] [] (fun bb S=>(8,int bb)::S) (fun bb M=>M) (fun n bb=>0≤bb∧bb+n=(b0.length:Int)∧B0k g1 (b0.drop bb.toNat) bb=some o1) b0.length (0:Int) ⟨Int.le_refl _,by simp,h⟩ ?_
  clear h
  rintro JJ7 n7 z8 hag7 ⟨hza7,hzb7,h⟩
  refine Run.sr (X.bi ?_)
  refine X.nil (Run.seq ?_)
  refine R.cd (fun hc11=>?_) (fun hc11=>?_)
  ·obtain ⟨x9,xs10,hd7,hx7,hds7,hlt7⟩:=A0k hza7 hc11
   rw [hd7] at h
   rw [B0k] at h
   refine Run.skip (Run.seq (Run.block (Run.sr (X.mv ?_))))
   refine X.an ?_
   refine Run.sr (X.mv ?_)
   refine X.mv ?_
   refine X.mv ?_
   refine X.ix elt31 (A0a hx7).1 (A0c A0l hx7) ?_
   refine X.lc shp87 ?_
   obtain ⟨v12,hv12,h⟩:=bindE h
   refine X.cp (hg1 _ _ hv12) ?_
   refine X.nil ?_
   refine R.cd (fun hc13=>?_) (fun hc13=>?_)
   ·replace h:=condT hc13 h
    refine Run.sr (X.mv ?_)
    refine X.an ?_
    cases h
    have h:=hup2
    replace h:=elimR h
    cases h
    refine R.f1 Tryz.results126 ?_
    rfl
   replace h:=condF hc13 h
   refine Run.skip (Run.blk (Run.reg (X.ad ?_)))
   refine X.mn ?_
   exact R.ag hag7 (n7 - 1) (z8+1) (R.n3 (by first | (rw [hds7];exact h) | (dsimp only;rw [hds7];exact h)))
  rw [A0h hza7 hc11] at h
  rw [B0k] at h
  refine Run.exit (by rfl) ?_
  exact R.mt hmeet3 () (Option.some.inj h)
 rintro p14 rfl
 replace h:=elimL h
 refine Run.sr (X.an ?_)
 cases h
 refine R.f1 Tryz.results126 ?_
 rfl
theorem Q0y (b0:List TLink)(g1:TLink→Option Bool)(g1id:Nat)(g1c:List PV)(hg1:∀(x0:TLink) v,g1 x0=some v→PC Tryz.prog g1id ([A0l x0] ++ g1c) (bool v))(r:Bool)(h:C0o b0 g1=some r):PC Tryz.prog 75 [.slice (b0.map A0l),.fn g1id g1c] (bool r):=by
 unfold C0o at h
 refine PC.start Tryz.func75 Tryz.ntmps75 rfl ok75 rfl ?_
 refine Run.sr (X.an ?_)
 refine Run.sr (X.mv ?_)
 refine X.mv ?_
 obtain ⟨v1,hv1,h⟩:=bindE h
 refine X.cp (S0n _ g1 _ _ hg1 _ hv1) ?_
 refine X.bi ?_
 refine X.an ?_
 cases h
 refine R.f1 Tryz.results75 ?_
 rfl
theorem G0i (b0:A0b)(r:Bool)(h:E0q b0=some r):PC Tryz.prog 33 [A0n b0] (bool r):=by
 unfold E0q at h
 refine PC.start Tryz.func33 Tryz.ntmps33 rfl ok33 rfl ?_
 refine Run.sr (X.bx ?_)
 refine X.an ?_
 refine Run.seq (Run.seq ?_)
 obtain ⟨v1,hv1,h⟩:=bindE h
 obtain ⟨e2,he2,h2⟩:=bindE h
 refine R.regG [(1,.lptr 64 0),(37,bool e2)] [(64,.blk true [int b0.Deadline,.slice (b0.Activities.map A0d),.slice (b0.Links.map A0l),.slice (b0.Resources.map A0e),.slice (b0.Stocks.map int)])] ?_ ?_
 ·clear h;have h:=he2;clear he2 h2
  refine X.fl W0o ?_
  refine X.ld shp3 ?_
  refine X.cp (C0p _ _ _ _ hv1) ?_
  refine X.un (h:=?_)
  refine X.mv ?_
  refine X.iG (fun hb3=>?_) (fun hb3=>?_)
  ·replace h:=condF hb3 h
   refine X.fl B0l ?_
   refine X.gy (X.ld shp30 ?_)
   refine X.gy (X.ls elt30 ?_)
   refine X.gy ?_
   obtain ⟨v4,hv4,h⟩:=bindE h
   refine X.cp (C0p _ _ _ _ hv4) ?_
   refine X.gy (X.un (h:=?_))
   refine X.pF ?_
   refine X.mv ?_
   refine X.iG (fun hb5=>?_) (fun hb5=>?_)
   ·replace h:=condF hb5 h
    refine X.fl H0t ?_
    refine X.gy (X.ld shp32 ?_)
    refine X.gy (X.ls elt32 ?_)
    refine X.gy (X.bi ?_)
    refine X.pF ?_
    refine X.mv ?_
    refine X.iG (fun hb6=>?_) (fun hb6=>?_)
    ·replace h:=condF hb6 h
     refine X.fl T0t ?_
     refine X.gy (X.ld shp25 ?_)
     refine X.gy (X.ls elt25 ?_)
     refine X.gy (X.bi ?_)
     refine X.pF ?_
     refine X.mv ?_
     refine X.iG (fun hb7=>?_) (fun hb7=>?_)
     ·replace h:=condF hb7 h
      refine X.fl J0c ?_
      refine X.gy (X.ld shp31 ?_)
      refine X.gy (X.ls elt31 ?_)
      refine X.gy (X.bi ?_)
      refine X.pF ?_
      cases h
      exact X.eG
     replace h:=condT hb7 h
     refine X.gn (X.gn (X.gn (X.pT ?_)))
     cases h
     exact X.eG
    replace h:=condT hb6 h
    refine X.gn (X.gn (X.gn (X.pT ?_)))
    refine X.mv ?_
    refine X.gn (X.gn (X.gn (X.gn (X.pT ?_))))
    cases h
    exact X.eG
   replace h:=condT hb5 h
   refine X.gn (X.gn (X.gn (X.pT ?_)))
   refine X.mv ?_
   refine X.gn (X.gn (X.gn (X.gn (X.pT ?_))))
   refine X.mv ?_
   refine X.gn (X.gn (X.gn (X.gn (X.pT ?_))))
   cases h
   exact X.eG
  replace h:=condT hb3 h
  refine X.gn (X.gn (X.gn (X.gn (X.pT ?_))))
  refine X.mv ?_
  refine X.gn (X.gn (X.gn (X.gn (X.pT ?_))))
  refine X.mv ?_
  refine X.gn (X.gn (X.gn (X.gn (X.pT ?_))))
  refine X.mv ?_
  refine X.gn (X.gn (X.gn (X.gn (X.pT ?_))))
  cases h
  exact X.eG
 replace h:=h2;clear h2
 refine R.cd (fun hc8=>?_) (fun hc8=>?_)
 ·replace h:=condT hc8 h
  refine Run.sr (X.an ?_)
  cases h
  refine R.f1 Tryz.results33 ?_
  rfl
 replace h:=condF hc8 h
 refine Run.skip (Run.seq (Run.sr (X.fl B0l ?_)))
 refine X.ld shp30 ?_
 refine X.ls elt30 ?_
 refine X.mn ?_
 obtain ⟨o9,ho9,h⟩:=bindE h
 refine R.join2 (β:=Unit) [(1,.lptr 64 0)] [(64,.blk true [int b0.Deadline,.slice (b0.Activities.map A0d),.slice (b0.Links.map A0l),.slice (b0.Resources.map A0e),.slice (b0.Stocks.map int)])] (fun p25 S=>S) (fun p25 M=>M) (fun p25=>(Sum.inl p25)=o9) ?_ ?_
 ·intro JJ12 hmeet11
  have hup10:=h;clear h;have h:=ho9;clear ho9
  refine Run.block ?_
  refine R.bndS (t:=39) (by rfl) (fun hbd15=>?_)
  replace hbd15:b0.Activities.length≤9223372036854775807:=by first | (rw [List.length_map] at hbd15;exact hbd15) | simp
  refine R.lp (β:=Int) [(1,.lptr 64 0),(39,.slice (b0.Activities.map A0d)),(40,int (b0.Activities.length:Int))] [(64,.blk true [int b0.Deadline,.slice (b0.Activities.map A0d),.slice (b0.Links.map A0l),.slice (b0.Resources.map A0e),.slice (b0.Stocks.map int)])] (fun bb S=>(41,int bb)::S) (fun bb M=>M) (fun n bb=>0≤bb∧bb+n=(b0.Activities.length:Int)∧H0r b0 (b0.Activities.drop bb.toNat) bb=some o9) b0.Activities.length (0:Int) ⟨Int.le_refl _,by simp,h⟩ ?_
  clear h
  rintro JJ15 n15 z16 hag15 ⟨hza15,hzb15,h⟩
  refine Run.sr (X.bi ?_)
  refine X.nil (Run.seq ?_)
  refine R.cd (fun hc19=>?_) (fun hc19=>?_)
  ·obtain ⟨x17,xs18,hd15,hx15,hds15,hlt15⟩:=A0k hza15 hc19
   rw [hd15] at h
   rw [H0r] at h
   refine Run.skip (Run.seq (Run.block (Run.sr (X.mv ?_))))
   refine X.ix elt30 (A0a hx15).1 (A0c A0d hx15) ?_
   refine X.lc shp50 ?_
   refine X.alloc zer50 (h:=?_)
   refine X.as ?_
   refine X.sl shp50 ?_
   refine X.nil (Run.seq ?_)
   obtain ⟨v20,hv20,h⟩:=bindE h
   obtain ⟨e21,he21,h2⟩:=bindE h
   refine R.regG [(1,.lptr 64 0),(39,.slice (b0.Activities.map A0d)),(40,int (b0.Activities.length:Int)),(41,int z16),(62,bool e21)] [(64,.blk true [int b0.Deadline,.slice (b0.Activities.map A0d),.slice (b0.Links.map A0l),.slice (b0.Resources.map A0e),.slice (b0.Stocks.map int)])] ?_ ?_
   ·clear h;have h:=he21;clear he21 h2
    refine X.ld shp50 ?_
    refine X.fl H0t ?_
    refine X.ld shp32 ?_
    refine X.ls elt32 ?_
    refine X.fl T0t ?_
    refine X.ld shp25 ?_
    refine X.ls elt25 ?_
    refine X.cp (B1n _ _ _ _ hv20) ?_
    refine X.un (h:=?_)
    refine X.mv ?_
    refine X.iG (fun hb22=>?_) (fun hb22=>?_)
    ·replace h:=condF hb22 h
     refine X.ld shp34 ?_
     refine X.gy (X.fl T0a ?_)
     refine X.gy (X.ld shp9 ?_)
     refine X.gy ?_
     obtain ⟨v23,hv23,h⟩:=bindE h
     refine X.cp (Y0f _ _ _ hv23) ?_
     refine X.gy (X.mv ?_)
     refine X.gy (X.bi ?_)
     refine X.pF ?_
     cases h
     exact X.eG
    replace h:=condT hb22 h
    refine X.gn (X.gn (X.gn (X.gn (X.gn (X.pT ?_)))))
    cases h
    exact X.eG
   replace h:=h2;clear h2
   refine R.cd (fun hc24=>?_) (fun hc24=>?_)
   ·replace h:=condT hc24 h
    refine Run.sr (X.an ?_)
    cases h
    have h:=hup10
    replace h:=elimR h
    cases h
    refine R.f1 Tryz.results33 ?_
    rfl
   replace h:=condF hc24 h
   refine Run.skip (Run.blk (Run.reg (X.ad ?_)))
   refine X.mn ?_
   exact R.ag hag15 (n15 - 1) (z16+1) (R.n3 (by first | (rw [hds15];exact h) | (dsimp only;rw [hds15];exact h)))
  rw [A0h hza15 hc19] at h
  rw [H0r] at h
  refine Run.exit (by rfl) ?_
  exact R.mt hmeet11 () (Option.some.inj h)
 rintro p25 rfl
 replace h:=elimL h
 refine Run.seq (Run.sr (X.fl H0t ?_))
 refine X.ld shp32 ?_
 refine X.ls elt32 ?_
 refine X.mn ?_
 obtain ⟨o27,ho27,h⟩:=bindE h
 refine R.join2 (β:=Unit) [(1,.lptr 64 0)] [(64,.blk true [int b0.Deadline,.slice (b0.Activities.map A0d),.slice (b0.Links.map A0l),.slice (b0.Resources.map A0e),.slice (b0.Stocks.map int)])] (fun p40 S=>S) (fun p40 M=>M) (fun p40=>(Sum.inl p40)=o27) ?_ ?_
 ·intro JJ30 hmeet29
  have hup28:=h;clear h;have h:=ho27;clear ho27
  refine Run.block ?_
  refine R.bndS (t:=65) (by rfl) (fun hbd33=>?_)
  replace hbd33:b0.Resources.length≤9223372036854775807:=by first | (rw [List.length_map] at hbd33;exact hbd33) | simp
  refine R.lp (β:=Int) [(1,.lptr 64 0),(65,.slice (b0.Resources.map A0e)),(66,int (b0.Resources.length:Int))] [(64,.blk true [int b0.Deadline,.slice (b0.Activities.map A0d),.slice (b0.Links.map A0l),.slice (b0.Resources.map A0e),.slice (b0.Stocks.map int)])] (fun bb S=>(67,int bb)::S) (fun bb M=>M) (fun n bb=>0≤bb∧bb+n=(b0.Resources.length:Int)∧H0v (b0.Resources.drop bb.toNat) bb=some o27) b0.Resources.length (0:Int) ⟨Int.le_refl _,by simp,h⟩ ?_
  clear h
  rintro JJ33 n33 z34 hag33 ⟨hza33,hzb33,h⟩
  refine Run.sr (X.bi ?_)
  refine X.nil (Run.seq ?_)
  refine R.cd (fun hc37=>?_) (fun hc37=>?_)
  ·obtain ⟨x35,xs36,hd33,hx33,hds33,hlt33⟩:=A0k hza33 hc37
   rw [hd33] at h
   rw [H0v] at h
   refine Run.skip (Run.seq (Run.block (Run.sr (X.ix elt32 (A0a hx33).1 (A0c A0e hx33) ?_))))
   refine X.lc shp61 ?_
   refine X.alloc zer61 (h:=?_)
   refine X.sl shp61 ?_
   refine X.nil (Run.sr (X.ld shp61 ?_))
   obtain ⟨v38,hv38,h⟩:=bindE h
   refine X.cp (B1s _ _ hv38) ?_
   refine X.un (h:=?_)
   refine X.nil ?_
   refine R.cd (fun hc39=>?_) (fun hc39=>?_)
   ·replace h:=condT hc39 h
    refine Run.sr (X.an ?_)
    cases h
    have h:=hup28
    replace h:=elimR h
    cases h
    refine R.f1 Tryz.results33 ?_
    rfl
   replace h:=condF hc39 h
   refine Run.skip (Run.blk (Run.reg (X.ad ?_)))
   refine X.mn ?_
   exact R.ag hag33 (n33 - 1) (z34+1) (R.n3 (by first | (rw [hds33];exact h) | (dsimp only;rw [hds33];exact h)))
  rw [A0h hza33 hc37] at h
  rw [H0v] at h
  refine Run.exit (by rfl) ?_
  exact R.mt hmeet29 () (Option.some.inj h)
 rintro p40 rfl
 replace h:=elimL h
 refine Run.seq (Run.sr (X.fl T0t ?_))
 refine X.ld shp25 ?_
 refine X.ls elt25 ?_
 refine X.mn ?_
 obtain ⟨o42,ho42,h⟩:=bindE h
 refine R.join2 (β:=Unit) [(1,.lptr 64 0)] [(64,.blk true [int b0.Deadline,.slice (b0.Activities.map A0d),.slice (b0.Links.map A0l),.slice (b0.Resources.map A0e),.slice (b0.Stocks.map int)])] (fun p55 S=>S) (fun p55 M=>M) (fun p55=>(Sum.inl p55)=o42) ?_ ?_
 ·intro JJ45 hmeet44
  have hup43:=h;clear h;have h:=ho42;clear ho42
  refine Run.block ?_
  refine R.bndS (t:=76) (by rfl) (fun hbd48=>?_)
  replace hbd48:b0.Stocks.length≤9223372036854775807:=by first | (rw [List.length_map] at hbd48;exact hbd48) | simp
  refine R.lp (β:=Int) [(1,.lptr 64 0),(76,.slice (b0.Stocks.map int)),(77,int (b0.Stocks.length:Int))] [(64,.blk true [int b0.Deadline,.slice (b0.Activities.map A0d),.slice (b0.Links.map A0l),.slice (b0.Resources.map A0e),.slice (b0.Stocks.map int)])] (fun bb S=>(78,int bb)::S) (fun bb M=>M) (fun n bb=>0≤bb∧bb+n=(b0.Stocks.length:Int)∧H0n (b0.Stocks.drop bb.toNat) bb=some o42) b0.Stocks.length (0:Int) ⟨Int.le_refl _,by simp,h⟩ ?_
  clear h
  rintro JJ48 n48 z49 hag48 ⟨hza48,hzb48,h⟩
  refine Run.sr (X.bi ?_)
  refine X.nil (Run.seq ?_)
  refine R.cd (fun hc52=>?_) (fun hc52=>?_)
  ·obtain ⟨x50,xs51,hd48,hx48,hds48,hlt48⟩:=A0k hza48 hc52
   rw [hd48] at h
   rw [H0n] at h
   refine Run.skip (Run.seq (Run.block (Run.sr (X.ix elt25 (A0a hx48).1 (A0c int hx48) ?_))))
   refine X.lc shp3 ?_
   refine X.an ?_
   refine Run.sr (X.mv ?_)
   obtain ⟨v53,hv53,h⟩:=bindE h
   refine X.cp (C0p _ _ _ _ hv53) ?_
   refine X.un (h:=?_)
   refine X.nil ?_
   refine R.cd (fun hc54=>?_) (fun hc54=>?_)
   ·replace h:=condT hc54 h
    refine Run.sr (X.an ?_)
    cases h
    have h:=hup43
    replace h:=elimR h
    cases h
    refine R.f1 Tryz.results33 ?_
    rfl
   replace h:=condF hc54 h
   refine Run.skip (Run.blk (Run.reg (X.ad ?_)))
   refine X.mn ?_
   exact R.ag hag48 (n48 - 1) (z49+1) (R.n3 (by first | (rw [hds48];exact h) | (dsimp only;rw [hds48];exact h)))
  rw [A0h hza48 hc52] at h
  rw [H0n] at h
  refine Run.exit (by rfl) ?_
  exact R.mt hmeet44 () (Option.some.inj h)
 rintro p55 rfl
 replace h:=elimL h
 refine Run.seq ?_
 refine R.pubBlk (n:=64) (by rfl) (by rfl) (by repeat (first | trivial | refine ⟨by first | rfl | simp [setL],?_⟩)) ?_
 refine Run.reg (X.fl J0c ?_)
 refine X.ld shp31 ?_
 refine X.makeFunc (by rfl) (by rfl) (by repeat (first | trivial | refine ⟨by first | rfl | simp [setL],?_⟩)) (by rfl) (by rfl) ?_
 obtain ⟨v57,hv57,h⟩:=bindE h
 refine X.cp (Q0y _ (fun x0=>B0x x0 b0) _ _ (fun x0 v hv=>Z0j _ _ _ hv) _ hv57) ?_
 refine X.un (h:=?_)
 refine X.an ?_
 cases h
 refine R.f1 Tryz.results33 ?_
 rfl
theorem Y0q (b0:Int)(r:List Int)(h:N0n b0=some r):PC Tryz.prog 83 [int b0] (.fresh false 3 1 (r.map int)):=by
 unfold N0n at h
 refine PC.start Tryz.func83 Tryz.ntmps83 rfl ok83 rfl ?_
 refine Run.sr (X.an ?_)
 refine Run.seq (Run.sr (X.mv ?_))
 obtain ⟨v1,hv1,h⟩:=bindE h
 refine X.cp (C0p _ _ _ _ hv1) ?_
 refine X.un (h:=?_)
 refine X.nil ?_
 refine R.cd (fun hc2=>?_) (fun hc2=>?_)
 ·replace h:=condT hc2 h
  refine Run.sr (X.an ?_)
  cases h
  refine R.fin1n (x:=false) (e:=3) (sz:=1) Tryz.results83 (by rfl) (by decide) ?_
  rfl
 replace h:=condF hc2 h
 refine Run.skip (Run.sr ?_)
 refine X.buildSlice false elt25 zer3 (by rfl) (by rfl) (by rfl) (by rfl) (by rfl) (by rfl) (by repeat (first | trivial | refine ⟨by first | rfl | simp [setL],?_⟩)) (A0s (by rfl)) (by rfl) (by rfl) (by rfl) ?_
 refine X.an ?_
 refine Run.seq (Run.sr (X.mv ?_))
 refine X.mn ?_
 obtain ⟨o3,ho3,h⟩:=bindE h
 refine R.join2 (β:=(List Int)) [] [] (fun p15 S=>(3,.own 512 (p15.map int).length)::S) (fun p15 M=>(512,.obj false 3 1 (p15.map int))::M) (fun p15=>p15=o3) ?_ ?_
 ·intro JJ6 hmeet5
  have hup4:=h;clear h;have h:=ho3;clear ho3
  refine Run.block ?_
  refine R.lp (β:=Int×(List Int)) [(9,int b0)] [] (fun bb S=>(3,.own 512 (bb.2.map int).length)::(10,int bb.1)::S) (fun bb M=>(512,.obj false 3 1 (bb.2.map int))::M) (fun n bb=>J0t b0 n bb.1 bb.2=some o3) F0 (0,([]:List Int)) h ?_
  clear h
  rintro JJ7 n7 ⟨a9,a10⟩ hag7 h
  dsimp only at h
  obtain _ | n7:=n7
  ·exact absurd h (by simp [J0t])
  rw [J0t] at h
  refine Run.sr (X.bi ?_)
  refine X.nil (Run.seq ?_)
  refine R.cd (fun hc13=>?_) (fun hc13=>?_)
  ·replace h:=condT hc13 h
   refine Run.skip (Run.seq (Run.block (Run.sr (X.mv ?_))))
   refine X.an ?_
   refine Run.reg (X.mv ?_)
   refine X.mv ?_
   refine X.buildSlice false elt25 zer3 (by rfl) (by rfl) (by rfl) (by rfl) (by rfl) (by rfl) (by repeat (first | trivial | refine ⟨by first | rfl | simp [setL],?_⟩)) (A0s (by rfl)) (by rfl) (by rfl) (by rfl) ?_
   obtain ⟨v14,hv14,h⟩:=bindE h
   refine X.append elt25 zer3 (by rfl) (by rfl) (by first | rfl | simp [setL] | omega) (by rfl) (.own _ _ _ _ _ _ (A0g (by rfl)) (by first | rfl | simp [setL] | omega)) (A0s (by rfl)) (E0p int hv14) (E0o int hv14) (by rfl) (by rfl) (by rfl) (by rfl) ?_
   refine X.an ?_
   refine Run.blk (Run.reg (X.addW (h:=?_)))
   refine X.mn ?_
   exact hag7 n7 ((W (a9+1)),v14) _ _ (by omega) h (by repeat (first | trivial | refine ⟨by first | rfl | simp [setL],?_⟩)) (by repeat (first | trivial | refine ⟨by first | rfl | simp [setL],?_⟩)) (by rfl) (by rfl)
  replace h:=condF hc13 h
  refine Run.exit (by rfl) ?_
  exact R.mt hmeet5 a10 (Option.some.inj h)
 rintro p15 rfl
 refine Run.sr (X.mv ?_)
 refine X.an ?_
 cases h
 refine R.fin1o Tryz.results83 (by rfl) (by rfl) (by first | rfl | simp [setL] | omega) ?_
 rfl
theorem K0h (b0:A0f)(r:List Int)(h:G0b b0=some r):PC Tryz.prog 36 [A0d b0] (.fresh false 3 1 (r.map int)):=by
 unfold G0b at h
 refine PC.start Tryz.func36 Tryz.ntmps36 rfl ok36 rfl ?_
 refine Run.sr (X.bx ?_)
 refine X.an ?_
 refine Run.sr (X.fl P0p ?_)
 refine X.ld shp48 ?_
 refine X.ls elt48 ?_
 obtain ⟨v1,hv1,h⟩:=bindE h
 refine X.callF (Y0q _ _ hv1) (by rfl) (by rfl) (by rfl) (by trivial) (by rfl) (by rfl) (by rfl) (by rfl) ?_
 refine X.an ?_
 cases h
 refine R.fin1o Tryz.results36 (by rfl) (by rfl) (by first | rfl | simp [setL] | omega) ?_
 rfl
theorem W0u (b0:List Int)(b1:Int)(r:Int)(h:K0c b0 b1=some r):PC Tryz.prog 165 [.slice (b0.map int),int b1] (int r):=by
 unfold K0c at h
 refine PC.start Tryz.func165 Tryz.ntmps165 rfl ok165 rfl ?_
 refine Run.sr (X.an ?_)
 refine Run.seq (Run.sr (X.mv ?_))
 refine X.ls elt25 ?_
 refine X.mn ?_
 obtain ⟨o1,ho1,h⟩:=bindE h
 refine R.join2 (β:=Unit) [] [] (fun p13 S=>S) (fun p13 M=>M) (fun p13=>(Sum.inl p13)=o1) ?_ ?_
 ·intro JJ4 hmeet3
  have hup2:=h;clear h;have h:=ho1;clear ho1
  refine Run.block ?_
  refine R.bndS (t:=0) (by rfl) (fun hbd7=>?_)
  replace hbd7:b0.length≤9223372036854775807:=by first | (rw [List.length_map] at hbd7;exact hbd7) | simp
  refine R.lp (β:=Int) [(0,.slice (b0.map int)),(1,int b1),(7,int (b0.length:Int))] [] (fun bb S=>(8,int bb)::S) (fun bb M=>M) (fun n bb=>0≤bb∧bb+n=(b0.length:Int)∧C0e b1 (b0.drop bb.toNat) bb=some o1) b0.length (0:Int) ⟨Int.le_refl _,by simp,h⟩ ?_
  clear h
  rintro JJ7 n7 z8 hag7 ⟨hza7,hzb7,h⟩
  refine Run.sr (X.bi ?_)
  refine X.nil (Run.seq ?_)
  refine R.cd (fun hc11=>?_) (fun hc11=>?_)
  ·obtain ⟨x9,xs10,hd7,hx7,hds7,hlt7⟩:=A0k hza7 hc11
   rw [hd7] at h
   rw [C0e] at h
   refine Run.skip (Run.seq (Run.block (Run.sr (X.mv ?_))))
   refine X.an ?_
   refine Run.sr (X.mv ?_)
   refine X.mv ?_
   refine X.mv ?_
   refine X.ix elt25 (A0a hx7).1 (A0c int hx7) ?_
   refine X.lc shp3 ?_
   refine X.bi ?_
   refine X.nil ?_
   refine R.cd (fun hc12=>?_) (fun hc12=>?_)
   ·replace h:=condT hc12 h
    refine Run.sr (X.mv ?_)
    refine X.an ?_
    cases h
    have h:=hup2
    replace h:=elimR h
    cases h
    refine R.f1 Tryz.results165 ?_
    rfl
   replace h:=condF hc12 h
   refine Run.skip (Run.blk (Run.reg (X.ad ?_)))
   refine X.mn ?_
   exact R.ag hag7 (n7 - 1) (z8+1) (R.n3 (by first | (rw [hds7];exact h) | (dsimp only;rw [hds7];exact h)))
  rw [A0h hza7 hc11] at h
  rw [C0e] at h
  refine Run.exit (by rfl) ?_
  exact R.mt hmeet3 () (Option.some.inj h)
 rintro p13 rfl
 replace h:=elimL h
 refine Run.sr (X.an ?_)
 cases h
 refine R.f1 Tryz.results165 ?_
 rfl
theorem N0d (b0:List Int)(b1:Int)(r:Bool)(h:D0d b0 b1=some r):PC Tryz.prog 148 [.slice (b0.map int),int b1] (bool r):=by
 unfold D0d at h
 refine PC.start Tryz.func148 Tryz.ntmps148 rfl ok148 rfl ?_
 refine Run.sr (X.an ?_)
 refine Run.sr (X.mv ?_)
 refine X.mv ?_
 obtain ⟨v1,hv1,h⟩:=bindE h
 refine X.cp (W0u _ _ _ hv1) ?_
 refine X.bi ?_
 refine X.an ?_
 cases h
 refine R.f1 Tryz.results148 ?_
 rfl
theorem E1b (b0:List Int)(b1:Int)(r:Bool)(h:R0t b0 b1=some r):PC Tryz.prog 127 [.slice (b0.map int),int b1] (bool r):=by
 unfold R0t at h
 refine PC.start Tryz.func127 Tryz.ntmps127 rfl ok127 rfl ?_
 refine Run.sr (X.an ?_)
 refine Run.sr (X.mv ?_)
 refine X.mv ?_
 obtain ⟨v1,hv1,h⟩:=bindE h
 refine X.cp (N0d _ _ _ hv1) ?_
 refine X.an ?_
 cases h
 refine R.f1 Tryz.results127 ?_
 rfl
theorem W0g (b0:A0f)(b1:List Int)(r:List TMode)(h:T0g b0 b1=some r):PC Tryz.prog 80 [A0d b0,.slice (b1.map int)] (.fresh false 100 3 (r.map B0f)):=by
 unfold T0g at h
 refine PC.start Tryz.func80 Tryz.ntmps80 rfl ok80 rfl ?_
 refine Run.sr (X.bx ?_)
 refine X.an ?_
 refine Run.sr ?_
 refine X.buildSlice false elt48 S0k (by rfl) (by rfl) (by rfl) (by rfl) (by rfl) (by rfl) (by repeat (first | trivial | refine ⟨by first | rfl | simp [setL],?_⟩)) (A0s (by rfl)) (by rfl) (by rfl) (by rfl) ?_
 refine X.an ?_
 refine Run.seq (Run.sr (X.fl P0p ?_))
 refine X.ld shp48 ?_
 refine X.ls elt48 ?_
 refine X.mn ?_
 obtain ⟨o1,ho1,h⟩:=bindE h
 refine R.join2 (β:=(List TMode)) [] [] (fun p16 S=>(5,.own 512 (p16.map B0f).length)::S) (fun p16 M=>(512,.obj false 100 3 (p16.map B0f))::M) (fun p16=>p16=o1) ?_ ?_
 ·intro JJ4 hmeet3
  have hup2:=h;clear h;have h:=ho1;clear ho1
  refine Run.block ?_
  refine R.bndS (t:=10) (by rfl) (fun hbd7=>?_)
  replace hbd7:b0.Modes.length≤9223372036854775807:=by first | (rw [List.length_map] at hbd7;exact hbd7) | simp
  refine R.lp (β:=Int×(List TMode)) [(1,.slice (b1.map int)),(10,.slice (b0.Modes.map B0f)),(11,int (b0.Modes.length:Int))] [] (fun bb S=>(5,.own 512 (bb.2.map B0f).length)::(12,int bb.1)::S) (fun bb M=>(512,.obj false 100 3 (bb.2.map B0f))::M) (fun n bb=>0≤bb.1∧bb.1+n=(b0.Modes.length:Int)∧J0q b1 (b0.Modes.drop bb.1.toNat) bb.1 bb.2=some o1) b0.Modes.length (0,([]:List TMode)) ⟨Int.le_refl _,by simp,h⟩ ?_
  clear h
  rintro JJ7 n7 ⟨z8,a9⟩ hag7 ⟨hza7,hzb7,h⟩
  dsimp only at hza7 hzb7 h
  refine Run.sr (X.bi ?_)
  refine X.nil (Run.seq ?_)
  refine R.cd (fun hc12=>?_) (fun hc12=>?_)
  ·obtain ⟨x10,xs11,hd7,hx7,hds7,hlt7⟩:=A0k hza7 hc12
   rw [hd7] at h
   rw [J0q] at h
   refine Run.skip (Run.seq (Run.block (Run.sr (X.mv ?_))))
   refine X.ix elt48 (A0a hx7).1 (A0c B0f hx7) ?_
   refine X.lc K0m ?_
   refine X.alloc S0k (h:=?_)
   refine X.as ?_
   refine X.sl K0m ?_
   refine X.nil (Run.sr (X.mv ?_))
   refine X.mv ?_
   obtain ⟨v13,hv13,h⟩:=bindE h
   refine X.cp (E1b _ _ _ hv13) ?_
   refine X.nil ?_
   refine R.cd (fun hc14=>?_) (fun hc14=>?_)
   ·replace h:=condT hc14 h
    refine Run.reg (X.mv ?_)
    refine X.ld K0m ?_
    refine X.buildSlice false elt48 S0k (by rfl) (by rfl) (by rfl) (by rfl) (by rfl) (by rfl) (by repeat (first | trivial | refine ⟨by first | rfl | simp [setL],?_⟩)) (A0s (by rfl)) (by rfl) (by rfl) (by rfl) ?_
    obtain ⟨v15,hv15,h⟩:=bindE h
    refine X.append elt48 S0k (by rfl) (by rfl) (by first | rfl | simp [setL] | omega) (by rfl) (.own _ _ _ _ _ _ (A0g (by rfl)) (by first | rfl | simp [setL] | omega)) (A0s (by rfl)) (E0p B0f hv15) (E0o B0f hv15) (by rfl) (by rfl) (by rfl) (by rfl) ?_
    refine X.an ?_
    refine Run.blk (Run.reg (X.ad ?_))
    refine X.mn ?_
    exact R.ag hag7 (n7 - 1) (z8+1,v15) (R.n3 (by first | (rw [hds7];exact h) | (dsimp only;rw [hds7];exact h)))
   replace h:=condF hc14 h
   refine Run.skip (Run.blk (Run.reg (X.ad ?_)))
   refine X.mn ?_
   exact R.ag hag7 (n7 - 1) (z8+1,a9) (R.n3 (by first | (rw [hds7];exact h) | (dsimp only;rw [hds7];exact h)))
  rw [A0h hza7 hc12] at h
  rw [J0q] at h
  refine Run.exit (by rfl) ?_
  exact R.mt hmeet3 a9 (Option.some.inj h)
 rintro p16 rfl
 refine Run.sr (X.mv ?_)
 refine X.an ?_
 cases h
 refine R.fin1o Tryz.results80 (by rfl) (by rfl) (by first | rfl | simp [setL] | omega) ?_
 rfl
theorem P0k (b0:A0f)(b1:List Int)(r:Int)(h:G0z b0 b1=some r):PC Tryz.prog 100 [A0d b0,.slice (b1.map int)] (int r):=by
 unfold G0z at h
 refine PC.start Tryz.func100 Tryz.ntmps100 rfl ok100 rfl ?_
 refine Run.sr (X.bx ?_)
 refine X.an ?_
 refine Run.sr (X.an ?_)
 refine Run.seq (Run.sr (X.ld shp50 ?_))
 refine X.mv ?_
 obtain ⟨v1,hv1,h⟩:=bindE h
 refine X.callF (W0g _ _ _ hv1) (by rfl) (by rfl) (by rfl) (by trivial) (by rfl) (by rfl) (by rfl) (by rfl) ?_
 refine X.len_o elt48 (by rfl) (by rfl) (by first | rfl | simp [setL] | omega) (by first | exact List.length_map .. | rfl) (by rfl) (by rfl) ?_
 refine X.mn ?_
 obtain ⟨o2,ho2,h⟩:=bindE h
 refine R.join2 (β:=Int) [] [] (fun p17 S=>(5,int p17)::S) (fun p17 M=>M) (fun p17=>p17=o2) ?_ ?_
 ·intro JJ5 hmeet4
  have hup3:=h;clear h;have h:=ho2;clear ho2
  refine Run.block ?_
  refine R.bndO (n:=640) (by rfl) (fun hbd8=>?_)
  replace hbd8:v1.length≤9223372036854775807:=by first | (rw [List.length_map] at hbd8;exact hbd8) | simp
  refine R.lp (β:=Int×Int) [(11,int (v1.length:Int))] [(640,.obj false 100 3 (v1.map B0f))] (fun bb S=>(5,int bb.2)::(10,.own 640 (v1.map B0f).length)::(12,int bb.1)::S) (fun bb M=>M) (fun n bb=>0≤bb.1∧bb.1+n=(v1.length:Int)∧D0c (v1.drop bb.1.toNat) bb.1 bb.2=some o2) v1.length (0,0) ⟨Int.le_refl _,by simp,h⟩ ?_
  clear h
  rintro JJ8 n8 ⟨z9,a10⟩ hag8 ⟨hza8,hzb8,h⟩
  dsimp only at hza8 hzb8 h
  refine Run.sr (X.bi ?_)
  refine X.nil (Run.seq ?_)
  refine R.cd (fun hc13=>?_) (fun hc13=>?_)
  ·obtain ⟨x11,xs12,hd8,hx8,hds8,hlt8⟩:=A0k hza8 hc13
   rw [hd8] at h
   rw [D0c] at h
   refine Run.skip (Run.seq (Run.block (Run.sr (X.mv ?_))))
   refine X.index_o elt48 (by rfl) (by rfl) (by first | rfl | simp [setL] | omega) (by rfl) (A0a hx8).1 (A0c B0f hx8) (by rfl) (by rfl) (by rfl) ?_
   refine X.lc K0m ?_
   refine X.alloc S0k (h:=?_)
   refine X.as ?_
   refine X.sl K0m ?_
   refine X.nil (Run.seq ?_)
   obtain ⟨e14,he14,h2⟩:=bindE h
   refine R.regG [(5,int a10),(7,.lptr 448 0),(10,.own 640 (v1.map B0f).length),(11,int (v1.length:Int)),(12,int z9),(24,bool e14)] [(448,.blk true [int x11.Duration,.slice (x11.Usage.map int),.slice (x11.Consumption.map int)]),(640,.obj false 100 3 (v1.map B0f))] ?_ ?_
   ·clear h;have h:=he14;clear he14 h2
    refine X.mv ?_
    refine X.bi ?_
    refine X.mv ?_
    refine X.iG (fun hb15=>?_) (fun hb15=>?_)
    ·replace h:=condF hb15 h
     refine X.fl N0c ?_
     refine X.gy (X.ld shp3 ?_)
     refine X.gy (X.mv ?_)
     refine X.gy (X.bi ?_)
     refine X.pF ?_
     cases h
     exact X.eG
    replace h:=condT hb15 h
    refine X.gn (X.gn (X.gn (X.pT ?_)))
    cases h
    exact X.eG
   replace h:=h2;clear h2
   refine R.cd (fun hc16=>?_) (fun hc16=>?_)
   ·replace h:=condT hc16 h
    refine Run.reg (X.fl N0c ?_)
    refine X.ld shp3 ?_
    refine X.an ?_
    refine Run.blk (Run.reg (X.ad ?_))
    refine X.mn ?_
    exact R.ag hag8 (n8 - 1) (z9+1,x11.Duration) (R.n3 (by first | (rw [hds8];exact h) | (dsimp only;rw [hds8];exact h)))
   replace h:=condF hc16 h
   refine Run.skip (Run.blk (Run.reg (X.ad ?_)))
   refine X.mn ?_
   exact R.ag hag8 (n8 - 1) (z9+1,a10) (R.n3 (by first | (rw [hds8];exact h) | (dsimp only;rw [hds8];exact h)))
  rw [A0h hza8 hc13] at h
  rw [D0c] at h
  refine Run.exit (by rfl) ?_
  exact R.mt hmeet4 a10 (Option.some.inj h)
 rintro p17 rfl
 refine Run.sr (X.mv ?_)
 refine X.an ?_
 cases h
 refine R.f1 Tryz.results100 ?_
 rfl
theorem A1q (b0:A0b)(b1:TLink)(b2:List Int)(r:Int)(h:M0z b0 b1 b2=some r):PC Tryz.prog 135 [A0n b0,A0l b1,.slice (b2.map int)] (int r):=by
 unfold M0z at h
 refine PC.start Tryz.func135 Tryz.ntmps135 rfl ok135 rfl ?_
 refine Run.sr (X.bx ?_)
 refine X.bx ?_
 refine X.an ?_
 refine Run.seq (Run.sr (X.fl D1w ?_))
 refine X.ld shp4 ?_
 refine X.nil ?_
 refine R.cd (fun hc1=>?_) (fun hc1=>?_)
 ·replace h:=condT hc1 h
  refine Run.seq (Run.draw (B0s [(1,([256],[],[],[])),(3,([192],[],[],[])),(5,([256],[],[],[]))]) mixed (by kernel_rfl) (by kernel_rfl) ?_)
  refine X.fl T0m ?_
  refine X.ld shp3 ?_
  refine X.fl B0l ?_
  refine X.ld shp30 ?_
  refine X.fl J0s ?_
  refine X.ld shp3 ?_
  obtain ⟨v2,hv2,h⟩:=bindE h
  refine X.ix elt30 (A0a hv2).1 (A0c A0d hv2) ?_
  refine X.lc shp50 ?_
  refine X.mv ?_
  obtain ⟨v3,hv3,h⟩:=bindE h
  refine X.cp (P0k _ _ _ hv3) ?_
  refine X.addW (h:=?_)
  refine X.an ?_
  cases h
  refine R.f1 Tryz.results135 ?_
  rfl
 replace h:=condF hc1 h
 refine Run.skip (Run.sr (X.fl T0m ?_))
 refine X.ld shp3 ?_
 refine X.an ?_
 cases h
 refine R.f1 Tryz.results135 ?_
 rfl
theorem L0k (b0:A0b)(b1:TLink)(r:Int)(h:D0r b0 b1=some r):PC Tryz.prog 95 [A0n b0,A0l b1] (int r):=by
 unfold D0r at h
 refine PC.start Tryz.func95 Tryz.ntmps95 rfl ok95 rfl ?_
 refine Run.sr (X.bx ?_)
 refine X.bx ?_
 refine X.an ?_
 refine Run.seq (Run.draw (B0s [(0,([128],[],[],[])),(1,([192],[],[],[])),(3,([128],[],[],[])),(5,([192],[],[],[])),(8,([],[832],[],[])),(9,([832],[],[],[]))]) mixed (by kernel_rfl) (by kernel_rfl) ?_)
 refine X.ld shp34 ?_
 refine X.ld shp87 ?_
 refine X.fl B0l ?_
 refine X.ld shp30 ?_
 refine X.fl J0s ?_
 refine X.ld shp3 ?_
 obtain ⟨v1,hv1,h⟩:=bindE h
 refine X.ix elt30 (A0a hv1).1 (A0c A0d hv1) ?_
 refine X.lc shp50 ?_
 obtain ⟨v2,hv2,h⟩:=bindE h
 refine X.callF (K0h _ _ hv2) (by rfl) (by rfl) (by rfl) (by trivial) (by rfl) (by rfl) (by rfl) (by rfl) ?_
 obtain ⟨v3,hv3,h⟩:=bindE h
 refine X.cp (A1q _ _ _ _ hv3) ?_
 refine X.an ?_
 cases h
 refine R.f1 Tryz.results95 ?_
 rfl
theorem M0f (b0:List Int)(r:List Int)(h:F0s b0=some r):PC Tryz.prog 153 [.slice (b0.map int)] (.fresh false 3 1 (r.map int)):=by
 unfold F0s at h
 refine PC.split (fun hl ad cap=>?_) (fun hl=>?_)
 ·refine PC.start Tryz.func153 Tryz.ntmps153 rfl ok153 rfl ?_
  refine Run.sr (X.an ?_)
  refine Run.seq (Run.sr (X.mv ?_))
  refine X.eqlNilL elt25 (by rfl) (by rfl) (by rfl) ?_
  refine X.nil ?_
  refine R.cd (fun hc=>?_) (fun hc=>?_)
  ·refine Run.sr (X.an ?_)
   refine R.fin1n (x:=false) (e:=3) (sz:=1) Tryz.results153 (by rfl) (by decide) ?_
   obtain ⟨q,hq,h⟩:=bindE h
   have hqr:=Option.some.inj h
   have hz:r=[]:=by rw [← hqr,(D1z hq).2,List.map_eq_nil_iff.1 hl];rfl
   rw [hz];rfl
  refine Run.skip (R.slice0 (t:=0) (l:=b0.map int) hl (by rfl) ?_)
  refine Run.sr ?_
  refine X.buildSlice false elt25 zer3 (by rfl) (by rfl) (by rfl) (by rfl) (by rfl) (by rfl) (by repeat (first | trivial | refine ⟨by first | rfl | simp [setL],?_⟩)) (A0s (by rfl)) (by rfl) (by rfl) (by rfl) ?_
  refine X.mv ?_
  obtain ⟨v1,hv1,h⟩:=bindE h
  refine X.append elt25 zer3 (by rfl) (by rfl) (by first | rfl | simp [setL] | omega) (by rfl) (.pure _) (by exact A0i (f:=int) (fun _=>rfl)) (E0p int hv1) (E0o int hv1) (by rfl) (by rfl) (by rfl) (by rfl) ?_
  refine X.an ?_
  cases h
  refine R.fin1o Tryz.results153 (by rfl) (by rfl) (by first | rfl | simp [setL] | omega) ?_
  rfl
 refine PC.start Tryz.func153 Tryz.ntmps153 rfl ok153 rfl ?_
 refine Run.sr (X.an ?_)
 refine Run.seq (Run.sr (X.mv ?_))
 refine X.eqlNilS elt25 (by rfl) (.pure _) (.inl hl) (by rfl) (by rfl) ?_
 refine X.nil (R.condF (b:=(b0.map int).isEmpty) (by simpa using hl) (by rfl) ?_)
 refine Run.skip (Run.sr ?_)
 refine X.buildSlice false elt25 zer3 (by rfl) (by rfl) (by rfl) (by rfl) (by rfl) (by rfl) (by repeat (first | trivial | refine ⟨by first | rfl | simp [setL],?_⟩)) (A0s (by rfl)) (by rfl) (by rfl) (by rfl) ?_
 refine X.mv ?_
 obtain ⟨v1,hv1,h⟩:=bindE h
 refine X.append elt25 zer3 (by rfl) (by rfl) (by first | rfl | simp [setL] | omega) (by rfl) (.pure _) (by exact A0i (f:=int) (fun _=>rfl)) (E0p int hv1) (E0o int hv1) (by rfl) (by rfl) (by rfl) (by rfl) ?_
 refine X.an ?_
 cases h
 refine R.fin1o Tryz.results153 (by rfl) (by rfl) (by first | rfl | simp [setL] | omega) ?_
 rfl
theorem V0o (rec:A0b→(List Int)→(List Int)→Int→Int→Option (List Int))(hrec:∀(b0:A0b) (b1:List Int) (b2:List Int) (b3:Int) (b4:Int) (r:List Int),rec b0 b1 b2 b3 b4=some r→PC Tryz.prog 134 [A0n b0,.slice (b1.map int),.slice (b2.map int),int b3,int b4] (nilsV (r.map int)))(b0:A0b)(b1:List Int)(b2:List Int)(b3:Int)(b4:Int)(r:List Int)(h:J0g rec b0 b1 b2 b3 b4=some r):PC Tryz.prog 134 [A0n b0,.slice (b1.map int),.slice (b2.map int),int b3,int b4] (nilsV (r.map int)):=by
 unfold J0g at h
 refine PC.start Tryz.func134 Tryz.ntmps134 rfl ok134 rfl ?_
 refine Run.sr (X.bx ?_)
 refine X.an ?_
 refine Run.seq (Run.draw2 (B0s [(1,([320],[],[],[])),(8,([320],[],[],[])),(17,([704],[704],[],[])),(18,([768],[768],[],[])),(19,([704],[704],[],[])),(20,([768],[768],[],[]))]) mixed (by kernel_rfl) (by kernel_rfl) ?_)
 refine X.fl J0c ?_
 refine X.ld shp31 ?_
 refine X.mv ?_
 obtain ⟨v1,hv1,h⟩:=bindE h
 refine X.ix elt25 (A0a hv1).1 (A0c int hv1) ?_
 refine X.lc shp3 ?_
 obtain ⟨v2,hv2,h⟩:=bindE h
 refine X.ix elt31 (A0a hv2).1 (A0c A0l hv2) ?_
 refine X.lc shp87 ?_
 refine X.fl J0c ?_
 refine X.ld shp31 ?_
 refine X.mv ?_
 refine X.mv ?_
 refine X.ls elt25 ?_
 refine X.subW (h:=?_)
 obtain ⟨v3,hv3,h⟩:=bindE h
 refine X.ix elt25 (A0a hv3).1 (A0c int hv3) ?_
 refine X.lc shp3 ?_
 obtain ⟨v4,hv4,h⟩:=bindE h
 refine X.ix elt31 (A0a hv4).1 (A0c A0l hv4) ?_
 refine X.lc shp87 ?_
 refine X.alloc zer87 (h:=?_)
 refine X.alloc zer87 (h:=?_)
 refine X.sl shp87 ?_
 refine X.sl shp87 ?_
 refine X.nil (Run.seq (Run.sr (X.mv ?_)))
 refine X.ls elt25 ?_
 refine X.mv ?_
 refine X.bi ?_
 refine X.nil ?_
 refine R.cd (fun hc5=>?_) (fun hc5=>?_)
 ·replace h:=condT hc5 h
  refine Run.seq (Run.seq ?_)
  obtain ⟨e6,he6,h2⟩:=bindE h
  refine R.regG [(1,.slice (b1.map int)),(45,bool e6)] [] ?_ ?_
  ·clear h;have h:=he6;clear he6 h2
   refine X.fl L0j ?_
   refine X.ld shp3 ?_
   refine X.fl J0s ?_
   refine X.ld shp3 ?_
   refine X.bi ?_
   refine X.mv ?_
   refine X.iG (fun hb7=>?_) (fun hb7=>?_)
   ·replace h:=condT hb7 h
    refine X.mv ?_
    refine X.gy (X.bi ?_)
    refine X.pT ?_
    cases h
    exact X.eG
   replace h:=condF hb7 h
   refine X.gn (X.pF ?_)
   cases h
   exact X.eG
  replace h:=h2;clear h2
  refine R.cd (fun hc8=>?_) (fun hc8=>?_)
  ·replace h:=condT hc8 h
   refine Run.sr (X.mv ?_)
   obtain ⟨v9,hv9,h⟩:=bindE h
   refine X.callF (M0f _ _ hv9) (by rfl) (by rfl) (by rfl) (by trivial) (by rfl) (by rfl) (by rfl) (by rfl) ?_
   refine X.an ?_
   obtain ⟨v10,hv10,h⟩:=bindE h
   cases h
   refine R.castS (t:=10) _ (by rfl) (.inr (.inr ⟨_,_,_,_,_,rfl,(by rfl),(by first | rfl | simp [setL] | omega),rfl⟩)) ?_
   refine R.f1 Tryz.results134 ?_
   exact R1s int hv10
  replace h:=condF hc8 h
  refine Run.skip (Run.sr (X.an ?_))
  cases h
  refine R.f1 Tryz.results134 ?_
  rfl
 replace h:=condF hc5 h
 refine Run.skip (Run.seq (Run.sr (X.mv ?_)))
 refine X.fl L0j ?_
 refine X.ld shp3 ?_
 obtain ⟨v11,hv11,h⟩:=bindE h
 refine X.cp (N0d _ _ _ hv11) ?_
 refine X.nil ?_
 refine R.cd (fun hc12=>?_) (fun hc12=>?_)
 ·replace h:=condT hc12 h
  refine Run.sr (X.an ?_)
  cases h
  refine R.f1 Tryz.results134 ?_
  rfl
 replace h:=condF hc12 h
 refine Run.skip (Run.seq (Run.sr (X.fl J0c ?_)))
 refine X.ld shp31 ?_
 refine X.ls elt31 ?_
 refine X.mn ?_
 obtain ⟨o13,ho13,h⟩:=bindE h
 refine R.join2 (β:=Unit) [] [] (fun p34 S=>S) (fun p34 M=>M) (fun p34=>(Sum.inl p34)=o13) ?_ ?_
 ·intro JJ16 hmeet15
  have hup14:=h;clear h;have h:=ho13;clear ho13
  refine Run.block ?_
  refine R.bndS (t:=17) (by rfl) (fun hbd19=>?_)
  replace hbd19:b0.Links.length≤9223372036854775807:=by first | (rw [List.length_map] at hbd19;exact hbd19) | simp
  refine R.lp (β:=Int) [(1,.slice (b1.map int)),(2,.slice (b2.map int)),(3,int b3),(4,int b4),(5,.lptr 320 0),(12,.lptr 768 0),(53,.slice (b0.Links.map A0l)),(54,int (b0.Links.length:Int))] [(320,.blk true [int b0.Deadline,.slice (b0.Activities.map A0d),.slice (b0.Links.map A0l),.slice (b0.Resources.map A0e),.slice (b0.Stocks.map int)]),(768,.blk true [int v4.From,int v4.To,bool v4.FromEnd,int v4.Lag])] (fun bb S=>(55,int bb)::S) (fun bb M=>M) (fun n bb=>0≤bb∧bb+n=(b0.Links.length:Int)∧C0y b0 b1 b2 b3 b4 rec v1 v4 (b0.Links.drop bb.toNat) bb=some o13) b0.Links.length (0:Int) ⟨Int.le_refl _,by simp,h⟩ ?_
  clear h
  rintro JJ19 n19 z20 hag19 ⟨hza19,hzb19,h⟩
  refine Run.sr (X.bi ?_)
  refine X.nil (Run.seq ?_)
  refine R.cd (fun hc23=>?_) (fun hc23=>?_)
  ·obtain ⟨x21,xs22,hd19,hx19,hds19,hlt19⟩:=A0k hza19 hc23
   rw [hd19] at h
   rw [C0y] at h
   refine Run.skip (Run.seq (Run.block (Run.sr (X.mv ?_))))
   refine X.ix elt31 (A0a hx19).1 (A0c A0l hx19) ?_
   refine X.lc shp87 ?_
   refine X.alloc zer87 (h:=?_)
   refine X.as ?_
   refine X.sl shp87 ?_
   refine X.nil (Run.seq ?_)
   obtain ⟨e24,he24,h2⟩:=bindE h
   refine R.regG [(1,.slice (b1.map int)),(2,.slice (b2.map int)),(3,int b3),(4,int b4),(5,.lptr 320 0),(12,.lptr 768 0),(13,int z20),(14,.lptr 896 0),(53,.slice (b0.Links.map A0l)),(54,int (b0.Links.length:Int)),(55,int z20),(71,bool e24)] [(320,.blk true [int b0.Deadline,.slice (b0.Activities.map A0d),.slice (b0.Links.map A0l),.slice (b0.Resources.map A0e),.slice (b0.Stocks.map int)]),(768,.blk true [int v4.From,int v4.To,bool v4.FromEnd,int v4.Lag]),(896,.blk true [int x21.From,int x21.To,bool x21.FromEnd,int x21.Lag])] ?_ ?_
   ·clear h;have h:=he24;clear he24 h2
    refine X.mv ?_
    refine X.mv ?_
    refine X.ix elt25 (A0a hv1).1 (A0c int hv1) ?_
    refine X.lc shp3 ?_
    refine X.bi ?_
    refine X.mv ?_
    refine X.iG (fun hb25=>?_) (fun hb25=>?_)
    ·replace h:=condT hb25 h
     refine X.fl J0s ?_
     refine X.gy (X.ld shp3 ?_)
     refine X.gy (X.fl L0j ?_)
     refine X.gy (X.ld shp3 ?_)
     refine X.gy (X.bi ?_)
     refine X.pT ?_
     cases h
     exact X.eG
    replace h:=condF hb25 h
    refine X.gn (X.gn (X.gn (X.gn (X.pF ?_))))
    cases h
    exact X.eG
   replace h:=h2;clear h2
   refine R.cd (fun hc26=>?_) (fun hc26=>?_)
   ·replace h:=condT hc26 h
    refine Run.seq (Run.draw2 (B0s [(0,([320],[],[],[])),(2,([],[4736],[],[])),(4,([4864],[4864],[],[])),(5,([4736,4864],[4736],[],[])),(7,([],[5056],[],[])),(9,([768],[],[],[])),(10,([5248],[5248],[],[])),(11,([5056,5248],[5056],[],[])),(13,([320],[],[],[])),(14,([896],[],[],[])),(18,([4736,5056],[],[],[]))]) mixed (by kernel_rfl) (by kernel_rfl) ?_)
    refine X.ld shp34 ?_
    refine X.mv ?_
    obtain ⟨v27,hv27,h⟩:=bindE h
    refine X.callF (M0f _ _ hv27) (by rfl) (by rfl) (by rfl) (by trivial) (by rfl) (by rfl) (by rfl) (by rfl) ?_
    refine X.mv ?_
    refine X.buildSlice false elt25 zer3 (by rfl) (by rfl) (by rfl) (by rfl) (by rfl) (by rfl) (by repeat (first | trivial | refine ⟨by first | rfl | simp [setL],?_⟩)) (A0s (by rfl)) (by rfl) (by rfl) (by rfl) ?_
    obtain ⟨v28,hv28,h⟩:=bindE h
    refine X.append elt25 zer3 (by rfl) (by rfl) (by first | rfl | simp [setL] | omega) (by rfl) (.own _ _ _ _ _ _ (A0g (by rfl)) (by first | rfl | simp [setL] | omega)) (A0s (by rfl)) (E0p int hv28) (E0o int hv28) (by rfl) (by rfl) (by rfl) (by rfl) ?_
    refine X.mv ?_
    obtain ⟨v29,hv29,h⟩:=bindE h
    refine X.callF (M0f _ _ hv29) (by rfl) (by rfl) (by rfl) (by trivial) (by rfl) (by rfl) (by rfl) (by rfl) ?_
    refine X.fl L0j ?_
    refine X.ld shp3 ?_
    refine X.buildSlice false elt25 zer3 (by rfl) (by rfl) (by rfl) (by rfl) (by rfl) (by rfl) (by repeat (first | trivial | refine ⟨by first | rfl | simp [setL],?_⟩)) (A0s (by rfl)) (by rfl) (by rfl) (by rfl) ?_
    obtain ⟨v30,hv30,h⟩:=bindE h
    refine X.append elt25 zer3 (by rfl) (by rfl) (by first | rfl | simp [setL] | omega) (by rfl) (.own _ _ _ _ _ _ (A0g (by rfl)) (by first | rfl | simp [setL] | omega)) (A0s (by rfl)) (E0p int hv30) (E0o int hv30) (by rfl) (by rfl) (by rfl) (by rfl) ?_
    refine X.mv ?_
    refine X.ld shp34 ?_
    refine X.ld shp87 ?_
    obtain ⟨v31,hv31,h⟩:=bindE h
    refine X.cp (L0k _ _ _ hv31) ?_
    refine X.addW (h:=?_)
    refine X.mv ?_
    obtain ⟨v32,hv32,h⟩:=bindE h
    refine X.callN (hrec _ _ _ _ _ _ hv32) (by rfl) (by rfl) (by rfl) (by repeat (first | trivial | refine ⟨by first | rfl | simp [setL],?_⟩)) (by rfl) (by rfl) (by rfl) ?_
    refine X.an ?_
    refine Run.sr (X.mv ?_)
    refine X.neqN (z:=(!(v32.isEmpty))) elt25 (by rfl) (by simp) (by rfl) (by rfl) ?_
    refine X.nil ?_
    refine R.cd (fun hc33=>?_) (fun hc33=>?_)
    ·replace h:=condT hc33 h
     refine Run.sr (X.mv ?_)
     refine X.an ?_
     cases h
     have h:=hup14
     replace h:=elimR h
     cases h
     refine R.fin1 Tryz.results134 (by rfl) (W0k _) ?_
     rfl
    replace h:=condF hc33 h
    refine Run.skip (Run.blk (Run.reg (X.ad ?_)))
    refine X.mn ?_
    exact R.ag hag19 (n19 - 1) (z20+1) (R.n3 (by first | (rw [hds19];exact h) | (dsimp only;rw [hds19];exact h)))
   replace h:=condF hc26 h
   refine Run.skip (Run.blk (Run.reg (X.ad ?_)))
   refine X.mn ?_
   exact R.ag hag19 (n19 - 1) (z20+1) (R.n3 (by first | (rw [hds19];exact h) | (dsimp only;rw [hds19];exact h)))
  rw [A0h hza19 hc23] at h
  rw [C0y] at h
  refine Run.exit (by rfl) ?_
  exact R.mt hmeet15 () (Option.some.inj h)
 rintro p34 rfl
 replace h:=elimL h
 refine Run.sr (X.an ?_)
 cases h
 refine R.f1 Tryz.results134 ?_
 rfl
theorem X0q (b0:A0b)(b1:List Int)(b2:List Int)(b3:Int)(b4:Int)(r:List Int)(h:Q0t b0 b1 b2 b3 b4=some r):PC Tryz.prog 134 [A0n b0,.slice (b1.map int),.slice (b2.map int),int b3,int b4] (nilsV (r.map int)):=by
 have key:∀(n:Nat)(b0:A0b)(b1:List Int)(b2:List Int)(b3:Int)(b4:Int)(r:List Int),E0r n b0 b1 b2 b3 b4=some r→PC Tryz.prog 134 [A0n b0,.slice (b1.map int),.slice (b2.map int),int b3,int b4] (nilsV (r.map int)):=by
  intro n
  induction n with
  | zero=>intro b0 b1 b2 b3 b4 r h;cases h
  | succ n ih=>intro b0 b1 b2 b3 b4 r h;exact V0o (E0r n) ih b0 b1 b2 b3 b4 r h
 exact key F0 b0 b1 b2 b3 b4 r h
theorem X0z (b0:A0b)(r:List Int)(h:J0f b0=some r):PC Tryz.prog 93 [A0n b0] (nilsV (r.map int)):=by
 unfold J0f at h
 refine PC.start Tryz.func93 Tryz.ntmps93 rfl ok93 rfl ?_
 refine Run.sr (X.bx ?_)
 refine X.an ?_
 refine Run.seq (Run.sr (X.ld shp34 ?_))
 obtain ⟨v1,hv1,h⟩:=bindE h
 refine X.cp (G0i _ _ hv1) ?_
 refine X.un (h:=?_)
 refine X.nil ?_
 refine R.cd (fun hc2=>?_) (fun hc2=>?_)
 ·replace h:=condT hc2 h
  refine Run.sr (X.an ?_)
  cases h
  refine R.f1 Tryz.results93 ?_
  rfl
 replace h:=condF hc2 h
 refine Run.skip (Run.seq (Run.sr (X.an ?_)))
 obtain ⟨o3,ho3,h⟩:=bindE h
 refine R.join2 (β:=Unit) [] [] (fun p28 S=>S) (fun p28 M=>M) (fun p28=>(Sum.inl p28)=o3) ?_ ?_
 ·intro JJ6 hmeet5
  have hup4:=h;clear h;have h:=ho3;clear ho3
  refine Run.block ?_
  refine R.lp (β:=Int) [(1,.lptr 64 0)] [(64,.blk true [int b0.Deadline,.slice (b0.Activities.map A0d),.slice (b0.Links.map A0l),.slice (b0.Resources.map A0e),.slice (b0.Stocks.map int)])] (fun bb S=>(3,int bb)::S) (fun bb M=>M) (fun n bb=>C0k b0 n bb=some o3) F0 2 h ?_
  clear h
  rintro JJ6 n6 a8 hag6 h
  obtain _ | n6:=n6
  ·exact absurd h (by simp [C0k])
  rw [C0k] at h
  refine Run.seq (Run.sr (X.mv ?_))
  refine X.fl B0l ?_
  refine X.ld shp30 ?_
  refine X.ls elt30 ?_
  refine X.bi ?_
  refine X.nil ?_
  refine R.cd (fun hc11=>?_) (fun hc11=>?_)
  ·replace h:=condT hc11 h
   refine Run.skip (Run.seq (Run.block (Run.sr (X.fl J0c ?_))))
   refine X.ld shp31 ?_
   refine X.ls elt31 ?_
   refine X.mn ?_
   obtain ⟨o12,ho12,h⟩:=bindE h
   refine R.join2 (β:=Unit) [(1,.lptr 64 0),(3,int a8)] [(64,.blk true [int b0.Deadline,.slice (b0.Activities.map A0d),.slice (b0.Links.map A0l),.slice (b0.Resources.map A0e),.slice (b0.Stocks.map int)])] (fun p26 S=>S) (fun p26 M=>M) (fun p26=>(Sum.inl p26)=o12) ?_ ?_
   ·intro JJ15 hmeet14
    have hup13:=h;clear h;have h:=ho12;clear ho12
    refine Run.block ?_
    refine R.bndS (t:=18) (by rfl) (fun hbd18=>?_)
    replace hbd18:b0.Links.length≤9223372036854775807:=by first | (rw [List.length_map] at hbd18;exact hbd18) | simp
    refine R.lp (β:=Int) [(1,.lptr 64 0),(3,int a8),(18,.slice (b0.Links.map A0l)),(19,int (b0.Links.length:Int))] [(64,.blk true [int b0.Deadline,.slice (b0.Activities.map A0d),.slice (b0.Links.map A0l),.slice (b0.Resources.map A0e),.slice (b0.Stocks.map int)])] (fun bb S=>(20,int bb)::S) (fun bb M=>M) (fun n bb=>0≤bb∧bb+n=(b0.Links.length:Int)∧E0g b0 a8 (b0.Links.drop bb.toNat) bb=some o12) b0.Links.length (0:Int) ⟨Int.le_refl _,by simp,h⟩ ?_
    clear h
    rintro JJ18 n18 z19 hag18 ⟨hza18,hzb18,h⟩
    refine Run.sr (X.bi ?_)
    refine X.nil (Run.seq ?_)
    refine R.cd (fun hc22=>?_) (fun hc22=>?_)
    ·obtain ⟨x20,xs21,hd18,hx18,hds18,hlt18⟩:=A0k hza18 hc22
     rw [hd18] at h
     rw [E0g] at h
     refine Run.skip (Run.seq (Run.block (Run.sr (X.mv ?_))))
     refine X.ix elt31 (A0a hx18).1 (A0c A0l hx18) ?_
     refine X.lc shp87 ?_
     refine X.alloc zer87 (h:=?_)
     refine X.as ?_
     refine X.sl shp87 ?_
     refine X.nil (Run.seq (Run.draw (B0s [(0,([64],[],[],[])),(2,([1728],[1728],[],[])),(4,([320],[],[],[])),(5,([1920],[1920],[],[])),(6,([64],[],[],[])),(7,([320],[],[],[])),(10,([1728,1920],[],[],[]))]) mixed (by kernel_rfl) (by kernel_rfl) ?_))
     refine X.ld shp34 ?_
     refine X.mv ?_
     refine X.buildSlice false elt25 zer3 (by rfl) (by rfl) (by rfl) (by rfl) (by rfl) (by rfl) (by repeat (first | trivial | refine ⟨by first | rfl | simp [setL],?_⟩)) (A0s (by rfl)) (by rfl) (by rfl) (by rfl) ?_
     refine X.fl J0s ?_
     refine X.ld shp3 ?_
     refine X.buildSlice false elt25 zer3 (by rfl) (by rfl) (by rfl) (by rfl) (by rfl) (by rfl) (by repeat (first | trivial | refine ⟨by first | rfl | simp [setL],?_⟩)) (A0s (by rfl)) (by rfl) (by rfl) (by rfl) ?_
     refine X.ld shp34 ?_
     refine X.ld shp87 ?_
     obtain ⟨v23,hv23,h⟩:=bindE h
     refine X.cp (L0k _ _ _ hv23) ?_
     refine X.mv ?_
     obtain ⟨v24,hv24,h⟩:=bindE h
     refine X.callN (X0q _ _ _ _ _ _ hv24) (by rfl) (by rfl) (by rfl) (by repeat (first | trivial | refine ⟨by first | rfl | simp [setL],?_⟩)) (by rfl) (by rfl) (by rfl) ?_
     refine X.an ?_
     refine Run.sr (X.mv ?_)
     refine X.neqN (z:=(!(v24.isEmpty))) elt25 (by rfl) (by simp) (by rfl) (by rfl) ?_
     refine X.nil ?_
     refine R.cd (fun hc25=>?_) (fun hc25=>?_)
     ·replace h:=condT hc25 h
      refine Run.sr (X.mv ?_)
      refine X.an ?_
      cases h
      have h:=hup13
      replace h:=elimR h
      cases h
      have h:=hup4
      replace h:=elimR h
      cases h
      refine R.fin1 Tryz.results93 (by rfl) (W0k _) ?_
      rfl
     replace h:=condF hc25 h
     refine Run.skip (Run.blk (Run.reg (X.ad ?_)))
     refine X.mn ?_
     exact R.ag hag18 (n18 - 1) (z19+1) (R.n3 (by first | (rw [hds18];exact h) | (dsimp only;rw [hds18];exact h)))
    rw [A0h hza18 hc22] at h
    rw [E0g] at h
    refine Run.exit (by rfl) ?_
    exact R.mt hmeet14 () (Option.some.inj h)
   rintro p26 rfl
   replace h:=elimL h
   refine Run.blk (Run.reg (X.mv ?_))
   refine X.addW (h:=?_)
   refine X.an ?_
   exact hag6 n6 (W (a8+1)) _ _ (by omega) h (by trivial) (by trivial) (by rfl) (by rfl)
  replace h:=condF hc11 h
  refine Run.exit (by rfl) ?_
  exact R.mt hmeet5 () (Option.some.inj h)
 rintro p28 rfl
 replace h:=elimL h
 refine Run.sr (X.an ?_)
 cases h
 refine R.f1 Tryz.results93 ?_
 rfl
theorem S0h (b0:Int)(b1:Int)(b2:Int)(c3:List (List Bool))(c4:List (List Int))(r:(List (List Bool))×(List (List Int)))(h:D0x b0 b1 b2 c3 c4=some r):PCM Tryz.prog 94 [int b0,int b1,int b2,.lptr 63 0,.lptr 127 0] (clo2 112 1 25 1 (c3.map (fun r=>rowN 4 1 (List.map bool r))) (c4.map (fun r=>rowN 3 1 (List.map int r))) (c3.map (fun r=>rowN 4 1 (List.map bool r))).length (c4.map (fun r=>rowN 3 1 (List.map int r))).length) (.tuple []) (clo2 112 1 25 1 (r.1.map (fun r=>rowN 4 1 (List.map bool r))) (r.2.map (fun r=>rowN 3 1 (List.map int r))) (r.1.map (fun r=>rowN 4 1 (List.map bool r))).length (r.2.map (fun r=>rowN 3 1 (List.map int r))).length):=by
 unfold D0x at h
 refine PCM.startClo Tryz.func94 Tryz.ntmps94 rfl ok94 (by rfl) ?_
 refine Run.seq ?_
 obtain ⟨v1,hv1,h⟩:=bindE h
 obtain ⟨v2,hv2,h⟩:=bindE h
 obtain ⟨v3,hv3,h⟩:=bindE h
 obtain ⟨e4,he4,h2⟩:=bindE h
 refine R.regG [(0,int b0),(1,int b1),(2,int b2),(3,.lptr 63 0),(4,.lptr 127 0),(26,bool e4)] [(63,.blk true [.tref 191 (c3.map (fun r=>rowN 4 1 (List.map bool r))).length .out]),(127,.blk true [.tref 255 (c4.map (fun r=>rowN 3 1 (List.map int r))).length .out]),(191,.tre 112 1 (c3.map (fun r=>rowN 4 1 (List.map bool r)))),(255,.tre 25 1 (c4.map (fun r=>rowN 3 1 (List.map int r))))] ?_ ?_
 ·clear h;have h:=he4;clear he4 h2
  refine X.ld A1d ?_
  refine X.mv ?_
  refine X.idxT2 (l:=c3.map (fun r=>rowN 4 1 (List.map bool r))) A1f (by rfl) (by rfl) (by rfl) ⟨(A0a hv1).1,by have h0:=(A0a hv1).1;have h1:=A0t hv1;rw [List.length_map];(try dsimp only);omega⟩ (by first | rfl | simp [setL] | omega) (by rfl) (by rfl) ?_
  refine X.ldRow2 (sz:=1) C1r (by rfl) (by rfl) (C0x (f:=bool) (e:=4) (sz:=1) hv1 (E0d hv2)) (by first | rfl | simp [setL] | omega) (by rfl) (by rfl) ?_
  refine X.mv ?_
  refine X.idxR2 (l:=c3.map (fun r=>rowN 4 1 (List.map bool r))) (rl:=v1.map bool) D1n (by rfl) (by rfl) (by rfl) (C0x (f:=bool) (e:=4) (sz:=1) hv1 (E0d hv2)) ⟨(A0a hv3).1,by have h0:=(A0a hv3).1;have h1:=A0t hv3;rw [List.length_map];(try dsimp only);omega⟩ (by first | rfl | simp [setL] | omega) (by rfl) (by rfl) ?_
  refine X.ldE2 (sz2:=1) shp4 (by rfl) (by rfl) (C0x (f:=bool) (e:=4) (sz:=1) hv1 (E0d hv2)) (A0w (off:=0) (by exact A0i (f:=bool) (fun _=>rfl)) (A0c bool hv3) (by rfl)) (by first | rfl | simp [setL] | omega) (by rfl) (by rfl) ?_
  refine X.un (h:=?_)
  refine X.mv ?_
  refine X.iG (fun hb5=>?_) (fun hb5=>?_)
  ·replace h:=condF hb5 h
   refine X.mv ?_
   refine X.gy (X.ld shp59 ?_)
   refine X.gy (X.mv ?_)
   refine X.gy ?_
   obtain ⟨v6,hv6,h⟩:=bindE h
   refine X.idxT2 (l:=c4.map (fun r=>rowN 3 1 (List.map int r))) elt59 (by rfl) (by rfl) (by rfl) ⟨(A0a hv6).1,by have h0:=(A0a hv6).1;have h1:=A0t hv6;rw [List.length_map];(try dsimp only);omega⟩ (by first | rfl | simp [setL] | omega) (by rfl) (by rfl) ?_
   refine X.gy ?_
   obtain ⟨v7,hv7,h⟩:=bindE h
   refine X.ldRow2 (sz:=1) shp25 (by rfl) (by rfl) (C0x (f:=int) (e:=3) (sz:=1) hv6 (E0d hv7)) (by first | rfl | simp [setL] | omega) (by rfl) (by rfl) ?_
   refine X.gy (X.mv ?_)
   refine X.gy ?_
   obtain ⟨v8,hv8,h⟩:=bindE h
   refine X.idxR2 (l:=c4.map (fun r=>rowN 3 1 (List.map int r))) (rl:=v6.map int) elt25 (by rfl) (by rfl) (by rfl) (C0x (f:=int) (e:=3) (sz:=1) hv6 (E0d hv7)) ⟨(A0a hv8).1,by have h0:=(A0a hv8).1;have h1:=A0t hv8;rw [List.length_map];(try dsimp only);omega⟩ (by first | rfl | simp [setL] | omega) (by rfl) (by rfl) ?_
   refine X.gy ?_
   refine X.ldE2 (sz2:=1) shp3 (by rfl) (by rfl) (C0x (f:=int) (e:=3) (sz:=1) hv6 (E0d hv7)) (A0w (off:=0) (by exact A0i (f:=int) (fun _=>rfl)) (A0c int hv8) (by rfl)) (by first | rfl | simp [setL] | omega) (by rfl) (by rfl) ?_
   refine X.gy (X.bi ?_)
   refine X.pF ?_
   cases h
   exact X.eG
  replace h:=condT hb5 h
  refine X.gn (X.gn (X.gn (X.gn (X.gn (X.gn (X.gn (X.gn ?_)))))))
  refine X.pT ?_
  cases h
  exact X.eG
 replace h:=h2;clear h2
 refine R.cd (fun hc9=>?_) (fun hc9=>?_)
 ·replace h:=condT hc9 h
  refine Run.draw2 (B0s [(0,([127],[],[],[])),(2,([255],[],[],[])),(3,([255],[],[],[])),(5,([63],[],[],[])),(7,([191],[],[],[])),(8,([191],[],[],[])),(11,([255],[],[],[])),(12,([255],[255],[],[])),(13,([191],[],[],[])),(14,([191],[191],[],[]))]) mixed (by kernel_rfl) (by kernel_rfl) ?_
  refine X.ld shp59 ?_
  refine X.mv ?_
  obtain ⟨v10,hv10,h⟩:=bindE h
  refine X.idxT2 (l:=c4.map (fun r=>rowN 3 1 (List.map int r))) elt59 (by rfl) (by rfl) (by rfl) ⟨(A0a hv10).1,by have h0:=(A0a hv10).1;have h1:=A0t hv10;rw [List.length_map];(try dsimp only);omega⟩ (by first | rfl | simp [setL] | omega) (by rfl) (by rfl) ?_
  obtain ⟨v11,hv11,h⟩:=bindE h
  refine X.ldRow2 (sz:=1) shp25 (by rfl) (by rfl) (C0x (f:=int) (e:=3) (sz:=1) hv10 (E0d hv11)) (by first | rfl | simp [setL] | omega) (by rfl) (by rfl) ?_
  refine X.mv ?_
  refine X.ld A1d ?_
  refine X.mv ?_
  refine X.idxT2 (l:=c3.map (fun r=>rowN 4 1 (List.map bool r))) A1f (by rfl) (by rfl) (by rfl) ⟨(A0a hv1).1,by have h0:=(A0a hv1).1;have h1:=A0t hv1;rw [List.length_map];(try dsimp only);omega⟩ (by first | rfl | simp [setL] | omega) (by rfl) (by rfl) ?_
  refine X.ldRow2 (sz:=1) C1r (by rfl) (by rfl) (C0x (f:=bool) (e:=4) (sz:=1) hv1 (E0d hv2)) (by first | rfl | simp [setL] | omega) (by rfl) (by rfl) ?_
  refine X.mv ?_
  refine X.mv ?_
  obtain ⟨v12,hv12,h⟩:=bindE h
  refine X.idxR2 (l:=c4.map (fun r=>rowN 3 1 (List.map int r))) (rl:=v10.map int) elt25 (by rfl) (by rfl) (by rfl) (C0x (f:=int) (e:=3) (sz:=1) hv10 (E0d hv11)) ⟨(A0a hv12).1,by have h0:=(A0a hv12).1;have h1:=A0t hv12;rw [List.length_map];(try dsimp only);omega⟩ (by first | rfl | simp [setL] | omega) (by rfl) (by rfl) ?_
  refine X.stE2 (l2:=(setL c4 b0 (setL v10 b1 b2)).map (fun r=>rowN 3 1 (List.map int r))) (rl2:=(setL v10 b1 b2).map int) (sz2:=1) (sz:=1) shp3 (by rfl) (by rfl) (by rfl) (C0x (f:=int) (e:=3) (sz:=1) hv10 (E0d hv11)) (A0w (off:=0) (by exact A0i (f:=int) (fun _=>rfl)) (A0c int hv12) (by rfl)) (by simp [setL]) (by exact A0i (f:=int) (fun _=>rfl)) (by rw [← D0b];exact L0q (by exact A0i (f:=int) (fun _=>rfl)) (A0c int hv12) (by rfl) (by decide)) (by simp [setL]) (V0i _) (V0g (f:=int) (e:=3) (sz:=1) hv10 (F1p _ _ (E0d hv11))) (by first | rfl | simp [setL] | omega) (by rfl) ?_
  refine X.idxR2 (l:=c3.map (fun r=>rowN 4 1 (List.map bool r))) (rl:=v1.map bool) D1n (by rfl) (by rfl) (by rfl) (C0x (f:=bool) (e:=4) (sz:=1) hv1 (E0d hv2)) ⟨(A0a hv3).1,by have h0:=(A0a hv3).1;have h1:=A0t hv3;rw [List.length_map];(try dsimp only);omega⟩ (by first | rfl | simp [setL] | omega) (by rfl) (by rfl) ?_
  refine X.stE2 (l2:=(setL c3 b0 (setL v1 b1 true)).map (fun r=>rowN 4 1 (List.map bool r))) (rl2:=(setL v1 b1 true).map bool) (sz2:=1) (sz:=1) shp4 (by rfl) (by rfl) (by rfl) (C0x (f:=bool) (e:=4) (sz:=1) hv1 (E0d hv2)) (A0w (off:=0) (by exact A0i (f:=bool) (fun _=>rfl)) (A0c bool hv3) (by rfl)) (by simp [setL]) (by exact A0i (f:=bool) (fun _=>rfl)) (by rw [← D0b];exact L0q (by exact A0i (f:=bool) (fun _=>rfl)) (A0c bool hv3) (by rfl) (by decide)) (by simp [setL]) (V0i _) (V0g (f:=bool) (e:=4) (sz:=1) hv1 (F1p _ _ (E0d hv2))) (by first | rfl | simp [setL] | omega) (by rfl) ?_
  refine X.nil ?_
  cases h
  refine R.tell (n:=63) (p':=.blk true [.tref 191 ((setL c3 b0 (setL v1 b1 true)).map (fun r=>rowN 4 1 (List.map bool r))).length .out]) (by rfl) (by first | rfl | simp [setL]) ?_
  refine R.tell (n:=127) (p':=.blk true [.tref 255 ((setL c4 b0 (setL v10 b1 b2)).map (fun r=>rowN 3 1 (List.map int r))).length .out]) (by rfl) (by first | rfl | simp [setL]) ?_
  exact R.endM0 Tryz.results94 (show BackL _ [(63,_),(127,_),(191,_),(255,_)] from ⟨by rfl,by rfl,by rfl,by rfl,trivial⟩) rfl
 replace h:=condF hc9 h
 refine Run.skip ?_
 cases h
 refine R.tell (n:=63) (p':=.blk true [.tref 191 (c3.map (fun r=>rowN 4 1 (List.map bool r))).length .out]) (by rfl) (by first | rfl | simp [setL]) ?_
 refine R.tell (n:=127) (p':=.blk true [.tref 255 (c4.map (fun r=>rowN 3 1 (List.map int r))).length .out]) (by rfl) (by first | rfl | simp [setL]) ?_
 exact R.endM0 Tryz.results94 (show BackL _ [(63,_),(127,_),(191,_),(255,_)] from ⟨by rfl,by rfl,by rfl,by rfl,trivial⟩) rfl
theorem E1h (b0:A0b)(r:List (List Int))(h:J0p b0=some r):PC Tryz.prog 44 [A0n b0] (.tre 25 1 (r.map t_int)):=by
 unfold J0p at h
 refine PC.start Tryz.func44 Tryz.ntmps44 rfl ok44 rfl ?_
 refine Run.sr (X.bx ?_)
 refine X.an ?_
 refine Run.seq (Run.seq ?_)
 obtain ⟨v1,hv1,h⟩:=bindE h
 obtain ⟨e2,he2,h2⟩:=bindE h
 refine R.regG [(1,.lptr 64 0),(23,bool e2)] [(64,.blk true [int b0.Deadline,.slice (b0.Activities.map A0d),.slice (b0.Links.map A0l),.slice (b0.Resources.map A0e),.slice (b0.Stocks.map int)])] ?_ ?_
 ·clear h;have h:=he2;clear he2 h2
  refine X.ld shp34 ?_
  refine X.cp (G0i _ _ hv1) ?_
  refine X.un (h:=?_)
  refine X.mv ?_
  refine X.iG (fun hb3=>?_) (fun hb3=>?_)
  ·replace h:=condF hb3 h
   refine X.ld shp34 ?_
   refine X.gy ?_
   obtain ⟨v4,hv4,h⟩:=bindE h
   refine X.callN (X0z _ _ hv4) (by rfl) (by rfl) (by rfl) (by trivial) (by rfl) (by rfl) (by rfl) ?_
   refine X.gy (X.lenN (z:=(v4.length:Int)) elt25 (by rfl) (by simp) (by rfl) (by rfl) ?_)
   refine X.gy (X.bi ?_)
   refine X.pF ?_
   cases h
   exact X.eG
  replace h:=condT hb3 h
  refine X.gn (X.gn (X.gn (X.pT ?_)))
  cases h
  exact X.eG
 replace h:=h2;clear h2
 refine R.cd (fun hc5=>?_) (fun hc5=>?_)
 ·replace h:=condT hc5 h
  refine Run.sr (X.an ?_)
  cases h
  refine R.fin1tn (e:=25) (sz:=1) Tryz.results44 (by rfl) (by decide) ?_
  rfl
 replace h:=condF hc5 h
 refine Run.skip (Run.sr (X.fl B0l ?_))
 refine X.ld shp30 ?_
 refine X.ls elt30 ?_
 refine X.an ?_
 refine Run.seq (Run.draw2 (B0s [(1,([1792],[1792],[],[])),(3,([1920],[1920],[],[])),(4,([256],[256],[],[])),(5,([320],[320],[],[])),(6,([256,1792],[256],[],[])),(7,([320,1920],[320],[],[]))]) mixed (by kernel_rfl) (by kernel_rfl) ?_)
 refine X.mv ?_
 obtain ⟨v6,hv6,h⟩:=bindE h
 refine X.makeT (f:=int) (e2:=3) (sz2:=1) hv6 elt59 zer25 (by rfl) (by rfl) (by rfl) (by rfl) (by rfl) (by rfl) ?_
 refine X.mv ?_
 obtain ⟨v7,hv7,h⟩:=bindE h
 refine X.makeT (f:=bool) (e2:=4) (sz2:=1) hv7 A1f S1n (by rfl) (by rfl) (by rfl) (by rfl) (by rfl) (by rfl) ?_
 refine X.alloc zer59 (h:=?_)
 refine X.alloc S1p (h:=?_)
 refine X.storeT shp59 (by rfl) (by rfl) (by rfl) (by rfl) (by first | rfl | simp [setL] | omega) (by rfl) (by rfl) ?_
 refine X.storeT A1d (by rfl) (by rfl) (by rfl) (by rfl) (by first | rfl | simp [setL] | omega) (by rfl) (by rfl) ?_
 refine X.nil (Run.seq (Run.sr (X.mv ?_)))
 refine X.mn ?_
 obtain ⟨o8,ho8,h⟩:=bindE h
 refine R.join2 (β:=(List (List Int))×(List (List Bool))) [(1,.lptr 64 0),(3,int (b0.Activities.length:Int)),(4,.lptr 256 0),(5,.lptr 320 0)] [(64,.blk true [int b0.Deadline,.slice (b0.Activities.map A0d),.slice (b0.Links.map A0l),.slice (b0.Resources.map A0e),.slice (b0.Stocks.map int)])] (fun p32 S=>S) (fun p32 M=>(256,.blk true [.tref 1792 (p32.1.map (fun r=>rowN 3 1 (List.map int r))).length .out])::(1792,.tre 25 1 (p32.1.map (fun r=>rowN 3 1 (List.map int r))))::(320,.blk true [.tref 1920 (p32.2.map (fun r=>rowN 4 1 (List.map bool r))).length .out])::(1920,.tre 112 1 (p32.2.map (fun r=>rowN 4 1 (List.map bool r))))::M) (fun p32=>p32=o8) ?_ ?_
 ·intro JJ11 hmeet10
  have hup9:=h;clear h;have h:=ho8;clear ho8
  refine Run.block ?_
  refine R.bndS (t:=25) (by rfl) (fun hbd14=>?_)
  replace hbd14:b0.Activities.length≤9223372036854775807:=by first | (rw [List.length_map] at hbd14;exact hbd14) | simp
  refine R.lp (β:=Int×(List (List Int))×(List (List Bool))) [(1,.lptr 64 0),(3,int (b0.Activities.length:Int)),(4,.lptr 256 0),(5,.lptr 320 0),(31,int (b0.Activities.length:Int))] [(64,.blk true [int b0.Deadline,.slice (b0.Activities.map A0d),.slice (b0.Links.map A0l),.slice (b0.Resources.map A0e),.slice (b0.Stocks.map int)])] (fun bb S=>(32,int bb.1)::S) (fun bb M=>(256,.blk true [.tref 1792 (bb.2.1.map (fun r=>rowN 3 1 (List.map int r))).length .out])::(1792,.tre 25 1 (bb.2.1.map (fun r=>rowN 3 1 (List.map int r))))::(320,.blk true [.tref 1920 (bb.2.2.map (fun r=>rowN 4 1 (List.map bool r))).length .out])::(1920,.tre 112 1 (bb.2.2.map (fun r=>rowN 4 1 (List.map bool r))))::M) (fun n bb=>0≤bb.1∧bb.1+n=(b0.Activities.length:Int)∧G0d b0 (b0.Activities.drop bb.1.toNat) bb.1 bb.2.1 bb.2.2=some o8) b0.Activities.length (0,v6,v7) ⟨Int.le_refl _,by simp,h⟩ ?_
  clear h
  rintro JJ14 n14 ⟨z15,a16,a17⟩ hag14 ⟨hza14,hzb14,h⟩
  dsimp only at hza14 hzb14 h
  refine Run.sr (X.bi ?_)
  refine X.nil (Run.seq ?_)
  refine R.cd (fun hc20=>?_) (fun hc20=>?_)
  ·obtain ⟨x18,xs19,hd14,hx14,hds14,hlt14⟩:=A0k hza14 hc20
   rw [hd14] at h
   rw [G0d] at h
   refine Run.skip (Run.seq (Run.block (Run.sr (X.mv ?_))))
   refine X.an ?_
   refine Run.seq (Run.draw2 (B0s [(0,([256],[],[],[])),(2,([320],[],[],[])),(5,([2560],[2560],[],[])),(7,([2688],[2688],[],[])),(8,([1792],[],[],[])),(9,([1792,2560],[1792,2560],[],[])),(10,([1920],[],[],[])),(11,([1920,2688],[1920,2688],[],[]))]) mixed (by kernel_rfl) (by kernel_rfl) ?_)
   refine X.ld shp59 ?_
   refine X.mv ?_
   refine X.ld A1d ?_
   refine X.mv ?_
   refine X.mv ?_
   obtain ⟨v21,hv21,h⟩:=bindE h
   refine X.makeSlice2 int hv21 elt25 zer3 (by rfl) (by rfl) (by rfl) (by simp [PV.plain]) (by rfl) (by rfl) (by rfl) (by rfl) (by rfl) (by rfl) ?_
   refine X.mv ?_
   obtain ⟨v22,hv22,h⟩:=bindE h
   refine X.makeSlice2 bool hv22 D1n zer4 (by rfl) (by rfl) (by rfl) (by simp [PV.plain]) (by rfl) (by rfl) (by rfl) (by rfl) (by rfl) (by rfl) ?_
   obtain ⟨v23,hv23,h⟩:=bindE h
   refine X.idxT2 (l:=a16.map (fun r=>rowN 3 1 (List.map int r))) elt59 (by rfl) (by rfl) (by rfl) ⟨(A0a hv23).1,by have h0:=(A0a hv23).1;have h1:=A0t hv23;rw [List.length_map];(try dsimp only);omega⟩ (by first | rfl | simp [setL] | omega) (by rfl) (by rfl) ?_
   obtain ⟨v24,hv24,h⟩:=bindE h
   obtain ⟨v25,hv25,h⟩:=bindE h
   refine X.stRow (l2:=(setL a16 z15 v21).map (fun r=>rowN 3 1 (List.map int r))) (rl:=v21.map int) (sz:=1) shp25 (L1m (f:=int) (e:=3) (sz:=1) hv23 (J1p hv24)) (F1u _ (fun _=>(by repeat (first | exact trivial | refine ⟨trivial,?_⟩)))) (by simp [setL]) (V0i _) (V0g (f:=int) (e:=3) (sz:=1) hv23 (E0d hv25)) (by first | rfl | simp [setL] | omega) (by first | rfl | simp [setL] | omega) ?_
   obtain ⟨v26,hv26,h⟩:=bindE h
   refine X.idxT2 (l:=a17.map (fun r=>rowN 4 1 (List.map bool r))) A1f (by rfl) (by rfl) (by rfl) ⟨(A0a hv26).1,by have h0:=(A0a hv26).1;have h1:=A0t hv26;rw [List.length_map];(try dsimp only);omega⟩ (by first | rfl | simp [setL] | omega) (by rfl) (by rfl) ?_
   obtain ⟨v27,hv27,h⟩:=bindE h
   obtain ⟨v28,hv28,h⟩:=bindE h
   refine X.stRow (l2:=(setL a17 z15 v22).map (fun r=>rowN 4 1 (List.map bool r))) (rl:=v22.map bool) (sz:=1) C1r (L1m (f:=bool) (e:=4) (sz:=1) hv26 (J1p hv27)) (F1u _ (fun _=>(by repeat (first | exact trivial | refine ⟨trivial,?_⟩)))) (by simp [setL]) (V0i _) (V0g (f:=bool) (e:=4) (sz:=1) hv26 (E0d hv28)) (by first | rfl | simp [setL] | omega) (by first | rfl | simp [setL] | omega) ?_
   refine X.nil (Run.reg (X.ld A1d ?_))
   refine X.mv ?_
   obtain ⟨v29,hv29,h⟩:=bindE h
   refine X.idxT2 (l:=(setL a17 z15 v22).map (fun r=>rowN 4 1 (List.map bool r))) A1f (by rfl) (by rfl) (by rfl) ⟨(A0a hv29).1,by have h0:=(A0a hv29).1;have h1:=A0t hv29;rw [List.length_map];(try dsimp only);omega⟩ (by first | rfl | simp [setL] | omega) (by rfl) (by rfl) ?_
   obtain ⟨v30,hv30,h⟩:=bindE h
   refine X.ldRow2 (sz:=1) C1r (by rfl) (by rfl) (C0x (f:=bool) (e:=4) (sz:=1) hv29 (E0d hv30)) (by first | rfl | simp [setL] | omega) (by rfl) (by rfl) ?_
   refine X.mv ?_
   obtain ⟨v31,hv31,h⟩:=bindE h
   refine X.idxR2 (l:=(setL a17 z15 v22).map (fun r=>rowN 4 1 (List.map bool r))) (rl:=v29.map bool) D1n (by rfl) (by rfl) (by rfl) (C0x (f:=bool) (e:=4) (sz:=1) hv29 (E0d hv30)) ⟨(A0a hv31).1,by have h0:=(A0a hv31).1;have h1:=A0t hv31;rw [List.length_map];(try dsimp only);omega⟩ (by first | rfl | simp [setL] | omega) (by rfl) (by rfl) ?_
   refine X.stE2 (l2:=(setL (setL a17 z15 v22) z15 (setL v29 z15 true)).map (fun r=>rowN 4 1 (List.map bool r))) (rl2:=(setL v29 z15 true).map bool) (sz2:=1) (sz:=1) shp4 (by rfl) (by rfl) (by rfl) (C0x (f:=bool) (e:=4) (sz:=1) hv29 (E0d hv30)) (A0w (off:=0) (by exact A0i (f:=bool) (fun _=>rfl)) (A0c bool hv31) (by rfl)) (by simp [setL]) (by exact A0i (f:=bool) (fun _=>rfl)) (by rw [← D0b];exact L0q (by exact A0i (f:=bool) (fun _=>rfl)) (A0c bool hv31) (by rfl) (by decide)) (by simp [setL]) (V0i _) (V0g (f:=bool) (e:=4) (sz:=1) hv29 (F1p _ _ (E0d hv30))) (by first | rfl | simp [setL] | omega) (by rfl) ?_
   refine X.nil (Run.blk (Run.reg (X.ad ?_)))
   refine X.mn ?_
   refine R.tell (n:=256) (p':=.blk true [.tref 1792 ((setL a16 z15 v21).map (fun r=>rowN 3 1 (List.map int r))).length .out]) (by rfl) (by first | rfl | simp [setL]) ?_
   refine R.tell (n:=320) (p':=.blk true [.tref 1920 ((setL (setL a17 z15 v22) z15 (setL v29 z15 true)).map (fun r=>rowN 4 1 (List.map bool r))).length .out]) (by rfl) (by first | rfl | simp [setL]) ?_
   exact R.ag hag14 (n14 - 1) (z15+1,(setL a16 z15 v21),(setL (setL a17 z15 v22) z15 (setL v29 z15 true))) (R.n3 (by first | (rw [hds14];exact h) | (dsimp only;rw [hds14];exact h)))
  rw [A0h hza14 hc20] at h
  rw [G0d] at h
  refine Run.exit (by rfl) ?_
  exact R.mt hmeet10 (a16,a17) (Option.some.inj h)
 rintro p32 rfl
 refine Run.sr (X.makeClo (n:=320) (ns:=[256]) (by rfl) (by rfl) ?_)
 refine X.an ?_
 refine Run.seq (Run.sr (X.fl J0c ?_))
 refine X.ld shp31 ?_
 refine X.ls elt31 ?_
 refine X.mn ?_
 obtain ⟨o33,ho33,h⟩:=bindE h
 refine R.join2 (β:=(List (List Int))×(List (List Bool))) [(3,int (b0.Activities.length:Int)),(4,.lptr 256 0),(5,.lptr 320 0),(7,.tref 320 0 (.clo 94 [256]))] [] (fun p50 S=>S) (fun p50 M=>(256,.blk true [.tref 1792 (p50.1.map (fun r=>rowN 3 1 (List.map int r))).length .out])::(1792,.tre 25 1 (p50.1.map (fun r=>rowN 3 1 (List.map int r))))::(320,.blk true [.tref 1920 (p50.2.map (fun r=>rowN 4 1 (List.map bool r))).length .out])::(1920,.tre 112 1 (p50.2.map (fun r=>rowN 4 1 (List.map bool r))))::M) (fun p50=>p50=o33) ?_ ?_
 ·intro JJ36 hmeet35
  have hup34:=h;clear h;have h:=ho33;clear ho33
  refine Run.block ?_
  refine R.bndS (t:=54) (by rfl) (fun hbd39=>?_)
  replace hbd39:b0.Links.length≤9223372036854775807:=by first | (rw [List.length_map] at hbd39;exact hbd39) | simp
  refine R.lp (β:=Int×(List (List Int))×(List (List Bool))) [(1,.lptr 64 0),(3,int (b0.Activities.length:Int)),(4,.lptr 256 0),(5,.lptr 320 0),(7,.tref 320 0 (.clo 94 [256])),(54,.slice (b0.Links.map A0l)),(55,int (b0.Links.length:Int))] [(64,.blk true [int b0.Deadline,.slice (b0.Activities.map A0d),.slice (b0.Links.map A0l),.slice (b0.Resources.map A0e),.slice (b0.Stocks.map int)])] (fun bb S=>(56,int bb.1)::S) (fun bb M=>(256,.blk true [.tref 1792 (bb.2.1.map (fun r=>rowN 3 1 (List.map int r))).length .out])::(1792,.tre 25 1 (bb.2.1.map (fun r=>rowN 3 1 (List.map int r))))::(320,.blk true [.tref 1920 (bb.2.2.map (fun r=>rowN 4 1 (List.map bool r))).length .out])::(1920,.tre 112 1 (bb.2.2.map (fun r=>rowN 4 1 (List.map bool r))))::M) (fun n bb=>0≤bb.1∧bb.1+n=(b0.Links.length:Int)∧G0h b0 (b0.Links.drop bb.1.toNat) bb.1 bb.2.1 bb.2.2=some o33) b0.Links.length (0,p32.1,p32.2) ⟨Int.le_refl _,by simp,h⟩ ?_
  clear h
  rintro JJ39 n39 ⟨z40,a41,a42⟩ hag39 ⟨hza39,hzb39,h⟩
  dsimp only at hza39 hzb39 h
  refine Run.sr (X.bi ?_)
  refine X.nil (Run.seq ?_)
  refine R.cd (fun hc45=>?_) (fun hc45=>?_)
  ·obtain ⟨x43,xs44,hd39,hx39,hds39,hlt39⟩:=A0k hza39 hc45
   rw [hd39] at h
   rw [G0h] at h
   refine Run.skip (Run.seq (Run.block (Run.sr (X.ix elt31 (A0a hx39).1 (A0c A0l hx39) ?_))))
   refine X.lc shp87 ?_
   refine X.alloc zer87 (h:=?_)
   refine X.sl shp87 ?_
   refine X.nil (Run.draw2 (B0s [(2,([576],[],[],[])),(4,([576],[],[],[])),(5,([64],[],[],[])),(6,([576],[],[],[])),(8,([256,320,1792,1920],[1792,1920],[],[]))]) mixed (by kernel_rfl) (by kernel_rfl) ?_)
   refine X.mv ?_
   refine X.fl J0s ?_
   refine X.ld shp3 ?_
   refine X.fl L0j ?_
   refine X.ld shp3 ?_
   refine X.ld shp34 ?_
   refine X.ld shp87 ?_
   obtain ⟨v46,hv46,h⟩:=bindE h
   refine X.cp (L0k _ _ _ hv46) ?_
   obtain ⟨v47,hv47,h⟩:=bindE h
   obtain ⟨v48,hv48,h⟩:=bindE h
   obtain ⟨v49,hv49,h⟩:=bindE h
   refine X.callClo2 (xs:=[int x43.From,int x43.To,int v46]) (S0h _ _ _ _ _  _ hv47) (by rfl) (by rfl) (by rfl) (by rfl) (by rfl) (by rfl) (by rfl) (by first | rfl | simp [setL] | omega) (by first | rfl | simp [setL] | omega) (by rfl) (by rfl) (by simp [P0g hv48]) (by simp [P0g hv49]) (T0o hv48) (T0o hv49) (by rfl) (by rfl) ?_
   refine X.tell (n:=320) (p':=.blk true [.tref 1920 (v47.1.map (fun r=>rowN 4 1 (List.map bool r))).length .out]) (by rfl) (by simp [P0g hv48,setL]) ?_
   refine X.tell (n:=256) (p':=.blk true [.tref 1792 (v47.2.map (fun r=>rowN 3 1 (List.map int r))).length .out]) (by rfl) (by simp [P0g hv49,setL]) ?_
   refine X.nil (Run.blk (Run.reg (X.ad ?_)))
   refine X.mn ?_
   exact R.ag hag39 (n39 - 1) (z40+1,v47.2,v47.1) (R.n3 (by first | (rw [hds39];exact h) | (dsimp only;rw [hds39];exact h)))
  rw [A0h hza39 hc45] at h
  rw [G0h] at h
  refine Run.exit (by rfl) ?_
  exact R.mt hmeet35 (a41,a42) (Option.some.inj h)
 rintro p50 rfl
 refine Run.seq (Run.sr (X.mv ?_))
 refine X.mn ?_
 obtain ⟨o51,ho51,h⟩:=bindE h
 refine R.join2 (β:=(List (List Int))×(List (List Bool))) [(3,int (b0.Activities.length:Int)),(4,.lptr 256 0),(5,.lptr 320 0)] [] (fun p107 S=>S) (fun p107 M=>(256,.blk true [.tref 1792 (p107.1.map (fun r=>rowN 3 1 (List.map int r))).length .out])::(1792,.tre 25 1 (p107.1.map (fun r=>rowN 3 1 (List.map int r))))::(320,.blk true [.tref 1920 (p107.2.map (fun r=>rowN 4 1 (List.map bool r))).length .out])::(1920,.tre 112 1 (p107.2.map (fun r=>rowN 4 1 (List.map bool r))))::M) (fun p107=>p107=o51) ?_ ?_
 ·intro JJ54 hmeet53
  have hup52:=h;clear h;have h:=ho51;clear ho51
  refine Run.block ?_
  refine R.lp (β:=Int×(List (List Int))×(List (List Bool))) [(3,int (b0.Activities.length:Int)),(4,.lptr 256 0),(5,.lptr 320 0),(7,.tref 320 0 (.clo 94 [256])),(70,int (b0.Activities.length:Int))] [] (fun bb S=>(71,int bb.1)::S) (fun bb M=>(256,.blk true [.tref 1792 (bb.2.1.map (fun r=>rowN 3 1 (List.map int r))).length .out])::(1792,.tre 25 1 (bb.2.1.map (fun r=>rowN 3 1 (List.map int r))))::(320,.blk true [.tref 1920 (bb.2.2.map (fun r=>rowN 4 1 (List.map bool r))).length .out])::(1920,.tre 112 1 (bb.2.2.map (fun r=>rowN 4 1 (List.map bool r))))::M) (fun n bb=>E0z b0 n bb.1 bb.2.1 bb.2.2=some o51) F0 (0,p50.1,p50.2) h ?_
  clear h
  rintro JJ55 n55 ⟨a57,a58,a59⟩ hag55 h
  dsimp only at h
  obtain _ | n55:=n55
  ·exact absurd h (by simp [E0z])
  rw [E0z] at h
  refine Run.sr (X.bi ?_)
  refine X.nil (Run.seq ?_)
  refine R.cd (fun hc62=>?_) (fun hc62=>?_)
  ·replace h:=condT hc62 h
   refine Run.skip (Run.seq (Run.block (Run.sr (X.mv ?_))))
   refine X.an ?_
   refine Run.sr (X.mv ?_)
   refine X.mn ?_
   obtain ⟨o63,ho63,h⟩:=bindE h
   refine R.join2 (β:=(List (List Int))×(List (List Bool))) [(3,int (b0.Activities.length:Int)),(4,.lptr 256 0),(5,.lptr 320 0),(7,.tref 320 0 (.clo 94 [256])),(70,int (b0.Activities.length:Int)),(71,int a57)] [] (fun p106 S=>S) (fun p106 M=>(256,.blk true [.tref 1792 (p106.1.map (fun r=>rowN 3 1 (List.map int r))).length .out])::(1792,.tre 25 1 (p106.1.map (fun r=>rowN 3 1 (List.map int r))))::(320,.blk true [.tref 1920 (p106.2.map (fun r=>rowN 4 1 (List.map bool r))).length .out])::(1920,.tre 112 1 (p106.2.map (fun r=>rowN 4 1 (List.map bool r))))::M) (fun p106=>p106=o63) ?_ ?_
   ·intro JJ66 hmeet65
    have hup64:=h;clear h;have h:=ho63;clear ho63
    refine Run.block ?_
    refine R.lp (β:=Int×(List (List Int))×(List (List Bool))) [(3,int (b0.Activities.length:Int)),(4,.lptr 256 0),(5,.lptr 320 0),(7,.tref 320 0 (.clo 94 [256])),(10,int a57),(70,int (b0.Activities.length:Int)),(71,int a57),(74,int (b0.Activities.length:Int))] [] (fun bb S=>(75,int bb.1)::S) (fun bb M=>(256,.blk true [.tref 1792 (bb.2.1.map (fun r=>rowN 3 1 (List.map int r))).length .out])::(1792,.tre 25 1 (bb.2.1.map (fun r=>rowN 3 1 (List.map int r))))::(320,.blk true [.tref 1920 (bb.2.2.map (fun r=>rowN 4 1 (List.map bool r))).length .out])::(1920,.tre 112 1 (bb.2.2.map (fun r=>rowN 4 1 (List.map bool r))))::M) (fun n bb=>F0d b0 a57 n bb.1 bb.2.1 bb.2.2=some o63) F0 (0,a58,a59) h ?_
    clear h
    rintro JJ67 n67 ⟨a69,a70,a71⟩ hag67 h
    dsimp only at h
    obtain _ | n67:=n67
    ·exact absurd h (by simp [F0d])
    rw [F0d] at h
    refine Run.sr (X.bi ?_)
    refine X.nil (Run.seq ?_)
    refine R.cd (fun hc74=>?_) (fun hc74=>?_)
    ·replace h:=condT hc74 h
     refine Run.skip (Run.seq (Run.block (Run.sr (X.mv ?_))))
     refine X.an ?_
     refine Run.sr (X.mv ?_)
     refine X.mn ?_
     obtain ⟨o75,ho75,h⟩:=bindE h
     refine R.join2 (β:=(List (List Int))×(List (List Bool))) [(3,int (b0.Activities.length:Int)),(4,.lptr 256 0),(5,.lptr 320 0),(7,.tref 320 0 (.clo 94 [256])),(10,int a57),(70,int (b0.Activities.length:Int)),(71,int a57),(74,int (b0.Activities.length:Int)),(75,int a69)] [] (fun p105 S=>S) (fun p105 M=>(256,.blk true [.tref 1792 (p105.1.map (fun r=>rowN 3 1 (List.map int r))).length .out])::(1792,.tre 25 1 (p105.1.map (fun r=>rowN 3 1 (List.map int r))))::(320,.blk true [.tref 1920 (p105.2.map (fun r=>rowN 4 1 (List.map bool r))).length .out])::(1920,.tre 112 1 (p105.2.map (fun r=>rowN 4 1 (List.map bool r))))::M) (fun p105=>p105=o75) ?_ ?_
     ·intro JJ78 hmeet77
      have hup76:=h;clear h;have h:=ho75;clear ho75
      refine Run.block ?_
      refine R.lp (β:=Int×(List (List Int))×(List (List Bool))) [(3,int (b0.Activities.length:Int)),(4,.lptr 256 0),(5,.lptr 320 0),(7,.tref 320 0 (.clo 94 [256])),(10,int a57),(11,int a69),(70,int (b0.Activities.length:Int)),(71,int a57),(74,int (b0.Activities.length:Int)),(75,int a69),(78,int (b0.Activities.length:Int))] [] (fun bb S=>(79,int bb.1)::S) (fun bb M=>(256,.blk true [.tref 1792 (bb.2.1.map (fun r=>rowN 3 1 (List.map int r))).length .out])::(1792,.tre 25 1 (bb.2.1.map (fun r=>rowN 3 1 (List.map int r))))::(320,.blk true [.tref 1920 (bb.2.2.map (fun r=>rowN 4 1 (List.map bool r))).length .out])::(1920,.tre 112 1 (bb.2.2.map (fun r=>rowN 4 1 (List.map bool r))))::M) (fun n bb=>D0v b0 a57 a69 n bb.1 bb.2.1 bb.2.2=some o75) F0 (0,a70,a71) h ?_
      clear h
      rintro JJ79 n79 ⟨a81,a82,a83⟩ hag79 h
      dsimp only at h
      obtain _ | n79:=n79
      ·exact absurd h (by simp [D0v])
      rw [D0v] at h
      refine Run.sr (X.bi ?_)
      refine X.nil (Run.seq ?_)
      refine R.cd (fun hc86=>?_) (fun hc86=>?_)
      ·replace h:=condT hc86 h
       refine Run.skip (Run.seq (Run.block (Run.sr (X.mv ?_))))
       refine X.an ?_
       refine Run.seq ?_
       obtain ⟨v87,hv87,h⟩:=bindE h
       obtain ⟨v88,hv88,h⟩:=bindE h
       obtain ⟨v89,hv89,h⟩:=bindE h
       obtain ⟨e90,he90,h2⟩:=bindE h
       refine R.regG [(3,int (b0.Activities.length:Int)),(4,.lptr 256 0),(5,.lptr 320 0),(7,.tref 320 0 (.clo 94 [256])),(10,int a57),(11,int a69),(12,int a81),(70,int (b0.Activities.length:Int)),(71,int a57),(74,int (b0.Activities.length:Int)),(75,int a69),(78,int (b0.Activities.length:Int)),(79,int a81),(97,bool e90)] [(256,.blk true [.tref 1792 (a82.map (fun r=>rowN 3 1 (List.map int r))).length .out]),(1792,.tre 25 1 (a82.map (fun r=>rowN 3 1 (List.map int r)))),(320,.blk true [.tref 1920 (a83.map (fun r=>rowN 4 1 (List.map bool r))).length .out]),(1920,.tre 112 1 (a83.map (fun r=>rowN 4 1 (List.map bool r))))] ?_ ?_
       ·clear h;have h:=he90;clear he90 h2
        refine X.ld A1d ?_
        refine X.mv ?_
        refine X.idxT2 (l:=a83.map (fun r=>rowN 4 1 (List.map bool r))) A1f (by rfl) (by rfl) (by rfl) ⟨(A0a hv87).1,by have h0:=(A0a hv87).1;have h1:=A0t hv87;rw [List.length_map];(try dsimp only);omega⟩ (by first | rfl | simp [setL] | omega) (by rfl) (by rfl) ?_
        refine X.ldRow2 (sz:=1) C1r (by rfl) (by rfl) (C0x (f:=bool) (e:=4) (sz:=1) hv87 (E0d hv88)) (by first | rfl | simp [setL] | omega) (by rfl) (by rfl) ?_
        refine X.mv ?_
        refine X.idxR2 (l:=a83.map (fun r=>rowN 4 1 (List.map bool r))) (rl:=v87.map bool) D1n (by rfl) (by rfl) (by rfl) (C0x (f:=bool) (e:=4) (sz:=1) hv87 (E0d hv88)) ⟨(A0a hv89).1,by have h0:=(A0a hv89).1;have h1:=A0t hv89;rw [List.length_map];(try dsimp only);omega⟩ (by first | rfl | simp [setL] | omega) (by rfl) (by rfl) ?_
        refine X.ldE2 (sz2:=1) shp4 (by rfl) (by rfl) (C0x (f:=bool) (e:=4) (sz:=1) hv87 (E0d hv88)) (A0w (off:=0) (by exact A0i (f:=bool) (fun _=>rfl)) (A0c bool hv89) (by rfl)) (by first | rfl | simp [setL] | omega) (by rfl) (by rfl) ?_
        refine X.mv ?_
        refine X.iG (fun hb91=>?_) (fun hb91=>?_)
        ·replace h:=condT hb91 h
         refine X.ld A1d ?_
         refine X.gy (X.mv ?_)
         refine X.gy ?_
         obtain ⟨v92,hv92,h⟩:=bindE h
         refine X.idxT2 (l:=a83.map (fun r=>rowN 4 1 (List.map bool r))) A1f (by rfl) (by rfl) (by rfl) ⟨(A0a hv92).1,by have h0:=(A0a hv92).1;have h1:=A0t hv92;rw [List.length_map];(try dsimp only);omega⟩ (by first | rfl | simp [setL] | omega) (by rfl) (by rfl) ?_
         refine X.gy ?_
         obtain ⟨v93,hv93,h⟩:=bindE h
         refine X.ldRow2 (sz:=1) C1r (by rfl) (by rfl) (C0x (f:=bool) (e:=4) (sz:=1) hv92 (E0d hv93)) (by first | rfl | simp [setL] | omega) (by rfl) (by rfl) ?_
         refine X.gy (X.mv ?_)
         refine X.gy ?_
         obtain ⟨v94,hv94,h⟩:=bindE h
         refine X.idxR2 (l:=a83.map (fun r=>rowN 4 1 (List.map bool r))) (rl:=v92.map bool) D1n (by rfl) (by rfl) (by rfl) (C0x (f:=bool) (e:=4) (sz:=1) hv92 (E0d hv93)) ⟨(A0a hv94).1,by have h0:=(A0a hv94).1;have h1:=A0t hv94;rw [List.length_map];(try dsimp only);omega⟩ (by first | rfl | simp [setL] | omega) (by rfl) (by rfl) ?_
         refine X.gy ?_
         refine X.ldE2 (sz2:=1) shp4 (by rfl) (by rfl) (C0x (f:=bool) (e:=4) (sz:=1) hv92 (E0d hv93)) (A0w (off:=0) (by exact A0i (f:=bool) (fun _=>rfl)) (A0c bool hv94) (by rfl)) (by first | rfl | simp [setL] | omega) (by rfl) (by rfl) ?_
         refine X.pT ?_
         cases h
         exact X.eG
        replace h:=condF hb91 h
        refine X.gn (X.gn (X.gn (X.gn (X.gn (X.gn (X.pF ?_))))))
        cases h
        exact X.eG
       replace h:=h2;clear h2
       refine R.cd (fun hc95=>?_) (fun hc95=>?_)
       ·replace h:=condT hc95 h
        refine Run.draw2 (B0s [(3,([256],[],[],[])),(5,([1792],[],[],[])),(6,([1792],[],[],[])),(8,([1792],[],[],[])),(9,([1792],[],[],[])),(10,([256],[],[],[])),(12,([1792],[],[],[])),(13,([1792],[],[],[])),(15,([1792],[],[],[])),(16,([1792],[],[],[])),(18,([256,320,1792,1920],[1792,1920],[],[]))]) mixed (by kernel_rfl) (by kernel_rfl) ?_
        refine X.mv ?_
        refine X.mv ?_
        refine X.mv ?_
        refine X.ld shp59 ?_
        refine X.mv ?_
        obtain ⟨v96,hv96,h⟩:=bindE h
        refine X.idxT2 (l:=a82.map (fun r=>rowN 3 1 (List.map int r))) elt59 (by rfl) (by rfl) (by rfl) ⟨(A0a hv96).1,by have h0:=(A0a hv96).1;have h1:=A0t hv96;rw [List.length_map];(try dsimp only);omega⟩ (by first | rfl | simp [setL] | omega) (by rfl) (by rfl) ?_
        obtain ⟨v97,hv97,h⟩:=bindE h
        refine X.ldRow2 (sz:=1) shp25 (by rfl) (by rfl) (C0x (f:=int) (e:=3) (sz:=1) hv96 (E0d hv97)) (by first | rfl | simp [setL] | omega) (by rfl) (by rfl) ?_
        refine X.mv ?_
        obtain ⟨v98,hv98,h⟩:=bindE h
        refine X.idxR2 (l:=a82.map (fun r=>rowN 3 1 (List.map int r))) (rl:=v96.map int) elt25 (by rfl) (by rfl) (by rfl) (C0x (f:=int) (e:=3) (sz:=1) hv96 (E0d hv97)) ⟨(A0a hv98).1,by have h0:=(A0a hv98).1;have h1:=A0t hv98;rw [List.length_map];(try dsimp only);omega⟩ (by first | rfl | simp [setL] | omega) (by rfl) (by rfl) ?_
        refine X.ldE2 (sz2:=1) shp3 (by rfl) (by rfl) (C0x (f:=int) (e:=3) (sz:=1) hv96 (E0d hv97)) (A0w (off:=0) (by exact A0i (f:=int) (fun _=>rfl)) (A0c int hv98) (by rfl)) (by first | rfl | simp [setL] | omega) (by rfl) (by rfl) ?_
        refine X.ld shp59 ?_
        refine X.mv ?_
        obtain ⟨v99,hv99,h⟩:=bindE h
        refine X.idxT2 (l:=a82.map (fun r=>rowN 3 1 (List.map int r))) elt59 (by rfl) (by rfl) (by rfl) ⟨(A0a hv99).1,by have h0:=(A0a hv99).1;have h1:=A0t hv99;rw [List.length_map];(try dsimp only);omega⟩ (by first | rfl | simp [setL] | omega) (by rfl) (by rfl) ?_
        obtain ⟨v100,hv100,h⟩:=bindE h
        refine X.ldRow2 (sz:=1) shp25 (by rfl) (by rfl) (C0x (f:=int) (e:=3) (sz:=1) hv99 (E0d hv100)) (by first | rfl | simp [setL] | omega) (by rfl) (by rfl) ?_
        refine X.mv ?_
        obtain ⟨v101,hv101,h⟩:=bindE h
        refine X.idxR2 (l:=a82.map (fun r=>rowN 3 1 (List.map int r))) (rl:=v99.map int) elt25 (by rfl) (by rfl) (by rfl) (C0x (f:=int) (e:=3) (sz:=1) hv99 (E0d hv100)) ⟨(A0a hv101).1,by have h0:=(A0a hv101).1;have h1:=A0t hv101;rw [List.length_map];(try dsimp only);omega⟩ (by first | rfl | simp [setL] | omega) (by rfl) (by rfl) ?_
        refine X.ldE2 (sz2:=1) shp3 (by rfl) (by rfl) (C0x (f:=int) (e:=3) (sz:=1) hv99 (E0d hv100)) (A0w (off:=0) (by exact A0i (f:=int) (fun _=>rfl)) (A0c int hv101) (by rfl)) (by first | rfl | simp [setL] | omega) (by rfl) (by rfl) ?_
        refine X.addW (h:=?_)
        obtain ⟨v102,hv102,h⟩:=bindE h
        obtain ⟨v103,hv103,h⟩:=bindE h
        obtain ⟨v104,hv104,h⟩:=bindE h
        refine X.callClo2 (xs:=[int a69,int a81,int (W (v98+v101))]) (S0h _ _ _ _ _  _ hv102) (by rfl) (by rfl) (by rfl) (by rfl) (by rfl) (by rfl) (by rfl) (by first | rfl | simp [setL] | omega) (by first | rfl | simp [setL] | omega) (by rfl) (by rfl) (by simp [P0g hv103]) (by simp [P0g hv104]) (T0o hv103) (T0o hv104) (by rfl) (by rfl) ?_
        refine X.tell (n:=320) (p':=.blk true [.tref 1920 (v102.1.map (fun r=>rowN 4 1 (List.map bool r))).length .out]) (by rfl) (by simp [P0g hv103,setL]) ?_
        refine X.tell (n:=256) (p':=.blk true [.tref 1792 (v102.2.map (fun r=>rowN 3 1 (List.map int r))).length .out]) (by rfl) (by simp [P0g hv104,setL]) ?_
        refine X.nil (Run.blk (Run.reg (X.addW (h:=?_))))
        refine X.mn ?_
        exact hag79 n79 ((W (a81+1)),v102.2,v102.1) _ _ (by omega) h (by repeat (first | trivial | refine ⟨by first | rfl | simp [setL],?_⟩)) (by repeat (first | trivial | refine ⟨by first | rfl | simp [setL],?_⟩)) (by rfl) (by rfl)
       replace h:=condF hc95 h
       refine Run.skip (Run.blk (Run.reg (X.addW (h:=?_))))
       refine X.mn ?_
       exact hag79 n79 ((W (a81+1)),a82,a83) _ _ (by omega) h (by repeat (first | trivial | refine ⟨by first | rfl | simp [setL],?_⟩)) (by repeat (first | trivial | refine ⟨by first | rfl | simp [setL],?_⟩)) (by rfl) (by rfl)
      replace h:=condF hc86 h
      refine Run.exit (by rfl) ?_
      exact R.mt hmeet77 (a82,a83) (Option.some.inj h)
     rintro p105 rfl
     refine Run.blk (Run.reg (X.addW (h:=?_)))
     refine X.mn ?_
     exact hag67 n67 ((W (a69+1)),p105.1,p105.2) _ _ (by omega) h (by repeat (first | trivial | refine ⟨by first | rfl | simp [setL],?_⟩)) (by repeat (first | trivial | refine ⟨by first | rfl | simp [setL],?_⟩)) (by rfl) (by rfl)
    replace h:=condF hc74 h
    refine Run.exit (by rfl) ?_
    exact R.mt hmeet65 (a70,a71) (Option.some.inj h)
   rintro p106 rfl
   refine Run.blk (Run.reg (X.addW (h:=?_)))
   refine X.mn ?_
   exact hag55 n55 ((W (a57+1)),p106.1,p106.2) _ _ (by omega) h (by repeat (first | trivial | refine ⟨by first | rfl | simp [setL],?_⟩)) (by repeat (first | trivial | refine ⟨by first | rfl | simp [setL],?_⟩)) (by rfl) (by rfl)
  replace h:=condF hc62 h
  refine Run.exit (by rfl) ?_
  exact R.mt hmeet53 (a58,a59) (Option.some.inj h)
 rintro p107 rfl
 refine Run.seq (Run.sr (X.mv ?_))
 refine X.mn ?_
 obtain ⟨o108,ho108,h⟩:=bindE h
 refine R.join2 (β:=(List (List Int))) [(4,.lptr 256 0)] [] (fun p138 S=>S) (fun p138 M=>(256,.blk true [.tref 1792 (p138.map (fun r=>rowN 3 1 (List.map int r))).length .out])::(1792,.tre 25 1 (p138.map (fun r=>rowN 3 1 (List.map int r))))::M) (fun p138=>p138=o108) ?_ ?_
 ·intro JJ111 hmeet110
  have hup109:=h;clear h;have h:=ho108;clear ho108
  refine Run.block ?_
  refine R.lp (β:=Int×(List (List Int))) [(3,int (b0.Activities.length:Int)),(4,.lptr 256 0),(5,.lptr 320 0),(120,int (b0.Activities.length:Int))] [(1920,.tre 112 1 (p107.2.map (fun r=>rowN 4 1 (List.map bool r))))] (fun bb S=>(121,int bb.1)::S) (fun bb M=>(256,.blk true [.tref 1792 (bb.2.map (fun r=>rowN 3 1 (List.map int r))).length .out])::(1792,.tre 25 1 (bb.2.map (fun r=>rowN 3 1 (List.map int r))))::(320,.blk true [.tref 1920 (p107.2.map (fun r=>rowN 4 1 (List.map bool r))).length .out])::M) (fun n bb=>E0v b0 p107 n bb.1 bb.2=some o108) F0 (0,p107.1) h ?_
  clear h
  rintro JJ112 n112 ⟨a114,a115⟩ hag112 h
  dsimp only at h
  obtain _ | n112:=n112
  ·exact absurd h (by simp [E0v])
  rw [E0v] at h
  refine Run.sr (X.bi ?_)
  refine X.nil (Run.seq ?_)
  refine R.cd (fun hc118=>?_) (fun hc118=>?_)
  ·replace h:=condT hc118 h
   refine Run.skip (Run.seq (Run.block (Run.sr (X.mv ?_))))
   refine X.an ?_
   refine Run.sr (X.mv ?_)
   refine X.mn ?_
   obtain ⟨o119,ho119,h⟩:=bindE h
   refine R.join2 (β:=(List (List Int))) [(3,int (b0.Activities.length:Int)),(4,.lptr 256 0),(5,.lptr 320 0),(120,int (b0.Activities.length:Int)),(121,int a114)] [(1920,.tre 112 1 (p107.2.map (fun r=>rowN 4 1 (List.map bool r))))] (fun p137 S=>S) (fun p137 M=>(256,.blk true [.tref 1792 (p137.map (fun r=>rowN 3 1 (List.map int r))).length .out])::(1792,.tre 25 1 (p137.map (fun r=>rowN 3 1 (List.map int r))))::(320,.blk true [.tref 1920 (p107.2.map (fun r=>rowN 4 1 (List.map bool r))).length .out])::M) (fun p137=>p137=o119) ?_ ?_
   ·intro JJ122 hmeet121
    have hup120:=h;clear h;have h:=ho119;clear ho119
    refine Run.block ?_
    refine R.lp (β:=Int×(List (List Int))) [(3,int (b0.Activities.length:Int)),(4,.lptr 256 0),(5,.lptr 320 0),(13,int a114),(120,int (b0.Activities.length:Int)),(121,int a114),(124,int (b0.Activities.length:Int))] [(1920,.tre 112 1 (p107.2.map (fun r=>rowN 4 1 (List.map bool r))))] (fun bb S=>(125,int bb.1)::S) (fun bb M=>(256,.blk true [.tref 1792 (bb.2.map (fun r=>rowN 3 1 (List.map int r))).length .out])::(1792,.tre 25 1 (bb.2.map (fun r=>rowN 3 1 (List.map int r))))::(320,.blk true [.tref 1920 (p107.2.map (fun r=>rowN 4 1 (List.map bool r))).length .out])::M) (fun n bb=>D0w b0 p107 a114 n bb.1 bb.2=some o119) F0 (0,a115) h ?_
    clear h
    rintro JJ123 n123 ⟨a125,a126⟩ hag123 h
    dsimp only at h
    obtain _ | n123:=n123
    ·exact absurd h (by simp [D0w])
    rw [D0w] at h
    refine Run.sr (X.bi ?_)
    refine X.nil (Run.seq ?_)
    refine R.cd (fun hc129=>?_) (fun hc129=>?_)
    ·replace h:=condT hc129 h
     refine Run.skip (Run.seq (Run.block (Run.sr (X.mv ?_))))
     refine X.an ?_
     refine Run.sr (X.ld A1d ?_)
     refine X.mv ?_
     obtain ⟨v130,hv130,h⟩:=bindE h
     refine X.idxT2 (l:=p107.2.map (fun r=>rowN 4 1 (List.map bool r))) A1f (by rfl) (by rfl) (by rfl) ⟨(A0a hv130).1,by have h0:=(A0a hv130).1;have h1:=A0t hv130;rw [List.length_map];(try dsimp only);omega⟩ (by first | rfl | simp [setL] | omega) (by rfl) (by rfl) ?_
     obtain ⟨v131,hv131,h⟩:=bindE h
     refine X.ldRow2 (sz:=1) C1r (by rfl) (by rfl) (C0x (f:=bool) (e:=4) (sz:=1) hv130 (E0d hv131)) (by first | rfl | simp [setL] | omega) (by rfl) (by rfl) ?_
     refine X.mv ?_
     obtain ⟨v132,hv132,h⟩:=bindE h
     refine X.idxR2 (l:=p107.2.map (fun r=>rowN 4 1 (List.map bool r))) (rl:=v130.map bool) D1n (by rfl) (by rfl) (by rfl) (C0x (f:=bool) (e:=4) (sz:=1) hv130 (E0d hv131)) ⟨(A0a hv132).1,by have h0:=(A0a hv132).1;have h1:=A0t hv132;rw [List.length_map];(try dsimp only);omega⟩ (by first | rfl | simp [setL] | omega) (by rfl) (by rfl) ?_
     refine X.ldE2 (sz2:=1) shp4 (by rfl) (by rfl) (C0x (f:=bool) (e:=4) (sz:=1) hv130 (E0d hv131)) (A0w (off:=0) (by exact A0i (f:=bool) (fun _=>rfl)) (A0c bool hv132) (by rfl)) (by first | rfl | simp [setL] | omega) (by rfl) (by rfl) ?_
     refine X.un (h:=?_)
     refine X.nil ?_
     refine R.cd (fun hc133=>?_) (fun hc133=>?_)
     ·replace h:=condT hc133 h
      refine Run.reg (X.ld shp59 ?_)
      refine X.mv ?_
      obtain ⟨v134,hv134,h⟩:=bindE h
      refine X.idxT2 (l:=a126.map (fun r=>rowN 3 1 (List.map int r))) elt59 (by rfl) (by rfl) (by rfl) ⟨(A0a hv134).1,by have h0:=(A0a hv134).1;have h1:=A0t hv134;rw [List.length_map];(try dsimp only);omega⟩ (by first | rfl | simp [setL] | omega) (by rfl) (by rfl) ?_
      obtain ⟨v135,hv135,h⟩:=bindE h
      refine X.ldRow2 (sz:=1) shp25 (by rfl) (by rfl) (C0x (f:=int) (e:=3) (sz:=1) hv134 (E0d hv135)) (by first | rfl | simp [setL] | omega) (by rfl) (by rfl) ?_
      refine X.mv ?_
      obtain ⟨v136,hv136,h⟩:=bindE h
      refine X.idxR2 (l:=a126.map (fun r=>rowN 3 1 (List.map int r))) (rl:=v134.map int) elt25 (by rfl) (by rfl) (by rfl) (C0x (f:=int) (e:=3) (sz:=1) hv134 (E0d hv135)) ⟨(A0a hv136).1,by have h0:=(A0a hv136).1;have h1:=A0t hv136;rw [List.length_map];(try dsimp only);omega⟩ (by first | rfl | simp [setL] | omega) (by rfl) (by rfl) ?_
      refine X.stE2 (l2:=(setL a126 a114 (setL v134 a125 (-1000))).map (fun r=>rowN 3 1 (List.map int r))) (rl2:=(setL v134 a125 (-1000)).map int) (sz2:=1) (sz:=1) shp3 (by rfl) (by rfl) (by rfl) (C0x (f:=int) (e:=3) (sz:=1) hv134 (E0d hv135)) (A0w (off:=0) (by exact A0i (f:=int) (fun _=>rfl)) (A0c int hv136) (by rfl)) (by simp [setL]) (by exact A0i (f:=int) (fun _=>rfl)) (by rw [← D0b];exact L0q (by exact A0i (f:=int) (fun _=>rfl)) (A0c int hv136) (by rfl) (by decide)) (by simp [setL]) (V0i _) (V0g (f:=int) (e:=3) (sz:=1) hv134 (F1p _ _ (E0d hv135))) (by first | rfl | simp [setL] | omega) (by rfl) ?_
      refine X.nil (Run.blk (Run.reg (X.addW (h:=?_))))
      refine X.mn ?_
      refine R.tell (n:=256) (p':=.blk true [.tref 1792 ((setL a126 a114 (setL v134 a125 (-1000))).map (fun r=>rowN 3 1 (List.map int r))).length .out]) (by rfl) (by first | rfl | simp [setL]) ?_
      exact hag123 n123 ((W (a125+1)),(setL a126 a114 (setL v134 a125 (-1000)))) _ _ (by omega) h (by repeat (first | trivial | refine ⟨by first | rfl | simp [setL],?_⟩)) (by repeat (first | trivial | refine ⟨by first | rfl | simp [setL],?_⟩)) (by rfl) (by rfl)
     replace h:=condF hc133 h
     refine Run.skip (Run.blk (Run.reg (X.addW (h:=?_))))
     refine X.mn ?_
     exact hag123 n123 ((W (a125+1)),a126) _ _ (by omega) h (by repeat (first | trivial | refine ⟨by first | rfl | simp [setL],?_⟩)) (by repeat (first | trivial | refine ⟨by first | rfl | simp [setL],?_⟩)) (by rfl) (by rfl)
    replace h:=condF hc129 h
    refine Run.exit (by rfl) ?_
    exact R.mt hmeet121 a126 (Option.some.inj h)
   rintro p137 rfl
   refine Run.blk (Run.reg (X.addW (h:=?_)))
   refine X.mn ?_
   exact hag112 n112 ((W (a114+1)),p137) _ _ (by omega) h (by repeat (first | trivial | refine ⟨by first | rfl | simp [setL],?_⟩)) (by repeat (first | trivial | refine ⟨by first | rfl | simp [setL],?_⟩)) (by rfl) (by rfl)
  replace h:=condF hc118 h
  refine Run.exit (by rfl) ?_
  exact R.mt hmeet110 a115 (Option.some.inj h)
 rintro p138 rfl
 refine Run.sr (X.ld shp59 ?_)
 refine X.an ?_
 obtain ⟨v139,hv139,h⟩:=bindE h
 cases h
 refine R.fin1t Tryz.results44 (by rfl) (by rfl) (by first | rfl | simp [setL] | omega) ?_
 exact congrArg (PV.tre _ _) (N1n hv139)
theorem W0m (b0:A0b)(r:List Int)(h:K0a b0=some r):PC Tryz.prog 78 [A0n b0] (.fresh false 3 1 (r.map int)):=by
 unfold K0a at h
 refine PC.start Tryz.func78 Tryz.ntmps78 rfl ok78 rfl ?_
 refine Run.sr (X.bx ?_)
 refine X.an ?_
 refine Run.sr (X.ld shp34 ?_)
 obtain ⟨v1,hv1,h⟩:=bindE h
 refine X.callTr (E1h _ _ hv1) (by rfl) (by rfl) (by rfl) (by trivial) (by rfl) (by rfl) (by rfl) (by rfl) ?_
 refine X.an ?_
 refine Run.sr (X.mv ?_)
 refine X.lenT (z:=(v1.length:Int)) elt59 (by rfl) (by rfl) (by first | rfl | simp [setL] | omega) (by simp) (by rfl) (by rfl) ?_
 obtain ⟨v2,hv2,h⟩:=bindE h
 refine X.makeSlice2 int hv2 elt25 zer3 (by rfl) (by rfl) (by rfl) (by simp [PV.plain]) (by rfl) (by rfl) (by rfl) (by rfl) (by rfl) (by rfl) ?_
 refine X.an ?_
 refine Run.seq (Run.sr (X.mv ?_))
 refine X.lenT (z:=(v1.length:Int)) elt59 (by rfl) (by rfl) (by first | rfl | simp [setL] | omega) (by simp) (by rfl) (by rfl) ?_
 refine X.mn ?_
 obtain ⟨o3,ho3,h⟩:=bindE h
 refine R.join2 (β:=(List Int)) [] [] (fun p29 S=>(4,.own 832 (p29.map int).length)::S) (fun p29 M=>(832,.obj true 3 1 (p29.map int))::M) (fun p29=>p29=o3) ?_ ?_
 ·intro JJ6 hmeet5
  have hup4:=h;clear h;have h:=ho3;clear ho3
  refine Run.block ?_
  refine R.lp (β:=Int×(List Int)) [(15,int (v1.length:Int))] [(640,.tre 25 1 (v1.map t_int))] (fun bb S=>(4,.own 832 (bb.2.map int).length)::(14,.tref 640 (v1.map t_int).length .out)::(16,int bb.1)::S) (fun bb M=>(832,.obj true 3 1 (bb.2.map int))::M) (fun n bb=>C0c v1 n bb.1 bb.2=some o3) F0 (0,v2) h ?_
  clear h
  rintro JJ7 n7 ⟨a9,a10⟩ hag7 h
  dsimp only at h
  obtain _ | n7:=n7
  ·exact absurd h (by simp [C0c])
  rw [C0c] at h
  refine Run.sr (X.bi ?_)
  refine X.nil (Run.seq ?_)
  refine R.cd (fun hc13=>?_) (fun hc13=>?_)
  ·replace h:=condT hc13 h
   refine Run.skip (Run.seq (Run.block (Run.sr ?_)))
   obtain ⟨v14,hv14,h⟩:=bindE h
   refine X.idxT (l:=v1.map t_int) elt59 ⟨(A0a hv14).1,by have h0:=(A0a hv14).1;have h1:=A0t hv14;rw [List.length_map];(try dsimp only);omega⟩ (by first | rfl | simp [setL] | omega) ?_
   refine X.ldRow (sz:=1) shp25 (A0w (off:=0) (by exact A0i (f:=t_int) (fun _=>rfl)) (A0c t_int hv14) (by rfl)) (by first | rfl | simp [setL] | omega) ?_
   refine X.an ?_
   refine Run.sr (X.mv ?_)
   refine X.lenR (l:=v1.map t_int) (rl:=v14.map int) (z:=(v14.length:Int)) elt25 (A0w (off:=0) (by exact A0i (f:=t_int) (fun _=>rfl)) (A0c t_int hv14) (by rfl)) (by simp) (by first | rfl | simp [setL] | omega) ?_
   refine X.mn ?_
   obtain ⟨o15,ho15,h⟩:=bindE h
   refine R.join2 (β:=(List Int)) [(15,int (v1.length:Int)),(16,int a9)] [(640,.tre 25 1 (v1.map t_int))] (fun p28 S=>(4,.own 832 (p28.map int).length)::(14,.tref 640 (v1.map t_int).length .out)::S) (fun p28 M=>(832,.obj true 3 1 (p28.map int))::M) (fun p28=>p28=o15) ?_ ?_
   ·intro JJ18 hmeet17
    have hup16:=h;clear h;have h:=ho15;clear ho15
    refine Run.block ?_
    refine R.lp (β:=Int×(List Int)) [(15,int (v1.length:Int)),(16,int a9),(20,.tref 640 (v1.map t_int).length (.row ((a9).toNat*1+0))),(21,int (v14.length:Int))] [(640,.tre 25 1 (v1.map t_int))] (fun bb S=>(4,.own 832 (bb.2.map int).length)::(14,.tref 640 (v1.map t_int).length .out)::(22,int bb.1)::S) (fun bb M=>(832,.obj true 3 1 (bb.2.map int))::M) (fun n bb=>C0a v14 n bb.1 bb.2=some o15) F0 (0,a10) h ?_
    clear h
    rintro JJ19 n19 ⟨a21,a22⟩ hag19 h
    dsimp only at h
    obtain _ | n19:=n19
    ·exact absurd h (by simp [C0a])
    rw [C0a] at h
    refine Run.sr (X.bi ?_)
    refine X.nil (Run.seq ?_)
    refine R.cd (fun hc25=>?_) (fun hc25=>?_)
    ·replace h:=condT hc25 h
     refine Run.skip (Run.seq (Run.block (Run.sr (X.mv ?_))))
     obtain ⟨v26,hv26,h⟩:=bindE h
     refine X.idxR (l:=v1.map t_int) (rl:=v14.map int) elt25 (A0w (off:=0) (by exact A0i (f:=t_int) (fun _=>rfl)) (A0c t_int hv14) (by rfl)) ⟨(A0a hv26).1,by have h0:=(A0a hv26).1;have h1:=A0t hv26;rw [List.length_map];(try dsimp only);omega⟩ (by first | rfl | simp [setL] | omega) ?_
     refine X.ldE (sz2:=1) shp3 (A0w (off:=0) (by exact A0i (f:=t_int) (fun _=>rfl)) (A0c t_int hv14) (by rfl)) (A0w (off:=0) (by exact A0i (f:=int) (fun _=>rfl)) (A0c int hv26) (by rfl)) (by first | rfl | simp [setL] | omega) ?_
     refine X.as ?_
     refine X.an ?_
     refine Run.reg (X.mv ?_)
     refine X.mv ?_
     refine X.mv ?_
     refine X.mv ?_
     obtain ⟨v27,hv27,h⟩:=bindE h
     refine X.index_xs elt25 (by rfl) (by rfl) (by first | rfl | simp [setL] | omega) (by rfl) (by exact (Int.toNat_of_nonneg (A0a hv27).1).symm) (by have:=A0t hv27;first | exact this | (rw [List.length_map];exact this)) (by rfl) (by rfl) ?_
     refine X.load_e shp3 (by rfl) (by rfl) (by rfl) (by first | rfl | simp [setL] | omega) (A0c _ hv27) (by rfl) (by rfl) (by rfl) ?_
     refine X.mv ?_
     refine X.max2 (by rfl) (by rfl) (by rfl) ?_
     refine X.index_xs elt25 (by rfl) (by rfl) (by first | rfl | simp [setL] | omega) (by rfl) (by exact (Int.toNat_of_nonneg (A0a hv27).1).symm) (by have:=A0t hv27;first | exact this | (rw [List.length_map];exact this)) (by rfl) (by rfl) ?_
     refine X.store_es shp3 (by rfl) (by rfl) (by first | rfl | simp [setL] | omega) (A0c _ hv27) (by rfl) (by rfl) (by repeat (first | trivial | refine ⟨by first | rfl | simp [setL],?_⟩)) (by rfl) (by rfl) (by rfl) (by rfl) (by exact D0b _ _ _ (max v27 v26)) ?_
     refine X.nil (Run.blk (Run.reg (X.addW (h:=?_))))
     refine X.mn ?_
     refine R.castS (t:=4) (.own 832 ((setL a22 a21 (max v27 v26)).map int).length) (by rfl) (.inl (by first | rfl | simp [setL])) ?_
     exact hag19 n19 ((W (a21+1)),(setL a22 a21 (max v27 v26))) _ _ (by omega) h (by repeat (first | trivial | refine ⟨by first | rfl | simp [setL],?_⟩)) (by repeat (first | trivial | refine ⟨by first | rfl | simp [setL],?_⟩)) (by rfl) (by rfl)
    replace h:=condF hc25 h
    refine Run.exit (by rfl) ?_
    exact R.mt hmeet17 a22 (Option.some.inj h)
   rintro p28 rfl
   refine Run.blk (Run.reg (X.addW (h:=?_)))
   refine X.mn ?_
   exact hag7 n7 ((W (a9+1)),p28) _ _ (by omega) h (by repeat (first | trivial | refine ⟨by first | rfl | simp [setL],?_⟩)) (by repeat (first | trivial | refine ⟨by first | rfl | simp [setL],?_⟩)) (by rfl) (by rfl)
  replace h:=condF hc13 h
  refine Run.exit (by rfl) ?_
  exact R.mt hmeet5 a10 (Option.some.inj h)
 rintro p29 rfl
 refine Run.sr (X.mv ?_)
 refine X.an ?_
 cases h
 refine R.pubObj (n:=832) (by rfl) ?_
 refine R.fin1o Tryz.results78 (by rfl) (by rfl) (by first | rfl | simp [setL] | omega) ?_
 rfl
theorem U0t (b0:A0b)(b1:Int)(r:Int)(h:H0c b0 b1=some r):PC Tryz.prog 51 [A0n b0,int b1] (int r):=by
 unfold H0c at h
 refine PC.start Tryz.func51 Tryz.ntmps51 rfl ok51 rfl ?_
 refine Run.sr (X.bx ?_)
 refine X.an ?_
 refine Run.seq (Run.draw (B0s [(1,([128],[],[],[])),(6,([128],[],[],[])),(10,([],[960],[],[])),(11,([960],[],[],[]))]) mixed (by kernel_rfl) (by kernel_rfl) ?_)
 refine X.fl B0l ?_
 refine X.ld shp30 ?_
 refine X.mv ?_
 obtain ⟨v1,hv1,h⟩:=bindE h
 refine X.ix elt30 (A0a hv1).1 (A0c A0d hv1) ?_
 refine X.lc shp50 ?_
 refine X.fl B0l ?_
 refine X.ld shp30 ?_
 refine X.mv ?_
 refine X.ix elt30 (A0a hv1).1 (A0c A0d hv1) ?_
 refine X.lc shp50 ?_
 obtain ⟨v2,hv2,h⟩:=bindE h
 refine X.callF (K0h _ _ hv2) (by rfl) (by rfl) (by rfl) (by trivial) (by rfl) (by rfl) (by rfl) (by rfl) ?_
 obtain ⟨v3,hv3,h⟩:=bindE h
 refine X.cp (P0k _ _ _ hv3) ?_
 refine X.an ?_
 cases h
 refine R.f1 Tryz.results51 ?_
 rfl
theorem V0v (b0:A0b)(r:Int)(h:M0e b0=some r):PC Tryz.prog 34 [A0n b0] (int r):=by
 unfold M0e at h
 refine PC.start Tryz.func34 Tryz.ntmps34 rfl ok34 rfl ?_
 refine Run.sr (X.bx ?_)
 refine X.an ?_
 refine Run.sr (X.an ?_)
 refine Run.seq (Run.sr (X.ld shp34 ?_))
 obtain ⟨v1,hv1,h⟩:=bindE h
 refine X.callF (W0m _ _ hv1) (by rfl) (by rfl) (by rfl) (by trivial) (by rfl) (by rfl) (by rfl) (by rfl) ?_
 refine X.len_o elt25 (by rfl) (by rfl) (by first | rfl | simp [setL] | omega) (by first | exact List.length_map .. | rfl) (by rfl) (by rfl) ?_
 refine X.mn ?_
 obtain ⟨o2,ho2,h⟩:=bindE h
 refine R.join2 (β:=Int) [] [] (fun p15 S=>(3,int p15)::S) (fun p15 M=>M) (fun p15=>p15=o2) ?_ ?_
 ·intro JJ5 hmeet4
  have hup3:=h;clear h;have h:=ho2;clear ho2
  refine Run.block ?_
  refine R.bndO (n:=448) (by rfl) (fun hbd8=>?_)
  replace hbd8:v1.length≤9223372036854775807:=by first | (rw [List.length_map] at hbd8;exact hbd8) | simp
  refine R.lp (β:=Int×Int) [(1,.lptr 64 0),(8,int (v1.length:Int))] [(64,.blk true [int b0.Deadline,.slice (b0.Activities.map A0d),.slice (b0.Links.map A0l),.slice (b0.Resources.map A0e),.slice (b0.Stocks.map int)]),(448,.obj false 3 1 (v1.map int))] (fun bb S=>(3,int bb.2)::(7,.own 448 (v1.map int).length)::(9,int bb.1)::S) (fun bb M=>M) (fun n bb=>0≤bb.1∧bb.1+n=(v1.length:Int)∧H0j b0 (v1.drop bb.1.toNat) bb.1 bb.2=some o2) v1.length (0,0) ⟨Int.le_refl _,by simp,h⟩ ?_
  clear h
  rintro JJ8 n8 ⟨z9,a10⟩ hag8 ⟨hza8,hzb8,h⟩
  dsimp only at hza8 hzb8 h
  refine Run.sr (X.bi ?_)
  refine X.nil (Run.seq ?_)
  refine R.cd (fun hc13=>?_) (fun hc13=>?_)
  ·obtain ⟨x11,xs12,hd8,hx8,hds8,hlt8⟩:=A0k hza8 hc13
   rw [hd8] at h
   rw [H0j] at h
   refine Run.skip (Run.seq (Run.block (Run.sr (X.mv ?_))))
   refine X.index_o elt25 (by rfl) (by rfl) (by first | rfl | simp [setL] | omega) (by rfl) (A0a hx8).1 (A0c int hx8) (by rfl) (by rfl) (by rfl) ?_
   refine X.lc shp3 ?_
   refine X.as ?_
   refine X.an ?_
   refine Run.reg (X.mv ?_)
   refine X.mv ?_
   refine X.ld shp34 ?_
   refine X.mv ?_
   obtain ⟨v14,hv14,h⟩:=bindE h
   refine X.cp (U0t _ _ _ hv14) ?_
   refine X.addW (h:=?_)
   refine X.max2 (by rfl) (by rfl) (by rfl) ?_
   refine X.an ?_
   refine Run.blk (Run.reg (X.ad ?_))
   refine X.mn ?_
   exact R.ag hag8 (n8 - 1) (z9+1,(max a10 (W (x11+v14)))) (R.n3 (by first | (rw [hds8];exact h) | (dsimp only;rw [hds8];exact h)))
  rw [A0h hza8 hc13] at h
  rw [H0j] at h
  refine Run.exit (by rfl) ?_
  exact R.mt hmeet4 a10 (Option.some.inj h)
 rintro p15 rfl
 refine Run.sr (X.mv ?_)
 refine X.an ?_
 cases h
 refine R.f1 Tryz.results34 ?_
 rfl
theorem A1c (b0:List Int)(b1:Int)(r:Int×Bool)(h:S0r b0 b1=some r):PC Tryz.prog 82 [.slice (b0.map int),int b1] (.tuple [int r.1,bool r.2]):=by
 unfold S0r at h
 refine PC.start Tryz.func82 Tryz.ntmps82 rfl ok82 rfl ?_
 refine Run.sr (X.as ?_)
 refine X.an ?_
 refine Run.seq (Run.sr (X.mv ?_))
 refine X.mv ?_
 refine X.ls elt25 ?_
 refine X.subW (h:=?_)
 obtain ⟨v1,hv1,h⟩:=bindE h
 refine X.cp (C0p _ _ _ _ hv1) ?_
 refine X.un (h:=?_)
 refine X.nil ?_
 refine R.cd (fun hc2=>?_) (fun hc2=>?_)
 ·replace h:=condT hc2 h
  refine Run.sr (X.as ?_)
  refine X.an ?_
  cases h
  refine R.fin2 Tryz.results82 (by rfl) (by rfl) (by rfl) (by repeat (first | trivial | refine ⟨by first | rfl | simp [setL],?_⟩)) ?_
  rfl
 replace h:=condF hc2 h
 refine Run.skip (Run.sr (X.mv ?_))
 refine X.mv ?_
 obtain ⟨v3,hv3,h⟩:=bindE h
 refine X.ix elt25 (A0a hv3).1 (A0c int hv3) ?_
 refine X.lc shp3 ?_
 refine X.as ?_
 refine X.an ?_
 cases h
 refine R.fin2 Tryz.results82 (by rfl) (by rfl) (by rfl) (by repeat (first | trivial | refine ⟨by first | rfl | simp [setL],?_⟩)) ?_
 rfl
theorem C1c (b0:TMode)(c1:Int)(r:Int×Bool)(h:N0z b0 c1=some r):PC Tryz.prog 81 [B0f b0,.cptr (int c1:PV).cells 0] (.tuple [int r.1,bool r.2]):=by
 unfold N0z at h
 refine PC.start Tryz.func81 Tryz.ntmps81 rfl ok81 rfl ?_
 refine Run.sr (X.bx ?_)
 refine X.as ?_
 refine X.an ?_
 refine Run.sr (X.fl R0r ?_)
 refine X.ld shp25 ?_
 refine X.lc shp3 ?_
 obtain ⟨v1,hv1,h⟩:=bindE h
 refine X.callT (A1c _ _ _ hv1) (by rfl) (by rfl) (by rfl) (by trivial) (by rfl) (by rfl) (by rfl) (by rfl) (by rfl) (by rfl) ?_
 refine X.mv ?_
 refine X.extract (h:=?_)
 refine X.extract (h:=?_)
 refine X.as ?_
 refine X.an ?_
 refine Run.sr (X.fl N0c ?_)
 refine X.ld shp3 ?_
 refine X.mv ?_
 refine X.mulW (by rfl) (by rfl) (by rfl) ?_
 refine X.mv ?_
 refine X.as ?_
 refine X.an ?_
 cases h
 refine R.fin2 Tryz.results81 (by rfl) (by rfl) (by rfl) (by repeat (first | trivial | refine ⟨by first | rfl | simp [setL],?_⟩)) ?_
 rfl
theorem A1a (b0:List TMode)(g1:TMode→Option (Int×Bool))(g1id:Nat)(g1c:List PV)(hg1:∀(x0:TMode) v,g1 x0=some v→PC Tryz.prog g1id ([B0f x0] ++ g1c) (.tuple [int v.1,bool v.2]))(r:Int)(h:S0f b0 g1=some r):PC Tryz.prog 79 [.slice (b0.map B0f),.fn g1id g1c] (int r):=by
 unfold S0f at h
 refine PC.start Tryz.func79 Tryz.ntmps79 rfl ok79 rfl ?_
 refine Run.sr (X.an ?_)
 refine Run.sr (X.an ?_)
 refine Run.seq (Run.sr (X.mv ?_))
 refine X.ls elt48 ?_
 refine X.mn ?_
 obtain ⟨o1,ho1,h⟩:=bindE h
 refine R.join2 (β:=Int) [] [] (fun p18 S=>(5,int p18)::S) (fun p18 M=>M) (fun p18=>(Sum.inl p18)=o1) ?_ ?_
 ·intro JJ4 hmeet3
  have hup2:=h;clear h;have h:=ho1;clear ho1
  refine Run.block ?_
  refine R.bndS (t:=0) (by rfl) (fun hbd7=>?_)
  replace hbd7:b0.length≤9223372036854775807:=by first | (rw [List.length_map] at hbd7;exact hbd7) | simp
  refine R.lp (β:=Int×Int) [(1,.fn g1id g1c),(10,.slice (b0.map B0f)),(11,int (b0.length:Int))] [] (fun bb S=>(5,int bb.2)::(12,int bb.1)::S) (fun bb M=>M) (fun n bb=>0≤bb.1∧bb.1+n=(b0.length:Int)∧J0l g1 (b0.drop bb.1.toNat) bb.1 bb.2=some o1) b0.length (0,0) ⟨Int.le_refl _,by simp,h⟩ ?_
  clear h
  rintro JJ7 n7 ⟨z8,a9⟩ hag7 ⟨hza7,hzb7,h⟩
  dsimp only at hza7 hzb7 h
  refine Run.sr (X.bi ?_)
  refine X.nil (Run.seq ?_)
  refine R.cd (fun hc12=>?_) (fun hc12=>?_)
  ·obtain ⟨x10,xs11,hd7,hx7,hds7,hlt7⟩:=A0k hza7 hc12
   rw [hd7] at h
   rw [J0l] at h
   refine Run.skip (Run.seq (Run.block (Run.sr (X.mv ?_))))
   refine X.ix elt48 (A0a hx7).1 (A0c B0f hx7) ?_
   refine X.lc K0m ?_
   refine X.alloc S0k (h:=?_)
   refine X.as ?_
   refine X.sl K0m ?_
   refine X.nil (Run.sr (X.mv ?_))
   refine X.ld K0m ?_
   obtain ⟨v13,hv13,h⟩:=bindE h
   refine X.callT (hg1 _ _ hv13) (by rfl) (by rfl) (by rfl) (by trivial) (by rfl) (by rfl) (by rfl) (by rfl) (by rfl) (by rfl) ?_
   refine X.mv ?_
   refine X.extract (h:=?_)
   refine X.extract (h:=?_)
   refine X.as ?_
   refine X.an ?_
   refine Run.seq (Run.sr (X.mv ?_))
   refine X.un (h:=?_)
   refine X.nil ?_
   refine R.cd (fun hc14=>?_) (fun hc14=>?_)
   ·replace h:=condT hc14 h
    refine Run.sr (X.an ?_)
    cases h
    have h:=hup2
    replace h:=elimR h
    cases h
    refine R.f1 Tryz.results79 ?_
    rfl
   replace h:=condF hc14 h
   refine Run.skip (Run.seq ?_)
   obtain ⟨e15,he15,h2⟩:=bindE h
   refine R.regG [(1,.fn g1id g1c),(5,int a9),(8,int v13.1),(10,.slice (b0.map B0f)),(11,int (b0.length:Int)),(12,int z8),(31,bool e15)] [] ?_ ?_
   ·clear h;have h:=he15;clear he15 h2
    refine X.mv ?_
    refine X.bi ?_
    refine X.mv ?_
    refine X.iG (fun hb16=>?_) (fun hb16=>?_)
    ·replace h:=condF hb16 h
     refine X.mv ?_
     refine X.gy (X.mv ?_)
     refine X.gy (X.bi ?_)
     refine X.pF ?_
     cases h
     exact X.eG
    replace h:=condT hb16 h
    refine X.gn (X.gn (X.pT ?_))
    cases h
    exact X.eG
   replace h:=h2;clear h2
   refine R.cd (fun hc17=>?_) (fun hc17=>?_)
   ·replace h:=condT hc17 h
    refine Run.reg (X.mv ?_)
    refine X.an ?_
    refine Run.blk (Run.reg (X.ad ?_))
    refine X.mn ?_
    exact R.ag hag7 (n7 - 1) (z8+1,v13.1) (R.n3 (by first | (rw [hds7];exact h) | (dsimp only;rw [hds7];exact h)))
   replace h:=condF hc17 h
   refine Run.skip (Run.blk (Run.reg (X.ad ?_)))
   refine X.mn ?_
   exact R.ag hag7 (n7 - 1) (z8+1,a9) (R.n3 (by first | (rw [hds7];exact h) | (dsimp only;rw [hds7];exact h)))
  rw [A0h hza7 hc12] at h
  rw [J0l] at h
  refine Run.exit (by rfl) ?_
  exact R.mt hmeet3 a9 (Option.some.inj h)
 rintro p18 rfl
 replace h:=elimL h
 refine Run.sr (X.mv ?_)
 refine X.an ?_
 cases h
 refine R.f1 Tryz.results79 ?_
 rfl
theorem J1i (b0:A0f)(b1:List Int)(b2:Int)(r:Int)(h:U0p b0 b1 b2=some r):PC Tryz.prog 35 [A0d b0,.slice (b1.map int),int b2] (int r):=by
 unfold U0p at h
 refine PC.start Tryz.func35 Tryz.ntmps35 rfl ok35 rfl ?_
 refine Run.sr (X.bx ?_)
 refine X.bx ?_
 refine X.an ?_
 refine Run.seq ?_
 refine R.pubBlk (n:=320) (by rfl) (by rfl) (by repeat (first | trivial | refine ⟨by first | rfl | simp [setL],?_⟩)) ?_
 refine Run.reg (X.ld shp50 ?_)
 refine X.mv ?_
 obtain ⟨v1,hv1,h⟩:=bindE h
 refine X.callF (W0g _ _ _ hv1) (by rfl) (by rfl) (by rfl) (by trivial) (by rfl) (by rfl) (by rfl) (by rfl) ?_
 refine X.makeFunc (by rfl) (by rfl) (by repeat (first | trivial | refine ⟨by first | rfl | simp [setL],?_⟩)) (by rfl) (by rfl) ?_
 obtain ⟨v2,hv2,h⟩:=bindE h
 refine X.cp (A1a _ (fun x0=>N0z x0 b2) _ _ (fun x0 v hv=>C1c _ _ _ hv) _ hv2) ?_
 refine X.an ?_
 cases h
 refine R.f1 Tryz.results35 ?_
 rfl
theorem C1t (b0:List TStep)(b1:Int)(r:Int)(h:N0w b0 b1=some r):PC Tryz.prog 86 [.slice (b0.map B0e),int b1] (int r):=by
 unfold N0w at h
 refine PC.start Tryz.func86 Tryz.ntmps86 rfl ok86 rfl ?_
 refine Run.sr (X.an ?_)
 refine Run.sr (X.an ?_)
 refine Run.seq (Run.sr (X.mv ?_))
 refine X.ls elt58 ?_
 refine X.mn ?_
 obtain ⟨o1,ho1,h⟩:=bindE h
 refine R.join2 (β:=Int) [] [] (fun p14 S=>(5,int p14)::S) (fun p14 M=>M) (fun p14=>p14=o1) ?_ ?_
 ·intro JJ4 hmeet3
  have hup2:=h;clear h;have h:=ho1;clear ho1
  refine Run.block ?_
  refine R.bndS (t:=0) (by rfl) (fun hbd7=>?_)
  replace hbd7:b0.length≤9223372036854775807:=by first | (rw [List.length_map] at hbd7;exact hbd7) | simp
  refine R.lp (β:=Int×Int) [(1,int b1),(8,.slice (b0.map B0e)),(9,int (b0.length:Int))] [] (fun bb S=>(5,int bb.2)::(10,int bb.1)::S) (fun bb M=>M) (fun n bb=>0≤bb.1∧bb.1+n=(b0.length:Int)∧F0l b1 (b0.drop bb.1.toNat) bb.1 bb.2=some o1) b0.length (0,0) ⟨Int.le_refl _,by simp,h⟩ ?_
  clear h
  rintro JJ7 n7 ⟨z8,a9⟩ hag7 ⟨hza7,hzb7,h⟩
  dsimp only at hza7 hzb7 h
  refine Run.sr (X.bi ?_)
  refine X.nil (Run.seq ?_)
  refine R.cd (fun hc12=>?_) (fun hc12=>?_)
  ·obtain ⟨x10,xs11,hd7,hx7,hds7,hlt7⟩:=A0k hza7 hc12
   rw [hd7] at h
   rw [F0l] at h
   refine Run.skip (Run.seq (Run.block (Run.sr (X.ix elt58 (A0a hx7).1 (A0c B0e hx7) ?_))))
   refine X.lc R0s ?_
   refine X.alloc C1f (h:=?_)
   refine X.sl R0s ?_
   refine X.nil (Run.sr (X.fl J0x ?_))
   refine X.ld shp3 ?_
   refine X.mv ?_
   refine X.bi ?_
   refine X.nil ?_
   refine R.cd (fun hc13=>?_) (fun hc13=>?_)
   ·replace h:=condT hc13 h
    refine Run.reg (X.fl T0v ?_)
    refine X.ld shp3 ?_
    refine X.an ?_
    refine Run.blk (Run.reg (X.ad ?_))
    refine X.mn ?_
    exact R.ag hag7 (n7 - 1) (z8+1,x10.Capacity) (R.n3 (by first | (rw [hds7];exact h) | (dsimp only;rw [hds7];exact h)))
   replace h:=condF hc13 h
   refine Run.skip (Run.blk (Run.reg (X.ad ?_)))
   refine X.mn ?_
   exact R.ag hag7 (n7 - 1) (z8+1,a9) (R.n3 (by first | (rw [hds7];exact h) | (dsimp only;rw [hds7];exact h)))
  rw [A0h hza7 hc12] at h
  rw [F0l] at h
  refine Run.exit (by rfl) ?_
  exact R.mt hmeet3 a9 (Option.some.inj h)
 rintro p14 rfl
 refine Run.sr (X.mv ?_)
 refine X.an ?_
 cases h
 refine R.f1 Tryz.results86 ?_
 rfl
theorem Y0l (b0:List TStep)(b1:Int)(b2:Int)(r:Int)(h:K0p b0 b1 b2=some r):PC Tryz.prog 37 [.slice (b0.map B0e),int b1,int b2] (int r):=by
 unfold K0p at h
 refine PC.start Tryz.func37 Tryz.ntmps37 rfl ok37 rfl ?_
 refine Run.sr (X.an ?_)
 refine Run.seq (Run.seq ?_)
 obtain ⟨v1,hv1,h⟩:=bindE h
 obtain ⟨e2,he2,h2⟩:=bindE h
 refine R.regG [(0,.slice (b0.map B0e)),(1,int b1),(2,int b2),(21,bool e2)] [] ?_ ?_
 ·clear h;have h:=he2;clear he2 h2
  refine X.mv ?_
  refine X.cp (Z0v _ _ hv1) ?_
  refine X.un (h:=?_)
  refine X.mv ?_
  refine X.iG (fun hb3=>?_) (fun hb3=>?_)
  ·replace h:=condF hb3 h
   refine X.mv ?_
   refine X.gy ?_
   obtain ⟨v4,hv4,h⟩:=bindE h
   refine X.cp (W0s _ _ hv4) ?_
   refine X.gy (X.un (h:=?_))
   refine X.pF ?_
   refine X.mv ?_
   refine X.iG (fun hb5=>?_) (fun hb5=>?_)
   ·replace h:=condF hb5 h
    refine X.mv ?_
    refine X.gy ?_
    obtain ⟨v6,hv6,h⟩:=bindE h
    refine X.cp (W0s _ _ hv6) ?_
    refine X.gy (X.un (h:=?_))
    refine X.pF ?_
    cases h
    exact X.eG
   replace h:=condT hb5 h
   refine X.gn (X.gn (X.pT ?_))
   cases h
   exact X.eG
  replace h:=condT hb3 h
  refine X.gn (X.gn (X.pT ?_))
  refine X.mv ?_
  refine X.gn (X.gn (X.gn (X.pT ?_)))
  cases h
  exact X.eG
 replace h:=h2;clear h2
 refine R.cd (fun hc7=>?_) (fun hc7=>?_)
 ·replace h:=condT hc7 h
  refine Run.sr (X.an ?_)
  cases h
  refine R.f1 Tryz.results37 ?_
  rfl
 replace h:=condF hc7 h
 refine Run.skip (Run.sr (X.an ?_))
 refine Run.seq (Run.sr (X.mv ?_))
 refine X.an ?_
 obtain ⟨o8,ho8,h⟩:=bindE h
 refine R.join2 (β:=Int) [] [] (fun p19 S=>(7,int p19)::S) (fun p19 M=>M) (fun p19=>p19=o8) ?_ ?_
 ·intro JJ11 hmeet10
  have hup9:=h;clear h;have h:=ho8;clear ho8
  refine Run.block ?_
  refine R.lp (β:=Int×Int) [(0,.slice (b0.map B0e)),(2,int b2)] [] (fun bb S=>(7,int bb.1)::(8,int bb.2)::S) (fun bb M=>M) (fun n bb=>D0y b0 b2 n bb.1 bb.2=some o8) F0 (0,b1) h ?_
  clear h
  rintro JJ11 n11 ⟨a13,a14⟩ hag11 h
  dsimp only at h
  obtain _ | n11:=n11
  ·exact absurd h (by simp [D0y])
  rw [D0y] at h
  refine Run.seq (Run.sr (X.mv ?_))
  refine X.mv ?_
  refine X.bi ?_
  refine X.nil ?_
  refine R.cd (fun hc17=>?_) (fun hc17=>?_)
  ·replace h:=condT hc17 h
   refine Run.skip (Run.seq (Run.block (Run.reg (X.mv ?_))))
   refine X.mv ?_
   refine X.mv ?_
   obtain ⟨v18,hv18,h⟩:=bindE h
   refine X.cp (C1t _ _ _ hv18) ?_
   refine X.addW (h:=?_)
   refine X.an ?_
   refine Run.blk (Run.reg (X.mv ?_))
   refine X.addW (h:=?_)
   refine X.an ?_
   exact hag11 n11 ((W (a13+v18)),(W (a14+1))) _ _ (by omega) h (by trivial) (by trivial) (by rfl) (by rfl)
  replace h:=condF hc17 h
  refine Run.exit (by rfl) ?_
  exact R.mt hmeet10 a13 (Option.some.inj h)
 rintro p19 rfl
 refine Run.sr (X.mv ?_)
 refine X.an ?_
 cases h
 refine R.f1 Tryz.results37 ?_
 rfl
theorem E1e (b0:A0b)(r:Int)(h:R0f b0=some r):PC Tryz.prog 9 [A0n b0] (int r):=by
 unfold R0f at h
 refine PC.start Tryz.func9 Tryz.ntmps9 rfl ok9 rfl ?_
 refine Run.sr (X.bx ?_)
 refine X.an ?_
 refine Run.seq (Run.sr (X.ld shp34 ?_))
 obtain ⟨v1,hv1,h⟩:=bindE h
 refine X.cp (G0i _ _ hv1) ?_
 refine X.un (h:=?_)
 refine X.nil ?_
 refine R.cd (fun hc2=>?_) (fun hc2=>?_)
 ·replace h:=condT hc2 h
  refine Run.sr (X.an ?_)
  cases h
  refine R.f1 Tryz.results9 ?_
  rfl
 replace h:=condF hc2 h
 refine Run.skip (Run.seq (Run.sr (X.ld shp34 ?_)))
 obtain ⟨v3,hv3,h⟩:=bindE h
 refine X.cp (V0v _ _ hv3) ?_
 refine X.max2 (by rfl) (by rfl) (by rfl) ?_
 refine X.an ?_
 obtain ⟨o4,ho4,h⟩:=bindE h
 refine R.join2 (β:=Unit) [] [] (fun p45 S=>S) (fun p45 M=>M) (fun p45=>(Sum.inl p45)=o4) ?_ ?_
 ·intro JJ7 hmeet6
  have hup5:=h;clear h;have h:=ho4;clear ho4
  refine Run.block ?_
  refine R.lp (β:=Int) [(1,.lptr 64 0)] [(64,.blk true [int b0.Deadline,.slice (b0.Activities.map A0d),.slice (b0.Links.map A0l),.slice (b0.Resources.map A0e),.slice (b0.Stocks.map int)])] (fun bb S=>(3,int bb)::S) (fun bb M=>M) (fun n bb=>H0p b0 n bb=some o4) F0 (max v3 1) h ?_
  clear h
  rintro JJ7 n7 a9 hag7 h
  obtain _ | n7:=n7
  ·exact absurd h (by simp [H0p])
  rw [H0p] at h
  refine Run.seq (Run.sr (X.mv ?_))
  refine X.bi ?_
  refine X.nil ?_
  refine R.cd (fun hc12=>?_) (fun hc12=>?_)
  ·replace h:=condT hc12 h
   refine Run.skip (Run.seq (Run.block (Run.sr (X.an ?_))))
   refine Run.seq (Run.sr (X.fl H0t ?_))
   refine X.ld shp32 ?_
   refine X.ls elt32 ?_
   refine X.mn ?_
   obtain ⟨o13,ho13,h⟩:=bindE h
   refine R.join2 (β:=Bool) [(1,.lptr 64 0),(3,int a9)] [(64,.blk true [int b0.Deadline,.slice (b0.Activities.map A0d),.slice (b0.Links.map A0l),.slice (b0.Resources.map A0e),.slice (b0.Stocks.map int)])] (fun p43 S=>(4,bool p43)::S) (fun p43 M=>M) (fun p43=>p43=o13) ?_ ?_
   ·intro JJ16 hmeet15
    have hup14:=h;clear h;have h:=ho13;clear ho13
    refine Run.block ?_
    refine R.bndS (t:=21) (by rfl) (fun hbd19=>?_)
    replace hbd19:b0.Resources.length≤9223372036854775807:=by first | (rw [List.length_map] at hbd19;exact hbd19) | simp
    refine R.lp (β:=Int×Bool) [(1,.lptr 64 0),(3,int a9),(21,.slice (b0.Resources.map A0e)),(22,int (b0.Resources.length:Int))] [(64,.blk true [int b0.Deadline,.slice (b0.Activities.map A0d),.slice (b0.Links.map A0l),.slice (b0.Resources.map A0e),.slice (b0.Stocks.map int)])] (fun bb S=>(4,bool bb.2)::(23,int bb.1)::S) (fun bb M=>M) (fun n bb=>0≤bb.1∧bb.1+n=(b0.Resources.length:Int)∧H0u b0 a9 (b0.Resources.drop bb.1.toNat) bb.1 bb.2=some o13) b0.Resources.length (0,true) ⟨Int.le_refl _,by simp,h⟩ ?_
    clear h
    rintro JJ19 n19 ⟨z20,a21⟩ hag19 ⟨hza19,hzb19,h⟩
    dsimp only at hza19 hzb19 h
    refine Run.sr (X.bi ?_)
    refine X.nil (Run.seq ?_)
    refine R.cd (fun hc24=>?_) (fun hc24=>?_)
    ·obtain ⟨x22,xs23,hd19,hx19,hds19,hlt19⟩:=A0k hza19 hc24
     rw [hd19] at h
     rw [H0u] at h
     refine Run.skip (Run.seq (Run.block (Run.sr (X.mv ?_))))
     refine X.ix elt32 (A0a hx19).1 (A0c A0e hx19) ?_
     refine X.lc shp61 ?_
     refine X.alloc zer61 (h:=?_)
     refine X.as ?_
     refine X.sl shp61 ?_
     refine X.nil (Run.sr (X.an ?_))
     refine Run.seq (Run.sr (X.fl B0l ?_))
     refine X.ld shp30 ?_
     refine X.ls elt30 ?_
     refine X.mn ?_
     obtain ⟨o25,ho25,h⟩:=bindE h
     refine R.join2 (β:=Int) [(1,.lptr 64 0),(3,int a9),(4,bool a21),(6,.lptr 384 0),(21,.slice (b0.Resources.map A0e)),(22,int (b0.Resources.length:Int)),(23,int z20)] [(64,.blk true [int b0.Deadline,.slice (b0.Activities.map A0d),.slice (b0.Links.map A0l),.slice (b0.Resources.map A0e),.slice (b0.Stocks.map int)]),(384,.blk true [.slice (x22.Steps.map B0e),.slice (x22.Setup.map l_int)])] (fun p39 S=>(7,int p39)::S) (fun p39 M=>M) (fun p39=>p39=o25) ?_ ?_
     ·intro JJ28 hmeet27
      have hup26:=h;clear h;have h:=ho25;clear ho25
      refine Run.block ?_
      refine R.bndS (t:=29) (by rfl) (fun hbd31=>?_)
      replace hbd31:b0.Activities.length≤9223372036854775807:=by first | (rw [List.length_map] at hbd31;exact hbd31) | simp
      refine R.lp (β:=Int×Int) [(1,.lptr 64 0),(3,int a9),(4,bool a21),(5,int z20),(6,.lptr 384 0),(21,.slice (b0.Resources.map A0e)),(22,int (b0.Resources.length:Int)),(23,int z20),(29,.slice (b0.Activities.map A0d)),(30,int (b0.Activities.length:Int))] [(64,.blk true [int b0.Deadline,.slice (b0.Activities.map A0d),.slice (b0.Links.map A0l),.slice (b0.Resources.map A0e),.slice (b0.Stocks.map int)]),(384,.blk true [.slice (x22.Steps.map B0e),.slice (x22.Setup.map l_int)])] (fun bb S=>(7,int bb.2)::(31,int bb.1)::S) (fun bb M=>M) (fun n bb=>0≤bb.1∧bb.1+n=(b0.Activities.length:Int)∧H0k z20 (b0.Activities.drop bb.1.toNat) bb.1 bb.2=some o25) b0.Activities.length (0,0) ⟨Int.le_refl _,by simp,h⟩ ?_
      clear h
      rintro JJ31 n31 ⟨z32,a33⟩ hag31 ⟨hza31,hzb31,h⟩
      dsimp only at hza31 hzb31 h
      refine Run.sr (X.bi ?_)
      refine X.nil (Run.seq ?_)
      refine R.cd (fun hc36=>?_) (fun hc36=>?_)
      ·obtain ⟨x34,xs35,hd31,hx31,hds31,hlt31⟩:=A0k hza31 hc36
       rw [hd31] at h
       rw [H0k] at h
       refine Run.skip (Run.seq (Run.block (Run.sr (X.ix elt30 (A0a hx31).1 (A0c A0d hx31) ?_))))
       refine X.lc shp50 ?_
       refine X.alloc zer50 (h:=?_)
       refine X.sl shp50 ?_
       refine X.nil (Run.draw (B0s [(1,([576],[],[],[])),(2,([576],[],[],[])),(3,([],[2432],[],[])),(5,([2432],[],[],[]))]) mixed (by kernel_rfl) (by kernel_rfl) ?_)
       refine X.mv ?_
       refine X.ld shp50 ?_
       refine X.ld shp50 ?_
       obtain ⟨v37,hv37,h⟩:=bindE h
       refine X.callF (K0h _ _ hv37) (by rfl) (by rfl) (by rfl) (by trivial) (by rfl) (by rfl) (by rfl) (by rfl) ?_
       refine X.mv ?_
       obtain ⟨v38,hv38,h⟩:=bindE h
       refine X.cp (J1i _ _ _ _ hv38) ?_
       refine X.addW (h:=?_)
       refine X.an ?_
       refine Run.blk (Run.reg (X.ad ?_))
       refine X.mn ?_
       exact R.ag hag31 (n31 - 1) (z32+1,(W (a33+v38))) (R.n3 (by first | (rw [hds31];exact h) | (dsimp only;rw [hds31];exact h)))
      rw [A0h hza31 hc36] at h
      rw [H0k] at h
      refine Run.exit (by rfl) ?_
      exact R.mt hmeet27 a33 (Option.some.inj h)
     rintro p39 rfl
     obtain ⟨e40,he40,h2⟩:=bindE h
     refine R.regG [(1,.lptr 64 0),(3,int a9),(4,bool e40),(21,.slice (b0.Resources.map A0e)),(22,int (b0.Resources.length:Int)),(23,int z20)] [(64,.blk true [int b0.Deadline,.slice (b0.Activities.map A0d),.slice (b0.Links.map A0l),.slice (b0.Resources.map A0e),.slice (b0.Stocks.map int)])] ?_ ?_
     ·clear h;have h:=he40;clear he40 h2
      refine X.mv ?_
      refine X.mv ?_
      refine X.iG (fun hb41=>?_) (fun hb41=>?_)
      ·replace h:=condT hb41 h
       refine X.mv ?_
       refine X.gy (X.fl W0b ?_)
       refine X.gy (X.ld shp58 ?_)
       refine X.gy (X.mv ?_)
       refine X.gy ?_
       obtain ⟨v42,hv42,h⟩:=bindE h
       refine X.cp (Y0l _ _ _ _ hv42) ?_
       refine X.gy (X.bi ?_)
       refine X.pT ?_
       refine X.as ?_
       cases h
       exact X.eG
      replace h:=condF hb41 h
      refine X.gn (X.gn (X.gn (X.gn (X.gn (X.pF ?_)))))
      refine X.as ?_
      cases h
      exact X.eG
     replace h:=h2;clear h2
     refine Run.blk (Run.reg (X.ad ?_))
     refine X.mn ?_
     exact R.ag hag19 (n19 - 1) (z20+1,e40) (R.n3 (by first | (rw [hds19];exact h) | (dsimp only;rw [hds19];exact h)))
    rw [A0h hza19 hc24] at h
    rw [H0u] at h
    refine Run.exit (by rfl) ?_
    exact R.mt hmeet15 a21 (Option.some.inj h)
   rintro p43 rfl
   refine Run.sr (X.mn ?_)
   refine R.cd (fun hc44=>?_) (fun hc44=>?_)
   ·replace h:=condT hc44 h
    refine Run.sr (X.mv ?_)
    refine X.an ?_
    cases h
    have h:=hup5
    replace h:=elimR h
    cases h
    refine R.f1 Tryz.results9 ?_
    rfl
   replace h:=condF hc44 h
   refine Run.skip (Run.blk (Run.reg (X.mv ?_)))
   refine X.addW (h:=?_)
   refine X.an ?_
   exact hag7 n7 (W (a9+1)) _ _ (by omega) h (by trivial) (by trivial) (by rfl) (by rfl)
  replace h:=condF hc12 h
  refine Run.exit (by rfl) ?_
  exact R.mt hmeet6 () (Option.some.inj h)
 rintro p45 rfl
 replace h:=elimL h
 refine Run.sr (X.an ?_)
 cases h
 refine R.f1 Tryz.results9 ?_
 rfl
theorem T0s (b0:List Int)(b1:List Int)(r:Bool)(h:S0y b0 b1=some r):PC Tryz.prog 13 [.slice (b0.map int),.slice (b1.map int)] (bool r):=by
 unfold S0y at h
 refine PC.start Tryz.func13 Tryz.ntmps13 rfl ok13 rfl ?_
 refine Run.sr (X.an ?_)
 refine Run.seq (Run.sr (X.mv ?_))
 refine X.ls elt25 ?_
 refine X.mv ?_
 refine X.ls elt25 ?_
 refine X.bi ?_
 refine X.nil ?_
 refine R.cd (fun hc1=>?_) (fun hc1=>?_)
 ·replace h:=condT hc1 h
  refine Run.sr (X.an ?_)
  cases h
  refine R.f1 Tryz.results13 ?_
  rfl
 replace h:=condF hc1 h
 refine Run.skip (Run.seq (Run.sr (X.an ?_)))
 obtain ⟨o2,ho2,h⟩:=bindE h
 refine R.join2 (β:=Unit) [] [] (fun p15 S=>S) (fun p15 M=>M) (fun p15=>(Sum.inl p15)=o2) ?_ ?_
 ·intro JJ5 hmeet4
  have hup3:=h;clear h;have h:=ho2;clear ho2
  refine Run.block ?_
  refine R.bndS (t:=0) (by rfl) (fun hbd8=>?_)
  replace hbd8:b0.length≤9223372036854775807:=by first | (rw [List.length_map] at hbd8;exact hbd8) | simp
  refine R.lp (β:=Int) [(0,.slice (b0.map int)),(1,.slice (b1.map int))] [] (fun bb S=>(5,int bb)::S) (fun bb M=>M) (fun n bb=>0≤bb∧bb+n=(b0.length:Int)∧M0d b1 (b0.drop bb.toNat) bb=some o2) b0.length (0:Int) ⟨Int.le_refl _,by simp,h⟩ ?_
  clear h
  rintro JJ8 n8 z9 hag8 ⟨hza8,hzb8,h⟩
  refine Run.seq (Run.sr (X.mv ?_))
  refine X.mv ?_
  refine X.ls elt25 ?_
  refine X.bi ?_
  refine X.nil ?_
  refine R.cd (fun hc12=>?_) (fun hc12=>?_)
  ·obtain ⟨x10,xs11,hd8,hx8,hds8,hlt8⟩:=A0k hza8 hc12
   rw [hd8] at h
   rw [M0d] at h
   refine Run.skip (Run.seq (Run.block (Run.seq (Run.draw (B0s []) mixed (by kernel_rfl) (by kernel_rfl) ?_))))
   refine X.mv ?_
   refine X.mv ?_
   refine X.ix elt25 (A0a hx8).1 (A0c int hx8) ?_
   refine X.lc shp3 ?_
   refine X.mv ?_
   refine X.mv ?_
   obtain ⟨v13,hv13,h⟩:=bindE h
   refine X.ix elt25 (A0a hv13).1 (A0c int hv13) ?_
   refine X.lc shp3 ?_
   refine X.bi ?_
   refine X.nil ?_
   refine R.cd (fun hc14=>?_) (fun hc14=>?_)
   ·replace h:=condT hc14 h
    refine Run.sr (X.an ?_)
    cases h
    have h:=hup3
    replace h:=elimR h
    cases h
    refine R.f1 Tryz.results13 ?_
    rfl
   replace h:=condF hc14 h
   refine Run.skip (Run.blk (Run.reg (X.mv ?_)))
   refine X.ad ?_
   refine X.an ?_
   exact R.ag hag8 (n8 - 1) (z9+1) (R.n3 (by first | (rw [hds8];exact h) | (dsimp only;rw [hds8];exact h)))
  rw [A0h hza8 hc12] at h
  rw [M0d] at h
  refine Run.exit (by rfl) ?_
  exact R.mt hmeet4 () (Option.some.inj h)
 rintro p15 rfl
 replace h:=elimL h
 refine Run.sr (X.an ?_)
 cases h
 refine R.f1 Tryz.results13 ?_
 rfl
theorem L1h (b0:TMode)(b1:TMode)(r:Bool)(h:Y0h b0 b1=some r):PC Tryz.prog 149 [B0f b0,B0f b1] (bool r):=by
 unfold Y0h at h
 refine PC.start Tryz.func149 Tryz.ntmps149 rfl ok149 rfl ?_
 refine Run.sr (X.bx ?_)
 refine X.bx ?_
 refine X.an ?_
 refine Run.seq (Run.sr (X.fl N0c ?_))
 refine X.ld shp3 ?_
 refine X.fl N0c ?_
 refine X.ld shp3 ?_
 refine X.bi ?_
 refine X.nil ?_
 refine R.cd (fun hc1=>?_) (fun hc1=>?_)
 ·replace h:=condT hc1 h
  refine Run.sr (X.an ?_)
  cases h
  refine R.f1 Tryz.results149 ?_
  rfl
 replace h:=condF hc1 h
 refine Run.skip (Run.seq (Run.sr (X.fl R0r ?_)))
 refine X.ld shp25 ?_
 refine X.fl R0r ?_
 refine X.ld shp25 ?_
 obtain ⟨v2,hv2,h⟩:=bindE h
 refine X.cp (T0s _ _ _ hv2) ?_
 refine X.un (h:=?_)
 refine X.nil ?_
 refine R.cd (fun hc3=>?_) (fun hc3=>?_)
 ·replace h:=condT hc3 h
  refine Run.sr (X.an ?_)
  cases h
  refine R.f1 Tryz.results149 ?_
  rfl
 replace h:=condF hc3 h
 refine Run.skip (Run.seq (Run.sr (X.fl V0f ?_)))
 refine X.ld shp25 ?_
 refine X.fl V0f ?_
 refine X.ld shp25 ?_
 obtain ⟨v4,hv4,h⟩:=bindE h
 refine X.cp (T0s _ _ _ hv4) ?_
 refine X.un (h:=?_)
 refine X.nil ?_
 refine R.cd (fun hc5=>?_) (fun hc5=>?_)
 ·replace h:=condT hc5 h
  refine Run.sr (X.an ?_)
  cases h
  refine R.f1 Tryz.results149 ?_
  rfl
 replace h:=condF hc5 h
 refine Run.skip (Run.sr (X.an ?_))
 cases h
 refine R.f1 Tryz.results149 ?_
 rfl
theorem J1g (b0:List TMode)(b1:List TMode)(r:Bool)(h:Z0a b0 b1=some r):PC Tryz.prog 129 [.slice (b0.map B0f),.slice (b1.map B0f)] (bool r):=by
 unfold Z0a at h
 refine PC.start Tryz.func129 Tryz.ntmps129 rfl ok129 rfl ?_
 refine Run.sr (X.an ?_)
 refine Run.seq (Run.sr (X.mv ?_))
 refine X.ls elt48 ?_
 refine X.mv ?_
 refine X.ls elt48 ?_
 refine X.bi ?_
 refine X.nil ?_
 refine R.cd (fun hc1=>?_) (fun hc1=>?_)
 ·replace h:=condT hc1 h
  refine Run.sr (X.an ?_)
  cases h
  refine R.f1 Tryz.results129 ?_
  rfl
 replace h:=condF hc1 h
 refine Run.skip (Run.seq (Run.sr (X.an ?_)))
 obtain ⟨o2,ho2,h⟩:=bindE h
 refine R.join2 (β:=Unit) [] [] (fun p16 S=>S) (fun p16 M=>M) (fun p16=>(Sum.inl p16)=o2) ?_ ?_
 ·intro JJ5 hmeet4
  have hup3:=h;clear h;have h:=ho2;clear ho2
  refine Run.block ?_
  refine R.bndS (t:=0) (by rfl) (fun hbd8=>?_)
  replace hbd8:b0.length≤9223372036854775807:=by first | (rw [List.length_map] at hbd8;exact hbd8) | simp
  refine R.lp (β:=Int) [(0,.slice (b0.map B0f)),(1,.slice (b1.map B0f))] [] (fun bb S=>(5,int bb)::S) (fun bb M=>M) (fun n bb=>0≤bb∧bb+n=(b0.length:Int)∧K0u b1 (b0.drop bb.toNat) bb=some o2) b0.length (0:Int) ⟨Int.le_refl _,by simp,h⟩ ?_
  clear h
  rintro JJ8 n8 z9 hag8 ⟨hza8,hzb8,h⟩
  refine Run.seq (Run.sr (X.mv ?_))
  refine X.mv ?_
  refine X.ls elt48 ?_
  refine X.bi ?_
  refine X.nil ?_
  refine R.cd (fun hc12=>?_) (fun hc12=>?_)
  ·obtain ⟨x10,xs11,hd8,hx8,hds8,hlt8⟩:=A0k hza8 hc12
   rw [hd8] at h
   rw [K0u] at h
   refine Run.skip (Run.seq (Run.block (Run.seq (Run.draw (B0s []) mixed (by kernel_rfl) (by kernel_rfl) ?_))))
   refine X.mv ?_
   refine X.mv ?_
   refine X.ix elt48 (A0a hx8).1 (A0c B0f hx8) ?_
   refine X.lc K0m ?_
   refine X.mv ?_
   refine X.mv ?_
   obtain ⟨v13,hv13,h⟩:=bindE h
   refine X.ix elt48 (A0a hv13).1 (A0c B0f hv13) ?_
   refine X.lc K0m ?_
   obtain ⟨v14,hv14,h⟩:=bindE h
   refine X.cp (L1h _ _ _ hv14) ?_
   refine X.un (h:=?_)
   refine X.nil ?_
   refine R.cd (fun hc15=>?_) (fun hc15=>?_)
   ·replace h:=condT hc15 h
    refine Run.sr (X.an ?_)
    cases h
    have h:=hup3
    replace h:=elimR h
    cases h
    refine R.f1 Tryz.results129 ?_
    rfl
   replace h:=condF hc15 h
   refine Run.skip (Run.blk (Run.reg (X.mv ?_)))
   refine X.ad ?_
   refine X.an ?_
   exact R.ag hag8 (n8 - 1) (z9+1) (R.n3 (by first | (rw [hds8];exact h) | (dsimp only;rw [hds8];exact h)))
  rw [A0h hza8 hc12] at h
  rw [K0u] at h
  refine Run.exit (by rfl) ?_
  exact R.mt hmeet4 () (Option.some.inj h)
 rintro p16 rfl
 replace h:=elimL h
 refine Run.sr (X.an ?_)
 cases h
 refine R.f1 Tryz.results129 ?_
 rfl
theorem C1x (b0:A0f)(b1:A0f)(r:Bool)(h:P0c b0 b1=some r):PC Tryz.prog 87 [A0d b0,A0d b1] (bool r):=by
 unfold P0c at h
 refine PC.start Tryz.func87 Tryz.ntmps87 rfl ok87 rfl ?_
 refine Run.sr (X.bx ?_)
 refine X.bx ?_
 refine X.an ?_
 refine Run.seq (Run.sr (X.fl T0a ?_))
 refine X.ld shp9 ?_
 refine X.fl T0a ?_
 refine X.ld shp9 ?_
 refine X.bi ?_
 refine X.nil ?_
 refine R.cd (fun hc1=>?_) (fun hc1=>?_)
 ·replace h:=condT hc1 h
  refine Run.sr (X.an ?_)
  cases h
  refine R.f1 Tryz.results87 ?_
  rfl
 replace h:=condF hc1 h
 refine Run.skip (Run.seq (Run.sr (X.fl S0t ?_)))
 refine X.ld shp3 ?_
 refine X.fl S0t ?_
 refine X.ld shp3 ?_
 refine X.bi ?_
 refine X.nil ?_
 refine R.cd (fun hc2=>?_) (fun hc2=>?_)
 ·replace h:=condT hc2 h
  refine Run.sr (X.an ?_)
  cases h
  refine R.f1 Tryz.results87 ?_
  rfl
 replace h:=condF hc2 h
 refine Run.skip (Run.seq (Run.sr (X.fl P0p ?_)))
 refine X.ld shp48 ?_
 refine X.fl P0p ?_
 refine X.ld shp48 ?_
 obtain ⟨v3,hv3,h⟩:=bindE h
 refine X.cp (J1g _ _ _ hv3) ?_
 refine X.un (h:=?_)
 refine X.nil ?_
 refine R.cd (fun hc4=>?_) (fun hc4=>?_)
 ·replace h:=condT hc4 h
  refine Run.sr (X.an ?_)
  cases h
  refine R.f1 Tryz.results87 ?_
  rfl
 replace h:=condF hc4 h
 refine Run.skip (Run.sr (X.an ?_))
 cases h
 refine R.f1 Tryz.results87 ?_
 rfl
theorem A1s (b0:List A0f)(b1:List A0f)(r:Bool)(h:P0u b0 b1=some r):PC Tryz.prog 38 [.slice (b0.map A0d),.slice (b1.map A0d)] (bool r):=by
 unfold P0u at h
 refine PC.start Tryz.func38 Tryz.ntmps38 rfl ok38 rfl ?_
 refine Run.sr (X.an ?_)
 refine Run.seq (Run.sr (X.mv ?_))
 refine X.ls elt30 ?_
 refine X.mv ?_
 refine X.ls elt30 ?_
 refine X.bi ?_
 refine X.nil ?_
 refine R.cd (fun hc1=>?_) (fun hc1=>?_)
 ·replace h:=condT hc1 h
  refine Run.sr (X.an ?_)
  cases h
  refine R.f1 Tryz.results38 ?_
  rfl
 replace h:=condF hc1 h
 refine Run.skip (Run.seq (Run.sr (X.an ?_)))
 obtain ⟨o2,ho2,h⟩:=bindE h
 refine R.join2 (β:=Unit) [] [] (fun p16 S=>S) (fun p16 M=>M) (fun p16=>(Sum.inl p16)=o2) ?_ ?_
 ·intro JJ5 hmeet4
  have hup3:=h;clear h;have h:=ho2;clear ho2
  refine Run.block ?_
  refine R.bndS (t:=0) (by rfl) (fun hbd8=>?_)
  replace hbd8:b0.length≤9223372036854775807:=by first | (rw [List.length_map] at hbd8;exact hbd8) | simp
  refine R.lp (β:=Int) [(0,.slice (b0.map A0d)),(1,.slice (b1.map A0d))] [] (fun bb S=>(5,int bb)::S) (fun bb M=>M) (fun n bb=>0≤bb∧bb+n=(b0.length:Int)∧F0t b1 (b0.drop bb.toNat) bb=some o2) b0.length (0:Int) ⟨Int.le_refl _,by simp,h⟩ ?_
  clear h
  rintro JJ8 n8 z9 hag8 ⟨hza8,hzb8,h⟩
  refine Run.seq (Run.sr (X.mv ?_))
  refine X.mv ?_
  refine X.ls elt30 ?_
  refine X.bi ?_
  refine X.nil ?_
  refine R.cd (fun hc12=>?_) (fun hc12=>?_)
  ·obtain ⟨x10,xs11,hd8,hx8,hds8,hlt8⟩:=A0k hza8 hc12
   rw [hd8] at h
   rw [F0t] at h
   refine Run.skip (Run.seq (Run.block (Run.seq (Run.draw (B0s []) mixed (by kernel_rfl) (by kernel_rfl) ?_))))
   refine X.mv ?_
   refine X.mv ?_
   refine X.ix elt30 (A0a hx8).1 (A0c A0d hx8) ?_
   refine X.lc shp50 ?_
   refine X.mv ?_
   refine X.mv ?_
   obtain ⟨v13,hv13,h⟩:=bindE h
   refine X.ix elt30 (A0a hv13).1 (A0c A0d hv13) ?_
   refine X.lc shp50 ?_
   obtain ⟨v14,hv14,h⟩:=bindE h
   refine X.cp (C1x _ _ _ hv14) ?_
   refine X.un (h:=?_)
   refine X.nil ?_
   refine R.cd (fun hc15=>?_) (fun hc15=>?_)
   ·replace h:=condT hc15 h
    refine Run.sr (X.an ?_)
    cases h
    have h:=hup3
    replace h:=elimR h
    cases h
    refine R.f1 Tryz.results38 ?_
    rfl
   replace h:=condF hc15 h
   refine Run.skip (Run.blk (Run.reg (X.mv ?_)))
   refine X.ad ?_
   refine X.an ?_
   exact R.ag hag8 (n8 - 1) (z9+1) (R.n3 (by first | (rw [hds8];exact h) | (dsimp only;rw [hds8];exact h)))
  rw [A0h hza8 hc12] at h
  rw [F0t] at h
  refine Run.exit (by rfl) ?_
  exact R.mt hmeet4 () (Option.some.inj h)
 rintro p16 rfl
 replace h:=elimL h
 refine Run.sr (X.an ?_)
 cases h
 refine R.f1 Tryz.results38 ?_
 rfl
theorem L1e (b0:TLink)(b1:TLink)(r:Bool)(h:X0t b0 b1=some r):PC Tryz.prog 88 [A0l b0,A0l b1] (bool r):=by
 unfold X0t at h
 refine PC.start Tryz.func88 Tryz.ntmps88 rfl ok88 rfl ?_
 refine Run.sr (X.bx ?_)
 refine X.bx ?_
 refine X.an ?_
 refine Run.seq (Run.sr (X.fl J0s ?_))
 refine X.ld shp3 ?_
 refine X.fl J0s ?_
 refine X.ld shp3 ?_
 refine X.bi ?_
 refine X.nil ?_
 refine R.cd (fun hc1=>?_) (fun hc1=>?_)
 ·replace h:=condT hc1 h
  refine Run.sr (X.an ?_)
  cases h
  refine R.f1 Tryz.results88 ?_
  rfl
 replace h:=condF hc1 h
 refine Run.skip (Run.seq (Run.sr (X.fl L0j ?_)))
 refine X.ld shp3 ?_
 refine X.fl L0j ?_
 refine X.ld shp3 ?_
 refine X.bi ?_
 refine X.nil ?_
 refine R.cd (fun hc2=>?_) (fun hc2=>?_)
 ·replace h:=condT hc2 h
  refine Run.sr (X.an ?_)
  cases h
  refine R.f1 Tryz.results88 ?_
  rfl
 replace h:=condF hc2 h
 refine Run.skip (Run.seq (Run.sr (X.fl D1w ?_)))
 refine X.ld shp4 ?_
 refine X.fl D1w ?_
 refine X.ld shp4 ?_
 refine X.neqBool Tryz.underlying4 (by rfl) (by rfl) (by rfl) ?_
 refine X.nil ?_
 refine R.cd (fun hc3=>?_) (fun hc3=>?_)
 ·replace h:=condT hc3 h
  refine Run.sr (X.an ?_)
  cases h
  refine R.f1 Tryz.results88 ?_
  rfl
 replace h:=condF hc3 h
 refine Run.skip (Run.seq (Run.sr (X.fl T0m ?_)))
 refine X.ld shp3 ?_
 refine X.fl T0m ?_
 refine X.ld shp3 ?_
 refine X.bi ?_
 refine X.nil ?_
 refine R.cd (fun hc4=>?_) (fun hc4=>?_)
 ·replace h:=condT hc4 h
  refine Run.sr (X.an ?_)
  cases h
  refine R.f1 Tryz.results88 ?_
  rfl
 replace h:=condF hc4 h
 refine Run.skip (Run.sr (X.an ?_))
 cases h
 refine R.f1 Tryz.results88 ?_
 rfl
theorem J1r (b0:List TLink)(b1:List TLink)(r:Bool)(h:Y0u b0 b1=some r):PC Tryz.prog 39 [.slice (b0.map A0l),.slice (b1.map A0l)] (bool r):=by
 unfold Y0u at h
 refine PC.start Tryz.func39 Tryz.ntmps39 rfl ok39 rfl ?_
 refine Run.sr (X.an ?_)
 refine Run.seq (Run.sr (X.mv ?_))
 refine X.ls elt31 ?_
 refine X.mv ?_
 refine X.ls elt31 ?_
 refine X.bi ?_
 refine X.nil ?_
 refine R.cd (fun hc1=>?_) (fun hc1=>?_)
 ·replace h:=condT hc1 h
  refine Run.sr (X.an ?_)
  cases h
  refine R.f1 Tryz.results39 ?_
  rfl
 replace h:=condF hc1 h
 refine Run.skip (Run.seq (Run.sr (X.an ?_)))
 obtain ⟨o2,ho2,h⟩:=bindE h
 refine R.join2 (β:=Unit) [] [] (fun p16 S=>S) (fun p16 M=>M) (fun p16=>(Sum.inl p16)=o2) ?_ ?_
 ·intro JJ5 hmeet4
  have hup3:=h;clear h;have h:=ho2;clear ho2
  refine Run.block ?_
  refine R.bndS (t:=0) (by rfl) (fun hbd8=>?_)
  replace hbd8:b0.length≤9223372036854775807:=by first | (rw [List.length_map] at hbd8;exact hbd8) | simp
  refine R.lp (β:=Int) [(0,.slice (b0.map A0l)),(1,.slice (b1.map A0l))] [] (fun bb S=>(5,int bb)::S) (fun bb M=>M) (fun n bb=>0≤bb∧bb+n=(b0.length:Int)∧L0b b1 (b0.drop bb.toNat) bb=some o2) b0.length (0:Int) ⟨Int.le_refl _,by simp,h⟩ ?_
  clear h
  rintro JJ8 n8 z9 hag8 ⟨hza8,hzb8,h⟩
  refine Run.seq (Run.sr (X.mv ?_))
  refine X.mv ?_
  refine X.ls elt31 ?_
  refine X.bi ?_
  refine X.nil ?_
  refine R.cd (fun hc12=>?_) (fun hc12=>?_)
  ·obtain ⟨x10,xs11,hd8,hx8,hds8,hlt8⟩:=A0k hza8 hc12
   rw [hd8] at h
   rw [L0b] at h
   refine Run.skip (Run.seq (Run.block (Run.seq (Run.draw (B0s []) mixed (by kernel_rfl) (by kernel_rfl) ?_))))
   refine X.mv ?_
   refine X.mv ?_
   refine X.ix elt31 (A0a hx8).1 (A0c A0l hx8) ?_
   refine X.lc shp87 ?_
   refine X.mv ?_
   refine X.mv ?_
   obtain ⟨v13,hv13,h⟩:=bindE h
   refine X.ix elt31 (A0a hv13).1 (A0c A0l hv13) ?_
   refine X.lc shp87 ?_
   obtain ⟨v14,hv14,h⟩:=bindE h
   refine X.cp (L1e _ _ _ hv14) ?_
   refine X.un (h:=?_)
   refine X.nil ?_
   refine R.cd (fun hc15=>?_) (fun hc15=>?_)
   ·replace h:=condT hc15 h
    refine Run.sr (X.an ?_)
    cases h
    have h:=hup3
    replace h:=elimR h
    cases h
    refine R.f1 Tryz.results39 ?_
    rfl
   replace h:=condF hc15 h
   refine Run.skip (Run.blk (Run.reg (X.mv ?_)))
   refine X.ad ?_
   refine X.an ?_
   exact R.ag hag8 (n8 - 1) (z9+1) (R.n3 (by first | (rw [hds8];exact h) | (dsimp only;rw [hds8];exact h)))
  rw [A0h hza8 hc12] at h
  rw [L0b] at h
  refine Run.exit (by rfl) ?_
  exact R.mt hmeet4 () (Option.some.inj h)
 rintro p16 rfl
 replace h:=elimL h
 refine Run.sr (X.an ?_)
 cases h
 refine R.f1 Tryz.results39 ?_
 rfl
theorem K1l (b0:TStep)(b1:TStep)(r:Bool)(h:Y0a b0 b1=some r):PC Tryz.prog 150 [B0e b0,B0e b1] (bool r):=by
 unfold Y0a at h
 refine PC.start Tryz.func150 Tryz.ntmps150 rfl ok150 rfl ?_
 refine Run.sr (X.bx ?_)
 refine X.bx ?_
 refine X.an ?_
 refine Run.seq (Run.sr (X.fl J0x ?_))
 refine X.ld shp3 ?_
 refine X.fl J0x ?_
 refine X.ld shp3 ?_
 refine X.bi ?_
 refine X.nil ?_
 refine R.cd (fun hc1=>?_) (fun hc1=>?_)
 ·replace h:=condT hc1 h
  refine Run.sr (X.an ?_)
  cases h
  refine R.f1 Tryz.results150 ?_
  rfl
 replace h:=condF hc1 h
 refine Run.skip (Run.seq (Run.sr (X.fl T0v ?_)))
 refine X.ld shp3 ?_
 refine X.fl T0v ?_
 refine X.ld shp3 ?_
 refine X.bi ?_
 refine X.nil ?_
 refine R.cd (fun hc2=>?_) (fun hc2=>?_)
 ·replace h:=condT hc2 h
  refine Run.sr (X.an ?_)
  cases h
  refine R.f1 Tryz.results150 ?_
  rfl
 replace h:=condF hc2 h
 refine Run.skip (Run.sr (X.an ?_))
 cases h
 refine R.f1 Tryz.results150 ?_
 rfl
theorem G1u (b0:List TStep)(b1:List TStep)(r:Bool)(h:Y0g b0 b1=some r):PC Tryz.prog 130 [.slice (b0.map B0e),.slice (b1.map B0e)] (bool r):=by
 unfold Y0g at h
 refine PC.start Tryz.func130 Tryz.ntmps130 rfl ok130 rfl ?_
 refine Run.sr (X.an ?_)
 refine Run.seq (Run.sr (X.mv ?_))
 refine X.ls elt58 ?_
 refine X.mv ?_
 refine X.ls elt58 ?_
 refine X.bi ?_
 refine X.nil ?_
 refine R.cd (fun hc1=>?_) (fun hc1=>?_)
 ·replace h:=condT hc1 h
  refine Run.sr (X.an ?_)
  cases h
  refine R.f1 Tryz.results130 ?_
  rfl
 replace h:=condF hc1 h
 refine Run.skip (Run.seq (Run.sr (X.an ?_)))
 obtain ⟨o2,ho2,h⟩:=bindE h
 refine R.join2 (β:=Unit) [] [] (fun p16 S=>S) (fun p16 M=>M) (fun p16=>(Sum.inl p16)=o2) ?_ ?_
 ·intro JJ5 hmeet4
  have hup3:=h;clear h;have h:=ho2;clear ho2
  refine Run.block ?_
  refine R.bndS (t:=0) (by rfl) (fun hbd8=>?_)
  replace hbd8:b0.length≤9223372036854775807:=by first | (rw [List.length_map] at hbd8;exact hbd8) | simp
  refine R.lp (β:=Int) [(0,.slice (b0.map B0e)),(1,.slice (b1.map B0e))] [] (fun bb S=>(5,int bb)::S) (fun bb M=>M) (fun n bb=>0≤bb∧bb+n=(b0.length:Int)∧K0r b1 (b0.drop bb.toNat) bb=some o2) b0.length (0:Int) ⟨Int.le_refl _,by simp,h⟩ ?_
  clear h
  rintro JJ8 n8 z9 hag8 ⟨hza8,hzb8,h⟩
  refine Run.seq (Run.sr (X.mv ?_))
  refine X.mv ?_
  refine X.ls elt58 ?_
  refine X.bi ?_
  refine X.nil ?_
  refine R.cd (fun hc12=>?_) (fun hc12=>?_)
  ·obtain ⟨x10,xs11,hd8,hx8,hds8,hlt8⟩:=A0k hza8 hc12
   rw [hd8] at h
   rw [K0r] at h
   refine Run.skip (Run.seq (Run.block (Run.seq (Run.draw (B0s []) mixed (by kernel_rfl) (by kernel_rfl) ?_))))
   refine X.mv ?_
   refine X.mv ?_
   refine X.ix elt58 (A0a hx8).1 (A0c B0e hx8) ?_
   refine X.lc R0s ?_
   refine X.mv ?_
   refine X.mv ?_
   obtain ⟨v13,hv13,h⟩:=bindE h
   refine X.ix elt58 (A0a hv13).1 (A0c B0e hv13) ?_
   refine X.lc R0s ?_
   obtain ⟨v14,hv14,h⟩:=bindE h
   refine X.cp (K1l _ _ _ hv14) ?_
   refine X.un (h:=?_)
   refine X.nil ?_
   refine R.cd (fun hc15=>?_) (fun hc15=>?_)
   ·replace h:=condT hc15 h
    refine Run.sr (X.an ?_)
    cases h
    have h:=hup3
    replace h:=elimR h
    cases h
    refine R.f1 Tryz.results130 ?_
    rfl
   replace h:=condF hc15 h
   refine Run.skip (Run.blk (Run.reg (X.mv ?_)))
   refine X.ad ?_
   refine X.an ?_
   exact R.ag hag8 (n8 - 1) (z9+1) (R.n3 (by first | (rw [hds8];exact h) | (dsimp only;rw [hds8];exact h)))
  rw [A0h hza8 hc12] at h
  rw [K0r] at h
  refine Run.exit (by rfl) ?_
  exact R.mt hmeet4 () (Option.some.inj h)
 rintro p16 rfl
 replace h:=elimL h
 refine Run.sr (X.an ?_)
 cases h
 refine R.f1 Tryz.results130 ?_
 rfl
theorem G1z (b0:List (List Int))(b1:List (List Int))(r:Bool)(h:X0d b0 b1=some r):PC Tryz.prog 131 [.slice (b0.map l_int),.slice (b1.map l_int)] (bool r):=by
 unfold X0d at h
 refine PC.start Tryz.func131 Tryz.ntmps131 rfl ok131 rfl ?_
 refine Run.sr (X.an ?_)
 refine Run.seq (Run.sr (X.mv ?_))
 refine X.ls elt59 ?_
 refine X.mv ?_
 refine X.ls elt59 ?_
 refine X.bi ?_
 refine X.nil ?_
 refine R.cd (fun hc1=>?_) (fun hc1=>?_)
 ·replace h:=condT hc1 h
  refine Run.sr (X.an ?_)
  cases h
  refine R.f1 Tryz.results131 ?_
  rfl
 replace h:=condF hc1 h
 refine Run.skip (Run.seq (Run.sr (X.an ?_)))
 obtain ⟨o2,ho2,h⟩:=bindE h
 refine R.join2 (β:=Unit) [] [] (fun p16 S=>S) (fun p16 M=>M) (fun p16=>(Sum.inl p16)=o2) ?_ ?_
 ·intro JJ5 hmeet4
  have hup3:=h;clear h;have h:=ho2;clear ho2
  refine Run.block ?_
  refine R.bndS (t:=0) (by rfl) (fun hbd8=>?_)
  replace hbd8:b0.length≤9223372036854775807:=by first | (rw [List.length_map] at hbd8;exact hbd8) | simp
  refine R.lp (β:=Int) [(0,.slice (b0.map l_int)),(1,.slice (b1.map l_int))] [] (fun bb S=>(5,int bb)::S) (fun bb M=>M) (fun n bb=>0≤bb∧bb+n=(b0.length:Int)∧K0t b1 (b0.drop bb.toNat) bb=some o2) b0.length (0:Int) ⟨Int.le_refl _,by simp,h⟩ ?_
  clear h
  rintro JJ8 n8 z9 hag8 ⟨hza8,hzb8,h⟩
  refine Run.seq (Run.sr (X.mv ?_))
  refine X.mv ?_
  refine X.ls elt59 ?_
  refine X.bi ?_
  refine X.nil ?_
  refine R.cd (fun hc12=>?_) (fun hc12=>?_)
  ·obtain ⟨x10,xs11,hd8,hx8,hds8,hlt8⟩:=A0k hza8 hc12
   rw [hd8] at h
   rw [K0t] at h
   refine Run.skip (Run.seq (Run.block (Run.seq (Run.draw (B0s []) mixed (by kernel_rfl) (by kernel_rfl) ?_))))
   refine X.mv ?_
   refine X.mv ?_
   refine X.ix elt59 (A0a hx8).1 (A0c l_int hx8) ?_
   refine X.lc shp25 ?_
   refine X.mv ?_
   refine X.mv ?_
   obtain ⟨v13,hv13,h⟩:=bindE h
   refine X.ix elt59 (A0a hv13).1 (A0c l_int hv13) ?_
   refine X.lc shp25 ?_
   obtain ⟨v14,hv14,h⟩:=bindE h
   refine X.cp (T0s _ _ _ hv14) ?_
   refine X.un (h:=?_)
   refine X.nil ?_
   refine R.cd (fun hc15=>?_) (fun hc15=>?_)
   ·replace h:=condT hc15 h
    refine Run.sr (X.an ?_)
    cases h
    have h:=hup3
    replace h:=elimR h
    cases h
    refine R.f1 Tryz.results131 ?_
    rfl
   replace h:=condF hc15 h
   refine Run.skip (Run.blk (Run.reg (X.mv ?_)))
   refine X.ad ?_
   refine X.an ?_
   exact R.ag hag8 (n8 - 1) (z9+1) (R.n3 (by first | (rw [hds8];exact h) | (dsimp only;rw [hds8];exact h)))
  rw [A0h hza8 hc12] at h
  rw [K0t] at h
  refine Run.exit (by rfl) ?_
  exact R.mt hmeet4 () (Option.some.inj h)
 rintro p16 rfl
 replace h:=elimL h
 refine Run.sr (X.an ?_)
 cases h
 refine R.f1 Tryz.results131 ?_
 rfl
theorem E1a (b0:A0p)(b1:A0p)(r:Bool)(h:N0y b0 b1=some r):PC Tryz.prog 89 [A0e b0,A0e b1] (bool r):=by
 unfold N0y at h
 refine PC.start Tryz.func89 Tryz.ntmps89 rfl ok89 rfl ?_
 refine Run.sr (X.bx ?_)
 refine X.bx ?_
 refine X.an ?_
 refine Run.seq (Run.sr (X.fl W0b ?_))
 refine X.ld shp58 ?_
 refine X.fl W0b ?_
 refine X.ld shp58 ?_
 obtain ⟨v1,hv1,h⟩:=bindE h
 refine X.cp (G1u _ _ _ hv1) ?_
 refine X.un (h:=?_)
 refine X.nil ?_
 refine R.cd (fun hc2=>?_) (fun hc2=>?_)
 ·replace h:=condT hc2 h
  refine Run.sr (X.an ?_)
  cases h
  refine R.f1 Tryz.results89 ?_
  rfl
 replace h:=condF hc2 h
 refine Run.skip (Run.seq (Run.sr (X.fl N0g ?_)))
 refine X.ld shp59 ?_
 refine X.fl N0g ?_
 refine X.ld shp59 ?_
 obtain ⟨v3,hv3,h⟩:=bindE h
 refine X.cp (G1z _ _ _ hv3) ?_
 refine X.un (h:=?_)
 refine X.nil ?_
 refine R.cd (fun hc4=>?_) (fun hc4=>?_)
 ·replace h:=condT hc4 h
  refine Run.sr (X.an ?_)
  cases h
  refine R.f1 Tryz.results89 ?_
  rfl
 replace h:=condF hc4 h
 refine Run.skip (Run.sr (X.an ?_))
 cases h
 refine R.f1 Tryz.results89 ?_
 rfl
theorem B1d (b0:List A0p)(b1:List A0p)(r:Bool)(h:Q0a b0 b1=some r):PC Tryz.prog 40 [.slice (b0.map A0e),.slice (b1.map A0e)] (bool r):=by
 unfold Q0a at h
 refine PC.start Tryz.func40 Tryz.ntmps40 rfl ok40 rfl ?_
 refine Run.sr (X.an ?_)
 refine Run.seq (Run.sr (X.mv ?_))
 refine X.ls elt32 ?_
 refine X.mv ?_
 refine X.ls elt32 ?_
 refine X.bi ?_
 refine X.nil ?_
 refine R.cd (fun hc1=>?_) (fun hc1=>?_)
 ·replace h:=condT hc1 h
  refine Run.sr (X.an ?_)
  cases h
  refine R.f1 Tryz.results40 ?_
  rfl
 replace h:=condF hc1 h
 refine Run.skip (Run.seq (Run.sr (X.an ?_)))
 obtain ⟨o2,ho2,h⟩:=bindE h
 refine R.join2 (β:=Unit) [] [] (fun p16 S=>S) (fun p16 M=>M) (fun p16=>(Sum.inl p16)=o2) ?_ ?_
 ·intro JJ5 hmeet4
  have hup3:=h;clear h;have h:=ho2;clear ho2
  refine Run.block ?_
  refine R.bndS (t:=0) (by rfl) (fun hbd8=>?_)
  replace hbd8:b0.length≤9223372036854775807:=by first | (rw [List.length_map] at hbd8;exact hbd8) | simp
  refine R.lp (β:=Int) [(0,.slice (b0.map A0e)),(1,.slice (b1.map A0e))] [] (fun bb S=>(5,int bb)::S) (fun bb M=>M) (fun n bb=>0≤bb∧bb+n=(b0.length:Int)∧F0w b1 (b0.drop bb.toNat) bb=some o2) b0.length (0:Int) ⟨Int.le_refl _,by simp,h⟩ ?_
  clear h
  rintro JJ8 n8 z9 hag8 ⟨hza8,hzb8,h⟩
  refine Run.seq (Run.sr (X.mv ?_))
  refine X.mv ?_
  refine X.ls elt32 ?_
  refine X.bi ?_
  refine X.nil ?_
  refine R.cd (fun hc12=>?_) (fun hc12=>?_)
  ·obtain ⟨x10,xs11,hd8,hx8,hds8,hlt8⟩:=A0k hza8 hc12
   rw [hd8] at h
   rw [F0w] at h
   refine Run.skip (Run.seq (Run.block (Run.seq (Run.draw (B0s []) mixed (by kernel_rfl) (by kernel_rfl) ?_))))
   refine X.mv ?_
   refine X.mv ?_
   refine X.ix elt32 (A0a hx8).1 (A0c A0e hx8) ?_
   refine X.lc shp61 ?_
   refine X.mv ?_
   refine X.mv ?_
   obtain ⟨v13,hv13,h⟩:=bindE h
   refine X.ix elt32 (A0a hv13).1 (A0c A0e hv13) ?_
   refine X.lc shp61 ?_
   obtain ⟨v14,hv14,h⟩:=bindE h
   refine X.cp (E1a _ _ _ hv14) ?_
   refine X.un (h:=?_)
   refine X.nil ?_
   refine R.cd (fun hc15=>?_) (fun hc15=>?_)
   ·replace h:=condT hc15 h
    refine Run.sr (X.an ?_)
    cases h
    have h:=hup3
    replace h:=elimR h
    cases h
    refine R.f1 Tryz.results40 ?_
    rfl
   replace h:=condF hc15 h
   refine Run.skip (Run.blk (Run.reg (X.mv ?_)))
   refine X.ad ?_
   refine X.an ?_
   exact R.ag hag8 (n8 - 1) (z9+1) (R.n3 (by first | (rw [hds8];exact h) | (dsimp only;rw [hds8];exact h)))
  rw [A0h hza8 hc12] at h
  rw [F0w] at h
  refine Run.exit (by rfl) ?_
  exact R.mt hmeet4 () (Option.some.inj h)
 rintro p16 rfl
 replace h:=elimL h
 refine Run.sr (X.an ?_)
 cases h
 refine R.f1 Tryz.results40 ?_
 rfl
theorem E1d (b0:A0b)(b1:A0b)(r:Bool)(h:Q0q b0 b1=some r):PC Tryz.prog 10 [A0n b0,A0n b1] (bool r):=by
 unfold Q0q at h
 refine PC.start Tryz.func10 Tryz.ntmps10 rfl ok10 rfl ?_
 refine Run.sr (X.bx ?_)
 refine X.bx ?_
 refine X.an ?_
 refine Run.seq (Run.sr (X.fl W0o ?_))
 refine X.ld shp3 ?_
 refine X.fl W0o ?_
 refine X.ld shp3 ?_
 refine X.bi ?_
 refine X.nil ?_
 refine R.cd (fun hc1=>?_) (fun hc1=>?_)
 ·replace h:=condT hc1 h
  refine Run.sr (X.an ?_)
  cases h
  refine R.f1 Tryz.results10 ?_
  rfl
 replace h:=condF hc1 h
 refine Run.skip (Run.seq (Run.sr (X.fl B0l ?_)))
 refine X.ld shp30 ?_
 refine X.fl B0l ?_
 refine X.ld shp30 ?_
 obtain ⟨v2,hv2,h⟩:=bindE h
 refine X.cp (A1s _ _ _ hv2) ?_
 refine X.un (h:=?_)
 refine X.nil ?_
 refine R.cd (fun hc3=>?_) (fun hc3=>?_)
 ·replace h:=condT hc3 h
  refine Run.sr (X.an ?_)
  cases h
  refine R.f1 Tryz.results10 ?_
  rfl
 replace h:=condF hc3 h
 refine Run.skip (Run.seq (Run.sr (X.fl J0c ?_)))
 refine X.ld shp31 ?_
 refine X.fl J0c ?_
 refine X.ld shp31 ?_
 obtain ⟨v4,hv4,h⟩:=bindE h
 refine X.cp (J1r _ _ _ hv4) ?_
 refine X.un (h:=?_)
 refine X.nil ?_
 refine R.cd (fun hc5=>?_) (fun hc5=>?_)
 ·replace h:=condT hc5 h
  refine Run.sr (X.an ?_)
  cases h
  refine R.f1 Tryz.results10 ?_
  rfl
 replace h:=condF hc5 h
 refine Run.skip (Run.seq (Run.sr (X.fl H0t ?_)))
 refine X.ld shp32 ?_
 refine X.fl H0t ?_
 refine X.ld shp32 ?_
 obtain ⟨v6,hv6,h⟩:=bindE h
 refine X.cp (B1d _ _ _ hv6) ?_
 refine X.un (h:=?_)
 refine X.nil ?_
 refine R.cd (fun hc7=>?_) (fun hc7=>?_)
 ·replace h:=condT hc7 h
  refine Run.sr (X.an ?_)
  cases h
  refine R.f1 Tryz.results10 ?_
  rfl
 replace h:=condF hc7 h
 refine Run.skip (Run.seq (Run.sr (X.fl T0t ?_)))
 refine X.ld shp25 ?_
 refine X.fl T0t ?_
 refine X.ld shp25 ?_
 obtain ⟨v8,hv8,h⟩:=bindE h
 refine X.cp (T0s _ _ _ hv8) ?_
 refine X.un (h:=?_)
 refine X.nil ?_
 refine R.cd (fun hc9=>?_) (fun hc9=>?_)
 ·replace h:=condT hc9 h
  refine Run.sr (X.an ?_)
  cases h
  refine R.f1 Tryz.results10 ?_
  rfl
 replace h:=condF hc9 h
 refine Run.skip (Run.sr (X.an ?_))
 cases h
 refine R.f1 Tryz.results10 ?_
 rfl
theorem L1c (b0:Int)(b1:Int)(r:Int)(h:X0s b0 b1=some r):PC Tryz.prog 91 [int b0,int b1] (int r):=by
 unfold X0s at h
 refine PC.start Tryz.func91 Tryz.ntmps91 rfl ok91 rfl ?_
 refine Run.sr (X.an ?_)
 refine Run.seq (Run.sr (X.mv ?_))
 refine X.mv ?_
 refine X.bi ?_
 refine X.nil ?_
 refine R.cd (fun hc1=>?_) (fun hc1=>?_)
 ·replace h:=condT hc1 h
  refine Run.sr (X.mv ?_)
  refine X.an ?_
  cases h
  refine R.f1 Tryz.results91 ?_
  rfl
 replace h:=condF hc1 h
 refine Run.skip (Run.sr (X.mv ?_))
 refine X.an ?_
 cases h
 refine R.f1 Tryz.results91 ?_
 rfl
theorem N1g (b0:A0b)(r:A0q)(h:Z0m b0=some r):PC Tryz.prog 106 [A0n b0] (.agg [.fresh false 3 1 (r.MinStart.map int),.fresh false 3 1 (r.MaxStart.map int),.fresh false 25 1 (r.Modes.map l_int)]):=by
 unfold Z0m at h
 refine PC.start Tryz.func106 Tryz.ntmps106 rfl ok106 rfl ?_
 refine Run.sr (X.bx ?_)
 refine X.alloc F1c (h:=?_)
 refine X.nil (Run.sr ?_)
 refine X.build F1c pl121 (by rfl) (by rfl) (by repeat (first | trivial | refine ⟨by first | rfl | simp [setL],?_⟩)) (by rfl) (by rfl) (by rfl) ?_
 refine X.alloc F1c (h:=?_)
 refine X.sl J0y ?_
 refine X.nil (Run.seq (Run.sr (X.fl B0l ?_)))
 refine X.ld shp30 ?_
 refine X.ls elt30 ?_
 refine X.mn ?_
 obtain ⟨o1,ho1,h⟩:=bindE h
 refine R.join2 (β:=(List Int)×(List Int)×(List (List Int))) [(2,.lptr 128 0),(3,.lptr 192 0)] [(128,.blk true [.nils,.nils,.nils])] (fun p19 S=>S) (fun p19 M=>(192,.blk true [.own 1088 (p19.1.map int).length,.own 1600 (p19.2.1.map int).length,.own 2048 (p19.2.2.map l_int).length])::(1088,.obj false 3 1 (p19.1.map int))::(1600,.obj false 3 1 (p19.2.1.map int))::(2048,.obj false 25 1 (p19.2.2.map l_int))::M) (fun p19=>p19=o1) ?_ ?_
 ·intro JJ4 hmeet3
  have hup2:=h;clear h;have h:=ho1;clear ho1
  refine Run.block (R.nilOwnB (m:=192) 0 1088 false 3 1 (by rfl) (by rfl) (by rfl) (by rfl) (by rfl) ?_)
  refine R.nilOwnB (m:=192) 1 1600 false 3 1 (by rfl) (by rfl) (by rfl) (by rfl) (by rfl) ?_
  refine R.nilOwnB (m:=192) 2 2048 false 25 1 (by rfl) (by rfl) (by rfl) (by rfl) (by rfl) ?_
  refine R.bndS (t:=8) (by rfl) (fun hbd7=>?_)
  replace hbd7:b0.Activities.length≤9223372036854775807:=by first | (rw [List.length_map] at hbd7;exact hbd7) | simp
  refine R.lp (β:=Int×(List Int)×(List Int)×(List (List Int))) [(1,.lptr 64 0),(2,.lptr 128 0),(3,.lptr 192 0),(8,.slice (b0.Activities.map A0d)),(9,int (b0.Activities.length:Int))] [(64,.blk true [int b0.Deadline,.slice (b0.Activities.map A0d),.slice (b0.Links.map A0l),.slice (b0.Resources.map A0e),.slice (b0.Stocks.map int)]),(128,.blk true [.nils,.nils,.nils])] (fun bb S=>(10,int bb.1)::S) (fun bb M=>(192,.blk true [.own 1088 (bb.2.1.map int).length,.own 1600 (bb.2.2.1.map int).length,.own 2048 (bb.2.2.2.map l_int).length])::(1088,.obj false 3 1 (bb.2.1.map int))::(1600,.obj false 3 1 (bb.2.2.1.map int))::(2048,.obj false 25 1 (bb.2.2.2.map l_int))::M) (fun n bb=>0≤bb.1∧bb.1+n=(b0.Activities.length:Int)∧L0h b0 (b0.Activities.drop bb.1.toNat) bb.1 bb.2.1 bb.2.2.1 bb.2.2.2=some o1) b0.Activities.length (0,([]:List Int),([]:List Int),([]:List (List Int))) ⟨Int.le_refl _,by simp,h⟩ ?_
  clear h
  rintro JJ7 n7 ⟨z8,a9,a10,a11⟩ hag7 ⟨hza7,hzb7,h⟩
  dsimp only at hza7 hzb7 h
  refine Run.sr (X.bi ?_)
  refine X.nil (Run.seq ?_)
  refine R.cd (fun hc14=>?_) (fun hc14=>?_)
  ·obtain ⟨x12,xs13,hd7,hx7,hds7,hlt7⟩:=A0k hza7 hc14
   rw [hd7] at h
   rw [L0h] at h
   refine Run.skip (Run.seq (Run.block (Run.sr (X.ix elt30 (A0a hx7).1 (A0c A0d hx7) ?_))))
   refine X.lc shp50 ?_
   refine X.alloc zer50 (h:=?_)
   refine X.sl shp50 ?_
   refine X.nil (Run.sr (X.fl J0a ?_))
   refine X.ld shp25 ?_
   refine X.buildSlice false elt25 zer3 (by rfl) (by rfl) (by rfl) (by rfl) (by rfl) (by rfl) (by repeat (first | trivial | refine ⟨by first | rfl | simp [setL],?_⟩)) (A0s (by rfl)) (by rfl) (by rfl) (by rfl) ?_
   obtain ⟨v15,hv15,h⟩:=bindE h
   refine X.append elt25 zer3 (by rfl) (by rfl) (by first | rfl | simp [setL] | omega) (by rfl) (.own _ _ _ _ _ _ (A0g (by rfl)) (by first | rfl | simp [setL] | omega)) (A0s (by rfl)) (E0p int hv15) (E0o int hv15) (by rfl) (by rfl) (by rfl) (by rfl) ?_
   refine X.fl J0a ?_
   refine X.sl shp25 ?_
   refine X.nil (Run.sr (X.fl L0z ?_))
   refine X.ld shp25 ?_
   refine X.fl W0o ?_
   refine X.ld shp3 ?_
   refine X.subW (h:=?_)
   refine X.buildSlice false elt25 zer3 (by rfl) (by rfl) (by rfl) (by rfl) (by rfl) (by rfl) (by repeat (first | trivial | refine ⟨by first | rfl | simp [setL],?_⟩)) (A0s (by rfl)) (by rfl) (by rfl) (by rfl) ?_
   obtain ⟨v16,hv16,h⟩:=bindE h
   refine X.append elt25 zer3 (by rfl) (by rfl) (by first | rfl | simp [setL] | omega) (by rfl) (.own _ _ _ _ _ _ (A0g (by rfl)) (by first | rfl | simp [setL] | omega)) (A0s (by rfl)) (E0p int hv16) (E0o int hv16) (by rfl) (by rfl) (by rfl) (by rfl) ?_
   refine X.fl L0z ?_
   refine X.sl shp25 ?_
   refine X.nil (Run.draw (B0s [(1,([192],[],[],[])),(2,([320],[],[],[])),(3,([],[1920],[],[])),(4,([1920,1984],[1984],[],[])),(5,([1984,2048],[2048],[],[])),(7,([192,2048],[192],[],[]))]) mixed (by kernel_rfl) (by kernel_rfl) ?_)
   refine X.fl J0o ?_
   refine X.ld shp59 ?_
   refine X.ld shp50 ?_
   obtain ⟨v17,hv17,h⟩:=bindE h
   refine X.callF (K0g _ _ hv17) (by rfl) (by rfl) (by rfl) (by trivial) (by rfl) (by rfl) (by rfl) (by rfl) ?_
   refine X.buildSlice false elt59 zer25 (by rfl) (by rfl) (by rfl) (by rfl) (by rfl) (by rfl) (by repeat (first | trivial | refine ⟨by first | rfl | simp [setL],?_⟩)) (A0s (by rfl)) (by rfl) (by rfl) (by rfl) ?_
   obtain ⟨v18,hv18,h⟩:=bindE h
   refine X.append elt59 zer25 (by rfl) (by rfl) (by first | rfl | simp [setL] | omega) (by rfl) (.own _ _ _ _ _ _ (A0g (by rfl)) (by first | rfl | simp [setL] | omega)) (A0s (by rfl)) (E0p l_int hv18) (E0o l_int hv18) (by rfl) (by rfl) (by rfl) (by rfl) ?_
   refine X.fl J0o ?_
   refine X.sl shp59 ?_
   refine X.nil (Run.blk (Run.reg (X.ad ?_)))
   refine X.mn ?_
   exact R.ag hag7 (n7 - 1) (z8+1,v15,v16,v18) (R.n3 (by first | (rw [hds7];exact h) | (dsimp only;rw [hds7];exact h)))
  rw [A0h hza7 hc14] at h
  rw [L0h] at h
  refine Run.exit (by rfl) ?_
  exact R.mt hmeet3 (a9,a10,a11) (Option.some.inj h)
 rintro p19 rfl
 refine Run.sr (X.ld J0y ?_)
 refine X.sl J0y ?_
 refine X.nil ?_
 cases h
 refine R.finC Tryz.results106 J0y (by rfl) (by rfl) (by rfl) (by rfl) (by repeat (first | trivial | refine ⟨by first | rfl | simp [setL],?_⟩)) ?_
 rfl
theorem M1v (b0:List Int)(r:Bool)(h:R0k b0=some r):PC Tryz.prog 175 [.slice (b0.map int)] (bool r):=by
 unfold R0k at h
 refine PC.start Tryz.func175 Tryz.ntmps175 rfl ok175 rfl ?_
 refine Run.sr (X.an ?_)
 refine Run.seq (Run.sr (X.mv ?_))
 refine X.ls elt25 ?_
 refine X.mn ?_
 obtain ⟨o1,ho1,h⟩:=bindE h
 refine R.join2 (β:=Unit) [] [] (fun p16 S=>S) (fun p16 M=>M) (fun p16=>(Sum.inl p16)=o1) ?_ ?_
 ·intro JJ4 hmeet3
  have hup2:=h;clear h;have h:=ho1;clear ho1
  refine Run.block ?_
  refine R.bndS (t:=0) (by rfl) (fun hbd7=>?_)
  replace hbd7:b0.length≤9223372036854775807:=by first | (rw [List.length_map] at hbd7;exact hbd7) | simp
  refine R.lp (β:=Int) [(0,.slice (b0.map int)),(5,int (b0.length:Int))] [] (fun bb S=>(6,int bb)::S) (fun bb M=>M) (fun n bb=>0≤bb∧bb+n=(b0.length:Int)∧K0i b0 (b0.drop bb.toNat) bb=some o1) b0.length (0:Int) ⟨Int.le_refl _,by simp,h⟩ ?_
  clear h
  rintro JJ7 n7 z8 hag7 ⟨hza7,hzb7,h⟩
  refine Run.sr (X.bi ?_)
  refine X.nil (Run.seq ?_)
  refine R.cd (fun hc11=>?_) (fun hc11=>?_)
  ·obtain ⟨x9,xs10,hd7,hx7,hds7,hlt7⟩:=A0k hza7 hc11
   rw [hd7] at h
   rw [K0i] at h
   refine Run.skip (Run.seq (Run.block (Run.sr (X.mv ?_))))
   refine X.an ?_
   refine Run.seq ?_
   obtain ⟨e12,he12,h2⟩:=bindE h
   refine R.drawG [(0,.slice (b0.map int)),(5,int (b0.length:Int)),(6,int z8),(22,bool e12)] [] (B0s []) mixed (by kernel_rfl) (by kernel_rfl) ?_ ?_
   ·clear h;have h:=he12;clear he12 h2
    refine X.mv ?_
    refine X.bi ?_
    refine X.mv ?_
    refine X.iG (fun hb13=>?_) (fun hb13=>?_)
    ·replace h:=condT hb13 h
     refine X.mv ?_
     refine X.gy (X.mv ?_)
     refine X.gy (X.sub (by rfl) (by rfl) (by omega) (by rfl) ?_)
     refine X.gy ?_
     obtain ⟨v14,hv14,h⟩:=bindE h
     refine X.ix elt25 (A0a hv14).1 (A0c int hv14) ?_
     refine X.gy (X.lc shp3 ?_)
     refine X.gy (X.mv ?_)
     refine X.gy (X.mv ?_)
     refine X.gy (X.ix elt25 (A0a hx7).1 (A0c int hx7) ?_)
     refine X.gy (X.lc shp3 ?_)
     refine X.gy (X.bi ?_)
     refine X.pT ?_
     cases h
     exact X.eG
    replace h:=condF hb13 h
    refine X.gn (X.gn (X.gn (X.gn (X.gn (X.gn (X.gn (X.gn ?_)))))))
    refine X.gn (X.pF ?_)
    cases h
    exact X.eG
   replace h:=h2;clear h2
   refine R.cd (fun hc15=>?_) (fun hc15=>?_)
   ·replace h:=condT hc15 h
    refine Run.sr (X.an ?_)
    cases h
    have h:=hup2
    replace h:=elimR h
    cases h
    refine R.f1 Tryz.results175 ?_
    rfl
   replace h:=condF hc15 h
   refine Run.skip (Run.blk (Run.reg (X.ad ?_)))
   refine X.mn ?_
   exact R.ag hag7 (n7 - 1) (z8+1) (R.n3 (by first | (rw [hds7];exact h) | (dsimp only;rw [hds7];exact h)))
  rw [A0h hza7 hc11] at h
  rw [K0i] at h
  refine Run.exit (by rfl) ?_
  exact R.mt hmeet3 () (Option.some.inj h)
 rintro p16 rfl
 replace h:=elimL h
 refine Run.sr (X.an ?_)
 cases h
 refine R.f1 Tryz.results175 ?_
 rfl
theorem E1k (b0:List Int)(b1:List Int)(r:Bool)(h:J0v b0 b1=some r):PC Tryz.prog 176 [.slice (b0.map int),.slice (b1.map int)] (bool r):=by
 unfold J0v at h
 refine PC.start Tryz.func176 Tryz.ntmps176 rfl ok176 rfl ?_
 refine Run.sr (X.an ?_)
 refine Run.seq (Run.sr (X.mv ?_))
 refine X.ls elt25 ?_
 refine X.mn ?_
 obtain ⟨o1,ho1,h⟩:=bindE h
 refine R.join2 (β:=Unit) [] [] (fun p14 S=>S) (fun p14 M=>M) (fun p14=>(Sum.inl p14)=o1) ?_ ?_
 ·intro JJ4 hmeet3
  have hup2:=h;clear h;have h:=ho1;clear ho1
  refine Run.block ?_
  refine R.bndS (t:=0) (by rfl) (fun hbd7=>?_)
  replace hbd7:b0.length≤9223372036854775807:=by first | (rw [List.length_map] at hbd7;exact hbd7) | simp
  refine R.lp (β:=Int) [(1,.slice (b1.map int)),(7,.slice (b0.map int)),(8,int (b0.length:Int))] [] (fun bb S=>(9,int bb)::S) (fun bb M=>M) (fun n bb=>0≤bb∧bb+n=(b0.length:Int)∧E0y b1 (b0.drop bb.toNat) bb=some o1) b0.length (0:Int) ⟨Int.le_refl _,by simp,h⟩ ?_
  clear h
  rintro JJ7 n7 z8 hag7 ⟨hza7,hzb7,h⟩
  refine Run.sr (X.bi ?_)
  refine X.nil (Run.seq ?_)
  refine R.cd (fun hc11=>?_) (fun hc11=>?_)
  ·obtain ⟨x9,xs10,hd7,hx7,hds7,hlt7⟩:=A0k hza7 hc11
   rw [hd7] at h
   rw [E0y] at h
   refine Run.skip (Run.seq (Run.block (Run.sr (X.ix elt25 (A0a hx7).1 (A0c int hx7) ?_))))
   refine X.lc shp3 ?_
   refine X.an ?_
   refine Run.sr (X.mv ?_)
   refine X.mv ?_
   obtain ⟨v12,hv12,h⟩:=bindE h
   refine X.cp (W0e _ _ _ hv12) ?_
   refine X.un (h:=?_)
   refine X.nil ?_
   refine R.cd (fun hc13=>?_) (fun hc13=>?_)
   ·replace h:=condT hc13 h
    refine Run.sr (X.an ?_)
    cases h
    have h:=hup2
    replace h:=elimR h
    cases h
    refine R.f1 Tryz.results176 ?_
    rfl
   replace h:=condF hc13 h
   refine Run.skip (Run.blk (Run.reg (X.ad ?_)))
   refine X.mn ?_
   exact R.ag hag7 (n7 - 1) (z8+1) (R.n3 (by first | (rw [hds7];exact h) | (dsimp only;rw [hds7];exact h)))
  rw [A0h hza7 hc11] at h
  rw [E0y] at h
  refine Run.exit (by rfl) ?_
  exact R.mt hmeet3 () (Option.some.inj h)
 rintro p14 rfl
 replace h:=elimL h
 refine Run.sr (X.an ?_)
 cases h
 refine R.f1 Tryz.results176 ?_
 rfl
theorem D1d (b0:A0b)(b1:A0q)(r:Bool)(h:J0j b0 b1=some r):PC Tryz.prog 168 [A0n b0,H0g b1] (bool r):=by
 unfold J0j at h
 refine PC.start Tryz.func168 Tryz.ntmps168 rfl ok168 rfl ?_
 refine Run.sr (X.bx ?_)
 refine X.bx ?_
 refine X.an ?_
 refine Run.seq (Run.seq ?_)
 obtain ⟨v1,hv1,h⟩:=bindE h
 obtain ⟨e2,he2,h2⟩:=bindE h
 refine R.regG [(2,.lptr 128 0),(3,.lptr 192 0),(36,bool e2)] [(128,.blk true [int b0.Deadline,.slice (b0.Activities.map A0d),.slice (b0.Links.map A0l),.slice (b0.Resources.map A0e),.slice (b0.Stocks.map int)]),(192,.blk true [.slice (b1.MinStart.map int),.slice (b1.MaxStart.map int),.slice (b1.Modes.map l_int)])] ?_ ?_
 ·clear h;have h:=he2;clear he2 h2
  refine X.ld shp34 ?_
  refine X.cp (H0w _ _ hv1) ?_
  refine X.un (h:=?_)
  refine X.mv ?_
  refine X.iG (fun hb3=>?_) (fun hb3=>?_)
  ·replace h:=condF hb3 h
   refine X.fl J0a ?_
   refine X.gy (X.ld shp25 ?_)
   refine X.gy (X.ls elt25 ?_)
   refine X.gy (X.fl B0l ?_)
   refine X.gy (X.ld shp30 ?_)
   refine X.gy (X.ls elt30 ?_)
   refine X.gy (X.bi ?_)
   refine X.pF ?_
   refine X.mv ?_
   refine X.iG (fun hb4=>?_) (fun hb4=>?_)
   ·replace h:=condF hb4 h
    refine X.fl L0z ?_
    refine X.gy (X.ld shp25 ?_)
    refine X.gy (X.ls elt25 ?_)
    refine X.gy (X.fl B0l ?_)
    refine X.gy (X.ld shp30 ?_)
    refine X.gy (X.ls elt30 ?_)
    refine X.gy (X.bi ?_)
    refine X.pF ?_
    refine X.mv ?_
    refine X.iG (fun hb5=>?_) (fun hb5=>?_)
    ·replace h:=condF hb5 h
     refine X.fl J0o ?_
     refine X.gy (X.ld shp59 ?_)
     refine X.gy (X.ls elt59 ?_)
     refine X.gy (X.fl B0l ?_)
     refine X.gy (X.ld shp30 ?_)
     refine X.gy (X.ls elt30 ?_)
     refine X.gy (X.bi ?_)
     refine X.pF ?_
     cases h
     exact X.eG
    replace h:=condT hb5 h
    refine X.gn (X.gn (X.gn (X.gn (X.gn (X.gn (X.pT ?_))))))
    cases h
    exact X.eG
   replace h:=condT hb4 h
   refine X.gn (X.gn (X.gn (X.gn (X.gn (X.gn (X.pT ?_))))))
   refine X.mv ?_
   refine X.gn (X.gn (X.gn (X.gn (X.gn (X.gn (X.gn (X.pT ?_)))))))
   cases h
   exact X.eG
  replace h:=condT hb3 h
  refine X.gn (X.gn (X.gn (X.gn (X.gn (X.gn (X.pT ?_))))))
  refine X.mv ?_
  refine X.gn (X.gn (X.gn (X.gn (X.gn (X.gn (X.gn (X.pT ?_)))))))
  refine X.mv ?_
  refine X.gn (X.gn (X.gn (X.gn (X.gn (X.gn (X.gn (X.pT ?_)))))))
  cases h
  exact X.eG
 replace h:=h2;clear h2
 refine R.cd (fun hc6=>?_) (fun hc6=>?_)
 ·replace h:=condT hc6 h
  refine Run.sr (X.an ?_)
  cases h
  refine R.f1 Tryz.results168 ?_
  rfl
 replace h:=condF hc6 h
 refine Run.skip (Run.seq (Run.sr (X.fl B0l ?_)))
 refine X.ld shp30 ?_
 refine X.ls elt30 ?_
 refine X.mn ?_
 obtain ⟨o7,ho7,h⟩:=bindE h
 refine R.join2 (β:=Unit) [] [] (fun p31 S=>S) (fun p31 M=>M) (fun p31=>(Sum.inl p31)=o7) ?_ ?_
 ·intro JJ10 hmeet9
  have hup8:=h;clear h;have h:=ho7;clear ho7
  refine Run.block ?_
  refine R.bndS (t:=38) (by rfl) (fun hbd13=>?_)
  replace hbd13:b0.Activities.length≤9223372036854775807:=by first | (rw [List.length_map] at hbd13;exact hbd13) | simp
  refine R.lp (β:=Int) [(3,.lptr 192 0),(38,.slice (b0.Activities.map A0d)),(39,int (b0.Activities.length:Int))] [(192,.blk true [.slice (b1.MinStart.map int),.slice (b1.MaxStart.map int),.slice (b1.Modes.map l_int)])] (fun bb S=>(40,int bb)::S) (fun bb M=>M) (fun n bb=>0≤bb∧bb+n=(b0.Activities.length:Int)∧C0t b1 (b0.Activities.drop bb.toNat) bb=some o7) b0.Activities.length (0:Int) ⟨Int.le_refl _,by simp,h⟩ ?_
  clear h
  rintro JJ13 n13 z14 hag13 ⟨hza13,hzb13,h⟩
  refine Run.sr (X.bi ?_)
  refine X.nil (Run.seq ?_)
  refine R.cd (fun hc17=>?_) (fun hc17=>?_)
  ·obtain ⟨x15,xs16,hd13,hx13,hds13,hlt13⟩:=A0k hza13 hc17
   rw [hd13] at h
   rw [C0t] at h
   refine Run.skip (Run.seq (Run.block (Run.sr (X.mv ?_))))
   refine X.ix elt30 (A0a hx13).1 (A0c A0d hx13) ?_
   refine X.lc shp50 ?_
   refine X.alloc zer50 (h:=?_)
   refine X.as ?_
   refine X.sl shp50 ?_
   refine X.nil (Run.seq ?_)
   obtain ⟨v18,hv18,h⟩:=bindE h
   obtain ⟨v19,hv19,h⟩:=bindE h
   obtain ⟨e20,he20,h2⟩:=bindE h
   refine R.drawG [(3,.lptr 192 0),(38,.slice (b0.Activities.map A0d)),(39,int (b0.Activities.length:Int)),(40,int z14),(80,bool e20)] [(192,.blk true [.slice (b1.MinStart.map int),.slice (b1.MaxStart.map int),.slice (b1.Modes.map l_int)])] (B0s [(1,([192],[],[],[])),(9,([192],[],[],[])),(18,([192],[],[],[])),(27,([192],[],[],[])),(31,([384],[],[],[])),(32,([],[4928],[],[])),(33,([4928],[],[],[]))]) mixed (by kernel_rfl) (by kernel_rfl) ?_ ?_
   ·clear h;have h:=he20;clear he20 h2
    refine X.fl J0a ?_
    refine X.ld shp25 ?_
    refine X.mv ?_
    refine X.ix elt25 (A0a hv18).1 (A0c int hv18) ?_
    refine X.lc shp3 ?_
    refine X.cp (B0u _ _ _ _ hv19) ?_
    refine X.un (h:=?_)
    refine X.mv ?_
    refine X.iG (fun hb21=>?_) (fun hb21=>?_)
    ·replace h:=condF hb21 h
     refine X.fl L0z ?_
     refine X.gy (X.ld shp25 ?_)
     refine X.gy (X.mv ?_)
     refine X.gy ?_
     obtain ⟨v22,hv22,h⟩:=bindE h
     refine X.ix elt25 (A0a hv22).1 (A0c int hv22) ?_
     refine X.gy (X.lc shp3 ?_)
     refine X.gy ?_
     obtain ⟨v23,hv23,h⟩:=bindE h
     refine X.cp (B0u _ _ _ _ hv23) ?_
     refine X.gy (X.un (h:=?_))
     refine X.pF ?_
     refine X.mv ?_
     refine X.iG (fun hb24=>?_) (fun hb24=>?_)
     ·replace h:=condF hb24 h
      refine X.fl J0o ?_
      refine X.gy (X.ld shp59 ?_)
      refine X.gy (X.mv ?_)
      refine X.gy ?_
      obtain ⟨v25,hv25,h⟩:=bindE h
      refine X.ix elt59 (A0a hv25).1 (A0c l_int hv25) ?_
      refine X.gy (X.lc shp25 ?_)
      refine X.gy ?_
      obtain ⟨v26,hv26,h⟩:=bindE h
      refine X.cp (M1v _ _ hv26) ?_
      refine X.gy (X.un (h:=?_))
      refine X.pF ?_
      refine X.mv ?_
      refine X.iG (fun hb27=>?_) (fun hb27=>?_)
      ·replace h:=condF hb27 h
       refine X.fl J0o ?_
       refine X.gy (X.ld shp59 ?_)
       refine X.gy (X.mv ?_)
       refine X.gy (X.ix elt59 (A0a hv25).1 (A0c l_int hv25) ?_)
       refine X.gy (X.lc shp25 ?_)
       refine X.gy (X.ld shp50 ?_)
       refine X.gy ?_
       obtain ⟨v28,hv28,h⟩:=bindE h
       refine X.callF (K0g _ _ hv28) (by rfl) (by rfl) (by rfl) (by trivial) (by rfl) (by rfl) (by rfl) (by rfl) ?_
       refine X.gy ?_
       obtain ⟨v29,hv29,h⟩:=bindE h
       refine X.cp (E1k _ _ _ hv29) ?_
       refine X.gy (X.un (h:=?_))
       refine X.pF ?_
       cases h
       exact X.eG
      replace h:=condT hb27 h
      refine X.gn (X.gn (X.gn (X.gn (X.gn (X.gn (X.gn (X.gn ?_)))))))
      refine X.pT ?_
      cases h
      exact X.eG
     replace h:=condT hb24 h
     refine X.gn (X.gn (X.gn (X.gn (X.gn (X.gn (X.pT ?_))))))
     refine X.mv ?_
     refine X.gn (X.gn (X.gn (X.gn (X.gn (X.gn (X.gn (X.gn ?_)))))))
     refine X.gn (X.pT ?_)
     cases h
     exact X.eG
    replace h:=condT hb21 h
    refine X.gn (X.gn (X.gn (X.gn (X.gn (X.gn (X.pT ?_))))))
    refine X.mv ?_
    refine X.gn (X.gn (X.gn (X.gn (X.gn (X.gn (X.gn (X.pT ?_)))))))
    refine X.mv ?_
    refine X.gn (X.gn (X.gn (X.gn (X.gn (X.gn (X.gn (X.gn ?_)))))))
    refine X.gn (X.pT ?_)
    cases h
    exact X.eG
   replace h:=h2;clear h2
   refine R.cd (fun hc30=>?_) (fun hc30=>?_)
   ·replace h:=condT hc30 h
    refine Run.sr (X.an ?_)
    cases h
    have h:=hup8
    replace h:=elimR h
    cases h
    refine R.f1 Tryz.results168 ?_
    rfl
   replace h:=condF hc30 h
   refine Run.skip (Run.blk (Run.reg (X.ad ?_)))
   refine X.mn ?_
   exact R.ag hag13 (n13 - 1) (z14+1) (R.n3 (by first | (rw [hds13];exact h) | (dsimp only;rw [hds13];exact h)))
  rw [A0h hza13 hc17] at h
  rw [C0t] at h
  refine Run.exit (by rfl) ?_
  exact R.mt hmeet9 () (Option.some.inj h)
 rintro p31 rfl
 replace h:=elimL h
 refine Run.sr (X.an ?_)
 cases h
 refine R.f1 Tryz.results168 ?_
 rfl
theorem A1p (b0:A0q)(r:Bool)(h:F0z b0=some r):PC Tryz.prog 169 [H0g b0] (bool r):=by
 unfold F0z at h
 refine PC.start Tryz.func169 Tryz.ntmps169 rfl ok169 rfl ?_
 refine Run.sr (X.bx ?_)
 refine X.an ?_
 refine Run.seq (Run.sr (X.fl J0a ?_))
 refine X.ld shp25 ?_
 refine X.ls elt25 ?_
 refine X.mn ?_
 obtain ⟨o1,ho1,h⟩:=bindE h
 refine R.join2 (β:=Unit) [(1,.lptr 64 0)] [(64,.blk true [.slice (b0.MinStart.map int),.slice (b0.MaxStart.map int),.slice (b0.Modes.map l_int)])] (fun p16 S=>S) (fun p16 M=>M) (fun p16=>(Sum.inl p16)=o1) ?_ ?_
 ·intro JJ4 hmeet3
  have hup2:=h;clear h;have h:=ho1;clear ho1
  refine Run.block ?_
  refine R.bndS (t:=8) (by rfl) (fun hbd7=>?_)
  replace hbd7:b0.MinStart.length≤9223372036854775807:=by first | (rw [List.length_map] at hbd7;exact hbd7) | simp
  refine R.lp (β:=Int) [(1,.lptr 64 0),(8,.slice (b0.MinStart.map int)),(9,int (b0.MinStart.length:Int))] [(64,.blk true [.slice (b0.MinStart.map int),.slice (b0.MaxStart.map int),.slice (b0.Modes.map l_int)])] (fun bb S=>(10,int bb)::S) (fun bb M=>M) (fun n bb=>0≤bb∧bb+n=(b0.MinStart.length:Int)∧E0l b0 (b0.MinStart.drop bb.toNat) bb=some o1) b0.MinStart.length (0:Int) ⟨Int.le_refl _,by simp,h⟩ ?_
  clear h
  rintro JJ7 n7 z8 hag7 ⟨hza7,hzb7,h⟩
  refine Run.sr (X.bi ?_)
  refine X.nil (Run.seq ?_)
  refine R.cd (fun hc11=>?_) (fun hc11=>?_)
  ·obtain ⟨x9,xs10,hd7,hx7,hds7,hlt7⟩:=A0k hza7 hc11
   rw [hd7] at h
   rw [E0l] at h
   refine Run.skip (Run.seq (Run.block (Run.sr (X.mv ?_))))
   refine X.ix elt25 (A0a hx7).1 (A0c int hx7) ?_
   refine X.lc shp3 ?_
   refine X.as ?_
   refine X.an ?_
   refine Run.seq ?_
   obtain ⟨e12,he12,h2⟩:=bindE h
   refine R.regG [(1,.lptr 64 0),(8,.slice (b0.MinStart.map int)),(9,int (b0.MinStart.length:Int)),(10,int z8),(28,bool e12)] [(64,.blk true [.slice (b0.MinStart.map int),.slice (b0.MaxStart.map int),.slice (b0.Modes.map l_int)])] ?_ ?_
   ·clear h;have h:=he12;clear he12 h2
    refine X.mv ?_
    refine X.fl L0z ?_
    refine X.ld shp25 ?_
    refine X.ls elt25 ?_
    refine X.bi ?_
    refine X.mv ?_
    refine X.iG (fun hb13=>?_) (fun hb13=>?_)
    ·replace h:=condT hb13 h
     refine X.mv ?_
     refine X.gy (X.fl L0z ?_)
     refine X.gy (X.ld shp25 ?_)
     refine X.gy (X.mv ?_)
     refine X.gy ?_
     obtain ⟨v14,hv14,h⟩:=bindE h
     refine X.ix elt25 (A0a hv14).1 (A0c int hv14) ?_
     refine X.gy (X.lc shp3 ?_)
     refine X.gy (X.bi ?_)
     refine X.pT ?_
     cases h
     exact X.eG
    replace h:=condF hb13 h
    refine X.gn (X.gn (X.gn (X.gn (X.gn (X.gn (X.pF ?_))))))
    cases h
    exact X.eG
   replace h:=h2;clear h2
   refine R.cd (fun hc15=>?_) (fun hc15=>?_)
   ·replace h:=condT hc15 h
    refine Run.sr (X.an ?_)
    cases h
    have h:=hup2
    replace h:=elimR h
    cases h
    refine R.f1 Tryz.results169 ?_
    rfl
   replace h:=condF hc15 h
   refine Run.skip (Run.blk (Run.reg (X.ad ?_)))
   refine X.mn ?_
   exact R.ag hag7 (n7 - 1) (z8+1) (R.n3 (by first | (rw [hds7];exact h) | (dsimp only;rw [hds7];exact h)))
  rw [A0h hza7 hc11] at h
  rw [E0l] at h
  refine Run.exit (by rfl) ?_
  exact R.mt hmeet3 () (Option.some.inj h)
 rintro p16 rfl
 replace h:=elimL h
 refine Run.seq (Run.sr (X.fl J0o ?_))
 refine X.ld shp59 ?_
 refine X.ls elt59 ?_
 refine X.mn ?_
 obtain ⟨o18,ho18,h⟩:=bindE h
 refine R.join2 (β:=Unit) [] [] (fun p30 S=>S) (fun p30 M=>M) (fun p30=>(Sum.inl p30)=o18) ?_ ?_
 ·intro JJ21 hmeet20
  have hup19:=h;clear h;have h:=ho18;clear ho18
  refine Run.block ?_
  refine R.bndS (t:=31) (by rfl) (fun hbd24=>?_)
  replace hbd24:b0.Modes.length≤9223372036854775807:=by first | (rw [List.length_map] at hbd24;exact hbd24) | simp
  refine R.lp (β:=Int) [(31,.slice (b0.Modes.map l_int)),(32,int (b0.Modes.length:Int))] [] (fun bb S=>(33,int bb)::S) (fun bb M=>M) (fun n bb=>0≤bb∧bb+n=(b0.Modes.length:Int)∧E0m (b0.Modes.drop bb.toNat) bb=some o18) b0.Modes.length (0:Int) ⟨Int.le_refl _,by simp,h⟩ ?_
  clear h
  rintro JJ24 n24 z25 hag24 ⟨hza24,hzb24,h⟩
  refine Run.sr (X.bi ?_)
  refine X.nil (Run.seq ?_)
  refine R.cd (fun hc28=>?_) (fun hc28=>?_)
  ·obtain ⟨x26,xs27,hd24,hx24,hds24,hlt24⟩:=A0k hza24 hc28
   rw [hd24] at h
   rw [E0m] at h
   refine Run.skip (Run.seq (Run.block (Run.sr (X.ix elt59 (A0a hx24).1 (A0c l_int hx24) ?_))))
   refine X.lc shp25 ?_
   refine X.an ?_
   refine Run.sr (X.mv ?_)
   refine X.ls elt25 ?_
   refine X.bi ?_
   refine X.nil ?_
   refine R.cd (fun hc29=>?_) (fun hc29=>?_)
   ·replace h:=condT hc29 h
    refine Run.sr (X.an ?_)
    cases h
    have h:=hup19
    replace h:=elimR h
    cases h
    refine R.f1 Tryz.results169 ?_
    rfl
   replace h:=condF hc29 h
   refine Run.skip (Run.blk (Run.reg (X.ad ?_)))
   refine X.mn ?_
   exact R.ag hag24 (n24 - 1) (z25+1) (R.n3 (by first | (rw [hds24];exact h) | (dsimp only;rw [hds24];exact h)))
  rw [A0h hza24 hc28] at h
  rw [E0m] at h
  refine Run.exit (by rfl) ?_
  exact R.mt hmeet20 () (Option.some.inj h)
 rintro p30 rfl
 replace h:=elimL h
 refine Run.sr (X.an ?_)
 cases h
 refine R.f1 Tryz.results169 ?_
 rfl
theorem M1y (b0:A0b)(b1:A0q)(r:Bool)(h:M0w b0 b1=some r):PC Tryz.prog 156 [A0n b0,H0g b1] (bool r):=by
 unfold M0w at h
 refine PC.start Tryz.func156 Tryz.ntmps156 rfl ok156 rfl ?_
 refine Run.sr (X.bx ?_)
 refine X.bx ?_
 refine X.an ?_
 refine Run.seq ?_
 obtain ⟨v1,hv1,h⟩:=bindE h
 obtain ⟨e2,he2,h2⟩:=bindE h
 refine R.regG [(4,bool e2)] [] ?_ ?_
 ·clear h;have h:=he2;clear he2 h2
  refine X.ld shp34 ?_
  refine X.ld J0y ?_
  refine X.cp (D1d _ _ _ hv1) ?_
  refine X.mv ?_
  refine X.iG (fun hb3=>?_) (fun hb3=>?_)
  ·replace h:=condT hb3 h
   refine X.ld J0y ?_
   refine X.gy ?_
   obtain ⟨v4,hv4,h⟩:=bindE h
   refine X.cp (A1p _ _ hv4) ?_
   refine X.gy (X.un (h:=?_))
   refine X.pT ?_
   refine X.as ?_
   cases h
   exact X.eG
  replace h:=condF hb3 h
  refine X.gn (X.gn (X.pF ?_))
  refine X.as ?_
  cases h
  exact X.eG
 replace h:=h2;clear h2
 cases h
 refine R.f1 Tryz.results156 ?_
 rfl
theorem E1l (b0:A0b)(b1:Int)(r:Bool)(h:F0r b0 b1=some r):PC Tryz.prog 157 [A0n b0,int b1] (bool r):=by
 unfold F0r at h
 refine PC.start Tryz.func157 Tryz.ntmps157 rfl ok157 rfl ?_
 refine Run.sr (X.bx ?_)
 refine X.an ?_
 refine Run.seq ?_
 obtain ⟨v1,hv1,h⟩:=bindE h
 obtain ⟨e2,he2,h2⟩:=bindE h
 refine R.regG [(4,bool e2)] [] ?_ ?_
 ·clear h;have h:=he2;clear he2 h2
  refine X.mv ?_
  refine X.fl H0t ?_
  refine X.ld shp32 ?_
  refine X.ls elt32 ?_
  refine X.subW (h:=?_)
  refine X.cp (B0u _ _ _ _ hv1) ?_
  refine X.mv ?_
  refine X.iG (fun hb3=>?_) (fun hb3=>?_)
  ·replace h:=condT hb3 h
   refine X.fl H0t ?_
   refine X.gy (X.ld shp32 ?_)
   refine X.gy (X.mv ?_)
   refine X.gy ?_
   obtain ⟨v4,hv4,h⟩:=bindE h
   refine X.ix elt32 (A0a hv4).1 (A0c A0e hv4) ?_
   refine X.gy (X.fieldAddr_c N0g (by rfl) (by rfl) ?_)
   refine X.gy (X.lc shp59 ?_)
   refine X.gy (X.ls elt59 ?_)
   refine X.gy (X.bi ?_)
   refine X.pT ?_
   refine X.as ?_
   cases h
   exact X.eG
  replace h:=condF hb3 h
  refine X.gn (X.gn (X.gn (X.gn (X.gn (X.gn (X.gn (X.pF ?_)))))))
  refine X.as ?_
  cases h
  exact X.eG
 replace h:=h2;clear h2
 cases h
 refine R.f1 Tryz.results157 ?_
 rfl
theorem G1p (b0:A0f)(b1:List Int)(b2:Int)(r:Int)(h:Q0h b0 b1 b2=some r):PC Tryz.prog 170 [A0d b0,.slice (b1.map int),int b2] (int r):=by
 unfold Q0h at h
 refine PC.start Tryz.func170 Tryz.ntmps170 rfl ok170 rfl ?_
 refine Run.sr (X.bx ?_)
 refine X.an ?_
 refine Run.sr (X.ld shp50 ?_)
 refine X.mv ?_
 refine X.mv ?_
 obtain ⟨v1,hv1,h⟩:=bindE h
 refine X.cp (X0c _ _ _ _ _ _ hv1) ?_
 refine X.an ?_
 cases h
 refine R.f1 Tryz.results170 ?_
 rfl
theorem J1s (b0:A0b)(b1:A0q)(b2:Int)(b3:Int)(r:Int)(h:E0c b0 b1 b2 b3=some r):PC Tryz.prog 158 [A0n b0,H0g b1,int b2,int b3] (int r):=by
 unfold E0c at h
 refine PC.start Tryz.func158 Tryz.ntmps158 rfl ok158 rfl ?_
 refine Run.sr (X.bx ?_)
 refine X.bx ?_
 refine X.an ?_
 refine Run.seq (Run.draw (B0s [(1,([256],[],[],[])),(6,([320],[],[],[]))]) mixed (by kernel_rfl) (by kernel_rfl) ?_)
 refine X.fl B0l ?_
 refine X.ld shp30 ?_
 refine X.mv ?_
 obtain ⟨v1,hv1,h⟩:=bindE h
 refine X.ix elt30 (A0a hv1).1 (A0c A0d hv1) ?_
 refine X.lc shp50 ?_
 refine X.fl J0o ?_
 refine X.ld shp59 ?_
 refine X.mv ?_
 obtain ⟨v2,hv2,h⟩:=bindE h
 refine X.ix elt59 (A0a hv2).1 (A0c l_int hv2) ?_
 refine X.lc shp25 ?_
 refine X.mv ?_
 obtain ⟨v3,hv3,h⟩:=bindE h
 refine X.cp (G1p _ _ _ _ hv3) ?_
 refine X.an ?_
 cases h
 refine R.f1 Tryz.results158 ?_
 rfl
theorem Z0f (b0:A0b)(b1:A0q)(b2:Int)(r:List Int)(h:L0u b0 b1 b2=some r):PC Tryz.prog 138 [A0n b0,H0g b1,int b2] (.slice (r.map int)):=by
 unfold L0u at h
 refine PC.start Tryz.func138 Tryz.ntmps138 rfl ok138 rfl ?_
 refine Run.sr (X.bx ?_)
 refine X.bx ?_
 refine X.an ?_
 refine Run.sr ?_
 refine X.buildSlice false elt25 zer3 (by rfl) (by rfl) (by rfl) (by rfl) (by rfl) (by rfl) (by repeat (first | trivial | refine ⟨by first | rfl | simp [setL],?_⟩)) (A0s (by rfl)) (by rfl) (by rfl) (by rfl) ?_
 refine X.an ?_
 refine Run.seq (Run.seq ?_)
 obtain ⟨v1,hv1,h⟩:=bindE h
 obtain ⟨e2,he2,h2⟩:=bindE h
 refine R.regG [(2,int b2),(3,.lptr 192 0),(4,.lptr 256 0),(7,.own 704 (([]:List Int).map int).length),(21,bool e2)] [(192,.blk true [int b0.Deadline,.slice (b0.Activities.map A0d),.slice (b0.Links.map A0l),.slice (b0.Resources.map A0e),.slice (b0.Stocks.map int)]),(256,.blk true [.slice (b1.MinStart.map int),.slice (b1.MaxStart.map int),.slice (b1.Modes.map l_int)]),(704,.obj false 3 1 (([]:List Int).map int))] ?_ ?_
 ·clear h;have h:=he2;clear he2 h2
  refine X.ld shp34 ?_
  refine X.ld J0y ?_
  refine X.cp (M1y _ _ _ hv1) ?_
  refine X.un (h:=?_)
  refine X.mv ?_
  refine X.iG (fun hb3=>?_) (fun hb3=>?_)
  ·replace h:=condF hb3 h
   refine X.ld shp34 ?_
   refine X.gy (X.mv ?_)
   refine X.gy ?_
   obtain ⟨v4,hv4,h⟩:=bindE h
   refine X.cp (E1l _ _ _ hv4) ?_
   refine X.gy (X.un (h:=?_))
   refine X.pF ?_
   cases h
   exact X.eG
  replace h:=condT hb3 h
  refine X.gn (X.gn (X.gn (X.pT ?_)))
  cases h
  exact X.eG
 replace h:=h2;clear h2
 refine R.cd (fun hc5=>?_) (fun hc5=>?_)
 ·replace h:=condT hc5 h
  refine Run.sr (X.an ?_)
  cases h
  refine R.castS (t:=6) (.slice []) (by rfl) (.inr (.inl ⟨rfl,rfl⟩)) ?_
  refine R.f1 Tryz.results138 ?_
  rfl
 replace h:=condF hc5 h
 refine Run.skip (Run.seq (Run.sr (X.fl B0l ?_)))
 refine X.ld shp30 ?_
 refine X.ls elt30 ?_
 refine X.mn ?_
 obtain ⟨o6,ho6,h⟩:=bindE h
 refine R.join2 (β:=(List Int)) [] [] (fun p40 S=>(7,.slice (p40.map int))::S) (fun p40 M=>M) (fun p40=>p40=o6) ?_ ?_
 ·intro JJ9 hmeet8
  have hup7:=h;clear h;have h:=ho6;clear ho6
  refine Run.block (R.castS (t:=7) _ (by rfl) (.inr (.inr ⟨_,_,_,_,_,rfl,(by rfl),(by first | rfl | simp [setL] | omega),rfl⟩)) ?_)
  refine R.bndS (t:=23) (by rfl) (fun hbd12=>?_)
  replace hbd12:b0.Activities.length≤9223372036854775807:=by first | (rw [List.length_map] at hbd12;exact hbd12) | simp
  refine R.lp (β:=Int×(List Int)) [(2,int b2),(3,.lptr 192 0),(4,.lptr 256 0),(24,int (b0.Activities.length:Int))] [(192,.blk true [int b0.Deadline,.slice (b0.Activities.map A0d),.slice (b0.Links.map A0l),.slice (b0.Resources.map A0e),.slice (b0.Stocks.map int)]),(256,.blk true [.slice (b1.MinStart.map int),.slice (b1.MaxStart.map int),.slice (b1.Modes.map l_int)])] (fun bb S=>(7,.slice (bb.2.map int))::(25,int bb.1)::S) (fun bb M=>M) (fun n bb=>0≤bb.1∧bb.1+n=(b0.Activities.length:Int)∧D0k b0 b1 b2 (b0.Activities.drop bb.1.toNat) bb.1 bb.2=some o6) b0.Activities.length (0,([]:List Int)) ⟨Int.le_refl _,by simp,h⟩ ?_
  clear h
  rintro JJ12 n12 ⟨z13,a14⟩ hag12 ⟨hza12,hzb12,h⟩
  dsimp only at hza12 hzb12 h
  refine Run.sr (X.bi ?_)
  refine X.nil (Run.seq ?_)
  refine R.cd (fun hc17=>?_) (fun hc17=>?_)
  ·obtain ⟨x15,xs16,hd12,hx12,hds12,hlt12⟩:=A0k hza12 hc17
   rw [hd12] at h
   rw [D0k] at h
   refine Run.skip (Run.seq (Run.block (Run.sr (X.mv ?_))))
   refine X.an ?_
   refine Run.seq (Run.sr (X.ld shp34 ?_))
   refine X.ld J0y ?_
   refine X.mv ?_
   refine X.mv ?_
   obtain ⟨v18,hv18,h⟩:=bindE h
   refine X.cp (J1s _ _ _ _ _ hv18) ?_
   refine X.bi ?_
   refine X.nil ?_
   refine R.cd (fun hc19=>?_) (fun hc19=>?_)
   ·replace h:=condT hc19 h
    refine Run.exit (by rfl) ?_
    refine Run.reg (X.ad ?_)
    refine X.mn ?_
    exact R.ag hag12 (n12 - 1) (z13+1,a14) (R.n3 (by first | (rw [hds12];exact h) | (dsimp only;rw [hds12];exact h)))
   replace h:=condF hc19 h
   refine Run.skip (Run.sr (X.mv ?_))
   refine X.ls elt25 ?_
   refine X.an ?_
   refine Run.seq ?_
   obtain ⟨o20,ho20,h⟩:=bindE h
   refine R.join2 (β:=Int) [(2,int b2),(3,.lptr 192 0),(4,.lptr 256 0),(7,.slice (a14.map int)),(8,int z13),(24,int (b0.Activities.length:Int)),(25,int z13)] [(192,.blk true [int b0.Deadline,.slice (b0.Activities.map A0d),.slice (b0.Links.map A0l),.slice (b0.Resources.map A0e),.slice (b0.Stocks.map int)]),(256,.blk true [.slice (b1.MinStart.map int),.slice (b1.MaxStart.map int),.slice (b1.Modes.map l_int)])] (fun p34 S=>(9,int p34)::S) (fun p34 M=>M) (fun p34=>p34=o20) ?_ ?_
   ·intro JJ23 hmeet22
    have hup21:=h;clear h;have h:=ho20;clear ho20
    refine Run.block ?_
    refine R.lp (β:=Int) [(2,int b2),(3,.lptr 192 0),(4,.lptr 256 0),(7,.slice (a14.map int)),(8,int z13),(24,int (b0.Activities.length:Int)),(25,int z13)] [(192,.blk true [int b0.Deadline,.slice (b0.Activities.map A0d),.slice (b0.Links.map A0l),.slice (b0.Resources.map A0e),.slice (b0.Stocks.map int)]),(256,.blk true [.slice (b1.MinStart.map int),.slice (b1.MaxStart.map int),.slice (b1.Modes.map l_int)])] (fun bb S=>(9,int bb)::S) (fun bb M=>M) (fun n bb=>D0q b1 a14 z13 n bb=some o20) F0 (a14.length:Int) h ?_
    clear h
    rintro JJ23 n23 a25 hag23 h
    obtain _ | n23:=n23
    ·exact absurd h (by simp [D0q])
    rw [D0q] at h
    refine Run.seq (Run.seq ?_)
    obtain ⟨e28,he28,h2⟩:=bindE h
    refine R.drawG [(2,int b2),(3,.lptr 192 0),(4,.lptr 256 0),(7,.slice (a14.map int)),(8,int z13),(9,int a25),(24,int (b0.Activities.length:Int)),(25,int z13),(54,bool e28)] [(192,.blk true [int b0.Deadline,.slice (b0.Activities.map A0d),.slice (b0.Links.map A0l),.slice (b0.Resources.map A0e),.slice (b0.Stocks.map int)]),(256,.blk true [.slice (b1.MinStart.map int),.slice (b1.MaxStart.map int),.slice (b1.Modes.map l_int)])] (B0s [(4,([256],[],[],[])),(13,([256],[],[],[]))]) mixed (by kernel_rfl) (by kernel_rfl) ?_ ?_
    ·clear h;have h:=he28;clear he28 h2
     refine X.mv ?_
     refine X.bi ?_
     refine X.mv ?_
     refine X.iG (fun hb29=>?_) (fun hb29=>?_)
     ·replace h:=condT hb29 h
      refine X.fl J0a ?_
      refine X.gy (X.ld shp25 ?_)
      refine X.gy (X.mv ?_)
      refine X.gy (X.mv ?_)
      refine X.gy (X.subW (h:=?_))
      refine X.gy ?_
      obtain ⟨v30,hv30,h⟩:=bindE h
      refine X.ix elt25 (A0a hv30).1 (A0c int hv30) ?_
      refine X.gy (X.lc shp3 ?_)
      refine X.gy ?_
      obtain ⟨v31,hv31,h⟩:=bindE h
      refine X.ix elt25 (A0a hv31).1 (A0c int hv31) ?_
      refine X.gy (X.lc shp3 ?_)
      refine X.gy (X.fl J0a ?_)
      refine X.gy (X.ld shp25 ?_)
      refine X.gy (X.mv ?_)
      refine X.gy ?_
      obtain ⟨v32,hv32,h⟩:=bindE h
      refine X.ix elt25 (A0a hv32).1 (A0c int hv32) ?_
      refine X.gy (X.lc shp3 ?_)
      refine X.gy (X.bi ?_)
      refine X.pT ?_
      cases h
      exact X.eG
     replace h:=condF hb29 h
     refine X.gn (X.gn (X.gn (X.gn (X.gn (X.gn (X.gn (X.gn ?_)))))))
     refine X.gn (X.gn (X.gn (X.gn (X.gn (X.gn (X.pF ?_))))))
     cases h
     exact X.eG
    replace h:=h2;clear h2
    refine R.cd (fun hc33=>?_) (fun hc33=>?_)
    ·replace h:=condT hc33 h
     refine Run.skip (Run.block (Run.reg (X.mv ?_)))
     refine X.subW (h:=?_)
     refine X.an ?_
     refine Run.blk ?_
     exact hag23 n23 (W (a25 - 1)) _ _ (by omega) h (by trivial) (by trivial) (by rfl) (by rfl)
    replace h:=condF hc33 h
    refine Run.exit (by rfl) ?_
    exact R.mt hmeet22 a25 (Option.some.inj h)
   rintro p34 rfl
   refine Run.sr ?_
   refine X.buildSlice false elt25 zer3 (by rfl) (by rfl) (by rfl) (by rfl) (by rfl) (by rfl) (by repeat (first | trivial | refine ⟨by first | rfl | simp [setL],?_⟩)) (A0s (by rfl)) (by rfl) (by rfl) (by rfl) ?_
   refine X.mv ?_
   refine X.mv ?_
   obtain ⟨v35,hv35,h⟩:=bindE h
   refine X.sliceS2 elt25 (by rfl) (by exact A0i (f:=int) (fun _=>rfl)) (by rfl) ⟨_,by rfl⟩ (L1a _ hv35) (G1m _ hv35) (by rfl) ?_
   obtain ⟨v36,hv36,h⟩:=bindE h
   refine X.append elt25 zer3 (by rfl) (by rfl) (by first | rfl | simp [setL] | omega) (by rfl) (.pure _) (by exact A0i (f:=int) (fun _=>rfl)) (E0p int hv36) (E0o int hv36) (by rfl) (by rfl) (by rfl) (by rfl) ?_
   refine X.an ?_
   refine Run.sr (X.mv ?_)
   refine X.mv ?_
   refine X.buildSlice false elt25 zer3 (by rfl) (by rfl) (by rfl) (by rfl) (by rfl) (by rfl) (by repeat (first | trivial | refine ⟨by first | rfl | simp [setL],?_⟩)) (A0s (by rfl)) (by rfl) (by rfl) (by rfl) ?_
   obtain ⟨v37,hv37,h⟩:=bindE h
   refine X.append elt25 zer3 (by rfl) (by rfl) (by first | rfl | simp [setL] | omega) (by rfl) (.own _ _ _ _ _ _ (A0g (by rfl)) (by first | rfl | simp [setL] | omega)) (A0s (by rfl)) (E0p int hv37) (E0o int hv37) (by rfl) (by rfl) (by rfl) (by rfl) ?_
   refine X.an ?_
   refine Run.reg (X.mv ?_)
   refine X.mv ?_
   refine X.mv ?_
   obtain ⟨v38,hv38,h⟩:=bindE h
   refine X.sliceS2 elt25 (by rfl) (by exact A0i (f:=int) (fun _=>rfl)) ⟨_,by rfl⟩ (by first | rfl | simp [Bound]) (L1a _ hv38) (G1m _ hv38) (by rfl) ?_
   obtain ⟨v39,hv39,h⟩:=bindE h
   refine X.append elt25 zer3 (by rfl) (by rfl) (by first | rfl | simp [setL] | omega) (by rfl) (.pure _) (by exact A0i (f:=int) (fun _=>rfl)) (E0p int hv39) (E0o int hv39) (by rfl) (by rfl) (by rfl) (by rfl) ?_
   refine X.an ?_
   refine Run.blk (Run.reg (X.ad ?_))
   refine X.mn ?_
   refine R.castS (t:=7) _ (by rfl) (.inr (.inr ⟨_,_,_,_,_,rfl,(by rfl),(by first | rfl | simp [setL] | omega),rfl⟩)) ?_
   exact R.ag hag12 (n12 - 1) (z13+1,v39) (R.n3 (by first | (rw [hds12];exact h) | (dsimp only;rw [hds12];exact h)))
  rw [A0h hza12 hc17] at h
  rw [D0k] at h
  refine Run.exit (by rfl) ?_
  exact R.mt hmeet8 a14 (Option.some.inj h)
 rintro p40 rfl
 refine Run.sr (X.mv ?_)
 refine X.an ?_
 cases h
 refine R.f1 Tryz.results138 ?_
 rfl
theorem G1d (b0:A0b)(b1:A0q)(b2:Int)(r:Int)(h:N0e b0 b1 b2=some r):PC Tryz.prog 139 [A0n b0,H0g b1,int b2] (int r):=by
 unfold N0e at h
 refine PC.start Tryz.func139 Tryz.ntmps139 rfl ok139 rfl ?_
 refine Run.sr (X.bx ?_)
 refine X.bx ?_
 refine X.an ?_
 refine Run.seq (Run.draw (B0s [(1,([192],[],[],[])),(6,([256],[],[],[]))]) mixed (by kernel_rfl) (by kernel_rfl) ?_)
 refine X.fl B0l ?_
 refine X.ld shp30 ?_
 refine X.mv ?_
 obtain ⟨v1,hv1,h⟩:=bindE h
 refine X.ix elt30 (A0a hv1).1 (A0c A0d hv1) ?_
 refine X.lc shp50 ?_
 refine X.fl J0o ?_
 refine X.ld shp59 ?_
 refine X.mv ?_
 obtain ⟨v2,hv2,h⟩:=bindE h
 refine X.ix elt59 (A0a hv2).1 (A0c l_int hv2) ?_
 refine X.lc shp25 ?_
 obtain ⟨v3,hv3,h⟩:=bindE h
 refine X.cp (P0n _ _ _ hv3) ?_
 refine X.an ?_
 cases h
 refine R.f1 Tryz.results139 ?_
 rfl
theorem Z0u (b0:A0b)(b1:A0q)(b2:Int)(r:Int)(h:L0t b0 b1 b2=some r):PC Tryz.prog 105 [A0n b0,H0g b1,int b2] (int r):=by
 unfold L0t at h
 refine PC.start Tryz.func105 Tryz.ntmps105 rfl ok105 rfl ?_
 refine Run.sr (X.bx ?_)
 refine X.bx ?_
 refine X.an ?_
 refine Run.sr (X.ld shp34 ?_)
 refine X.ld J0y ?_
 refine X.mv ?_
 obtain ⟨v1,hv1,h⟩:=bindE h
 refine X.cp (Z0f _ _ _ _ hv1) ?_
 refine X.an ?_
 refine Run.seq (Run.sr (X.mv ?_))
 refine X.ls elt25 ?_
 refine X.bi ?_
 refine X.nil ?_
 refine R.cd (fun hc2=>?_) (fun hc2=>?_)
 ·replace h:=condT hc2 h
  refine Run.sr (X.an ?_)
  cases h
  refine R.f1 Tryz.results105 ?_
  rfl
 replace h:=condF hc2 h
 refine Run.skip (Run.seq (Run.draw (B0s [(1,([256],[],[],[]))]) mixed (by kernel_rfl) (by kernel_rfl) ?_))
 refine X.fl J0a ?_
 refine X.ld shp25 ?_
 refine X.mv ?_
 obtain ⟨v3,hv3,h⟩:=bindE h
 refine X.ix elt25 (A0a hv3).1 (A0c int hv3) ?_
 refine X.lc shp3 ?_
 obtain ⟨v4,hv4,h⟩:=bindE h
 refine X.ix elt25 (A0a hv4).1 (A0c int hv4) ?_
 refine X.lc shp3 ?_
 refine X.an ?_
 refine Run.sr (X.an ?_)
 refine Run.seq (Run.sr (X.mv ?_))
 refine X.ls elt25 ?_
 refine X.mn ?_
 obtain ⟨o5,ho5,h⟩:=bindE h
 refine R.join2 (β:=Int×Int) [] [] (fun p41 S=>(8,int p41.1)::(9,int p41.2)::S) (fun p41 M=>M) (fun p41=>p41=o5) ?_ ?_
 ·intro JJ8 hmeet7
  have hup6:=h;clear h;have h:=ho5;clear ho5
  refine Run.block ?_
  refine R.bndS (t:=7) (by rfl) (fun hbd11=>?_)
  replace hbd11:v1.length≤9223372036854775807:=by first | (rw [List.length_map] at hbd11;exact hbd11) | simp
  refine R.lp (β:=Int×Int×Int) [(2,int b2),(3,.lptr 192 0),(4,.lptr 256 0),(7,.slice (v1.map int)),(29,.slice (v1.map int)),(30,int (v1.length:Int))] [(192,.blk true [int b0.Deadline,.slice (b0.Activities.map A0d),.slice (b0.Links.map A0l),.slice (b0.Resources.map A0e),.slice (b0.Stocks.map int)]),(256,.blk true [.slice (b1.MinStart.map int),.slice (b1.MaxStart.map int),.slice (b1.Modes.map l_int)])] (fun bb S=>(8,int bb.2.1)::(9,int bb.2.2)::(31,int bb.1)::S) (fun bb M=>M) (fun n bb=>0≤bb.1∧bb.1+n=(v1.length:Int)∧D0o b0 b1 b2 v1 (v1.drop bb.1.toNat) bb.1 bb.2.1 bb.2.2=some o5) v1.length (0,v4,0) ⟨Int.le_refl _,by simp,h⟩ ?_
  clear h
  rintro JJ11 n11 ⟨z12,a13,a14⟩ hag11 ⟨hza11,hzb11,h⟩
  dsimp only at hza11 hzb11 h
  refine Run.sr (X.bi ?_)
  refine X.nil (Run.seq ?_)
  refine R.cd (fun hc17=>?_) (fun hc17=>?_)
  ·obtain ⟨x15,xs16,hd11,hx11,hds11,hlt11⟩:=A0k hza11 hc17
   rw [hd11] at h
   rw [D0o] at h
   refine Run.skip (Run.seq (Run.block (Run.sr (X.ix elt25 (A0a hx11).1 (A0c int hx11) ?_))))
   refine X.lc shp3 ?_
   refine X.an ?_
   refine Run.sr (X.mv ?_)
   refine X.ld shp34 ?_
   refine X.ld J0y ?_
   refine X.mv ?_
   obtain ⟨v18,hv18,h⟩:=bindE h
   refine X.cp (G1d _ _ _ _ hv18) ?_
   refine X.addW (h:=?_)
   refine X.an ?_
   refine Run.sr (X.an ?_)
   refine Run.seq (Run.sr (X.mv ?_))
   refine X.ls elt25 ?_
   refine X.mn ?_
   obtain ⟨o19,ho19,h⟩:=bindE h
   refine R.join2 (β:=Int) [(2,int b2),(3,.lptr 192 0),(4,.lptr 256 0),(7,.slice (v1.map int)),(8,int (W (a13+v18))),(9,int a14),(29,.slice (v1.map int)),(30,int (v1.length:Int)),(31,int z12)] [(192,.blk true [int b0.Deadline,.slice (b0.Activities.map A0d),.slice (b0.Links.map A0l),.slice (b0.Resources.map A0e),.slice (b0.Stocks.map int)]),(256,.blk true [.slice (b1.MinStart.map int),.slice (b1.MaxStart.map int),.slice (b1.Modes.map l_int)])] (fun p38 S=>(12,int p38)::S) (fun p38 M=>M) (fun p38=>p38=o19) ?_ ?_
   ·intro JJ22 hmeet21
    have hup20:=h;clear h;have h:=ho19;clear ho19
    refine Run.block ?_
    refine R.bndS (t:=7) (by rfl) (fun hbd25=>?_)
    replace hbd25:v1.length≤9223372036854775807:=by first | (rw [List.length_map] at hbd25;exact hbd25) | simp
    refine R.lp (β:=Int×Int) [(2,int b2),(3,.lptr 192 0),(4,.lptr 256 0),(7,.slice (v1.map int)),(8,int (W (a13+v18))),(9,int a14),(11,int x15),(29,.slice (v1.map int)),(30,int (v1.length:Int)),(31,int z12),(41,.slice (v1.map int)),(42,int (v1.length:Int))] [(192,.blk true [int b0.Deadline,.slice (b0.Activities.map A0d),.slice (b0.Links.map A0l),.slice (b0.Resources.map A0e),.slice (b0.Stocks.map int)]),(256,.blk true [.slice (b1.MinStart.map int),.slice (b1.MaxStart.map int),.slice (b1.Modes.map l_int)])] (fun bb S=>(12,int bb.2)::(43,int bb.1)::S) (fun bb M=>M) (fun n bb=>0≤bb.1∧bb.1+n=(v1.length:Int)∧B0q b0 b2 x15 (v1.drop bb.1.toNat) bb.1 bb.2=some o19) v1.length (0,12) ⟨Int.le_refl _,by simp,h⟩ ?_
    clear h
    rintro JJ25 n25 ⟨z26,a27⟩ hag25 ⟨hza25,hzb25,h⟩
    dsimp only at hza25 hzb25 h
    refine Run.sr (X.bi ?_)
    refine X.nil (Run.seq ?_)
    refine R.cd (fun hc30=>?_) (fun hc30=>?_)
    ·obtain ⟨x28,xs29,hd25,hx25,hds25,hlt25⟩:=A0k hza25 hc30
     rw [hd25] at h
     rw [B0q] at h
     refine Run.skip (Run.seq (Run.block (Run.sr (X.ix elt25 (A0a hx25).1 (A0c int hx25) ?_))))
     refine X.lc shp3 ?_
     refine X.an ?_
     refine Run.sr (X.mv ?_)
     refine X.mv ?_
     refine X.bi ?_
     refine X.nil ?_
     refine R.cd (fun hc31=>?_) (fun hc31=>?_)
     ·replace h:=condT hc31 h
      refine Run.draw (B0s [(2,([192],[],[],[])),(8,([192],[],[],[])),(16,([192],[],[],[]))]) mixed (by kernel_rfl) (by kernel_rfl) ?_
      refine X.mv ?_
      refine X.fl H0t ?_
      refine X.ld shp32 ?_
      refine X.mv ?_
      obtain ⟨v32,hv32,h⟩:=bindE h
      refine X.ix elt32 (A0a hv32).1 (A0c A0e hv32) ?_
      refine X.fieldAddr_c N0g (by rfl) (by rfl) ?_
      refine X.lc shp59 ?_
      refine X.fl B0l ?_
      refine X.ld shp30 ?_
      refine X.mv ?_
      obtain ⟨v33,hv33,h⟩:=bindE h
      refine X.ix elt30 (A0a hv33).1 (A0c A0d hv33) ?_
      refine X.fieldAddr_c S0t (by rfl) (by rfl) ?_
      refine X.lc shp3 ?_
      obtain ⟨v34,hv34,h⟩:=bindE h
      refine X.ix elt59 (A0a hv34).1 (A0c l_int hv34) ?_
      refine X.lc shp25 ?_
      refine X.fl B0l ?_
      refine X.ld shp30 ?_
      refine X.mv ?_
      obtain ⟨v35,hv35,h⟩:=bindE h
      refine X.ix elt30 (A0a hv35).1 (A0c A0d hv35) ?_
      refine X.fieldAddr_c S0t (by rfl) (by rfl) ?_
      refine X.lc shp3 ?_
      obtain ⟨v36,hv36,h⟩:=bindE h
      refine X.ix elt25 (A0a hv36).1 (A0c int hv36) ?_
      refine X.lc shp3 ?_
      obtain ⟨v37,hv37,h⟩:=bindE h
      refine X.cp (L1c _ _ _ hv37) ?_
      refine X.an ?_
      refine Run.blk (Run.reg (X.ad ?_))
      refine X.mn ?_
      exact R.ag hag25 (n25 - 1) (z26+1,v37) (R.n3 (by first | (rw [hds25];exact h) | (dsimp only;rw [hds25];exact h)))
     replace h:=condF hc31 h
     refine Run.skip (Run.blk (Run.reg (X.ad ?_)))
     refine X.mn ?_
     exact R.ag hag25 (n25 - 1) (z26+1,a27) (R.n3 (by first | (rw [hds25];exact h) | (dsimp only;rw [hds25];exact h)))
    rw [A0h hza25 hc30] at h
    rw [B0q] at h
    refine Run.exit (by rfl) ?_
    exact R.mt hmeet21 a27 (Option.some.inj h)
   rintro p38 rfl
   refine Run.sr (X.mv ?_)
   refine X.ls elt25 ?_
   refine X.bi ?_
   refine X.nil ?_
   refine R.cd (fun hc39=>?_) (fun hc39=>?_)
   ·replace h:=condT hc39 h
    refine Run.sr (X.mv ?_)
    refine X.mv ?_
    refine X.addW (h:=?_)
    refine X.an ?_
    refine Run.reg (X.mv ?_)
    refine X.mv ?_
    obtain ⟨v40,hv40,h⟩:=bindE h
    refine X.cp (H0s _ _ _ hv40) ?_
    refine X.an ?_
    refine Run.blk (Run.reg (X.ad ?_))
    refine X.mn ?_
    exact R.ag hag11 (n11 - 1) (z12+1,(W ((W (a13+v18))+p38)),v40) (R.n3 (by first | (rw [hds11];exact h) | (dsimp only;rw [hds11];exact h)))
   replace h:=condF hc39 h
   refine Run.skip (Run.blk (Run.reg (X.ad ?_)))
   refine X.mn ?_
   exact R.ag hag11 (n11 - 1) (z12+1,(W (a13+v18)),a14) (R.n3 (by first | (rw [hds11];exact h) | (dsimp only;rw [hds11];exact h)))
  rw [A0h hza11 hc17] at h
  rw [D0o] at h
  refine Run.exit (by rfl) ?_
  exact R.mt hmeet7 (a13,a14) (Option.some.inj h)
 rintro p41 rfl
 refine Run.sr (X.mv ?_)
 refine X.mv ?_
 refine X.subW (h:=?_)
 refine X.an ?_
 cases h
 refine R.f1 Tryz.results105 ?_
 rfl
theorem U0f (b0:A0b)(r:Int)(h:G0l b0=some r):PC Tryz.prog 55 [A0n b0] (int r):=by
 unfold G0l at h
 refine PC.start Tryz.func55 Tryz.ntmps55 rfl ok55 rfl ?_
 refine Run.sr (X.bx ?_)
 refine X.an ?_
 refine Run.sr (X.an ?_)
 refine Run.seq (Run.sr (X.ld shp34 ?_))
 obtain ⟨v1,hv1,h⟩:=bindE h
 refine X.cp (H0w _ _ hv1) ?_
 refine X.un (h:=?_)
 refine X.nil ?_
 refine R.cd (fun hc2=>?_) (fun hc2=>?_)
 ·replace h:=condT hc2 h
  refine Run.sr (X.an ?_)
  cases h
  refine R.f1 Tryz.results55 ?_
  rfl
 replace h:=condF hc2 h
 refine Run.skip (Run.seq (Run.sr (X.fl H0t ?_)))
 refine X.ld shp32 ?_
 refine X.ls elt32 ?_
 refine X.mn ?_
 obtain ⟨o3,ho3,h⟩:=bindE h
 refine R.join2 (β:=Int) [] [] (fun p18 S=>(3,int p18)::S) (fun p18 M=>M) (fun p18=>p18=o3) ?_ ?_
 ·intro JJ6 hmeet5
  have hup4:=h;clear h;have h:=ho3;clear ho3
  refine Run.block ?_
  refine R.bndS (t:=9) (by rfl) (fun hbd9=>?_)
  replace hbd9:b0.Resources.length≤9223372036854775807:=by first | (rw [List.length_map] at hbd9;exact hbd9) | simp
  refine R.lp (β:=Int×Int) [(1,.lptr 64 0),(10,int (b0.Resources.length:Int))] [(64,.blk true [int b0.Deadline,.slice (b0.Activities.map A0d),.slice (b0.Links.map A0l),.slice (b0.Resources.map A0e),.slice (b0.Stocks.map int)])] (fun bb S=>(3,int bb.2)::(11,int bb.1)::S) (fun bb M=>M) (fun n bb=>0≤bb.1∧bb.1+n=(b0.Resources.length:Int)∧C0j b0 (b0.Resources.drop bb.1.toNat) bb.1 bb.2=some o3) b0.Resources.length (0,0) ⟨Int.le_refl _,by simp,h⟩ ?_
  clear h
  rintro JJ9 n9 ⟨z10,a11⟩ hag9 ⟨hza9,hzb9,h⟩
  dsimp only at hza9 hzb9 h
  refine Run.sr (X.bi ?_)
  refine X.nil (Run.seq ?_)
  refine R.cd (fun hc14=>?_) (fun hc14=>?_)
  ·obtain ⟨x12,xs13,hd9,hx9,hds9,hlt9⟩:=A0k hza9 hc14
   rw [hd9] at h
   rw [C0j] at h
   refine Run.skip (Run.seq (Run.block (Run.sr (X.mv ?_))))
   refine X.an ?_
   refine Run.draw (B0s [(1,([64],[],[],[])),(2,([64],[],[],[])),(3,([],[1088,1089,1090],[],[])),(5,([1088,1089,1090],[],[],[]))]) mixed (by kernel_rfl) (by kernel_rfl) ?_
   refine X.mv ?_
   refine X.ld shp34 ?_
   refine X.ld shp34 ?_
   obtain ⟨v15,hv15,h⟩:=bindE h
   refine X.callA (N1g _ _ hv15) (by rfl) (by rfl) (by rfl) (by trivial) (by rfl) (by rfl) (by rfl) (by rfl) (by rfl) (by rfl) ?_
   refine X.mv ?_
   obtain ⟨v16,hv16,h⟩:=bindE h
   refine X.cp (Z0u _ _ _ _ hv16) ?_
   obtain ⟨v17,hv17,h⟩:=bindE h
   refine X.cp (H0s _ _ _ hv17) ?_
   refine X.an ?_
   refine Run.blk (Run.reg (X.ad ?_))
   refine X.mn ?_
   exact R.ag hag9 (n9 - 1) (z10+1,v17) (R.n3 (by first | (rw [hds9];exact h) | (dsimp only;rw [hds9];exact h)))
  rw [A0h hza9 hc14] at h
  rw [C0j] at h
  refine Run.exit (by rfl) ?_
  exact R.mt hmeet5 a11 (Option.some.inj h)
 rintro p18 rfl
 refine Run.sr (X.mv ?_)
 refine X.an ?_
 cases h
 refine R.f1 Tryz.results55 ?_
 rfl
theorem D1v (b0:A0b)(r:Int)(h:N0x b0=some r):PC Tryz.prog 17 [A0n b0] (int r):=by
 unfold N0x at h
 refine PC.start Tryz.func17 Tryz.ntmps17 rfl ok17 rfl ?_
 refine Run.sr (X.bx ?_)
 refine X.an ?_
 refine Run.seq (Run.sr (X.ld shp34 ?_))
 obtain ⟨v1,hv1,h⟩:=bindE h
 refine X.cp (H0w _ _ hv1) ?_
 refine X.un (h:=?_)
 refine X.nil ?_
 refine R.cd (fun hc2=>?_) (fun hc2=>?_)
 ·replace h:=condT hc2 h
  refine Run.sr (X.an ?_)
  cases h
  refine R.f1 Tryz.results17 ?_
  rfl
 replace h:=condF hc2 h
 refine Run.skip (Run.seq (Run.draw (B0s [(0,([64],[],[],[])),(3,([64],[],[],[])),(5,([64],[],[],[]))]) mixed (by kernel_rfl) (by kernel_rfl) ?_))
 refine X.ld shp34 ?_
 obtain ⟨v3,hv3,h⟩:=bindE h
 refine X.cp (V0y _ _ hv3) ?_
 obtain ⟨v4,hv4,h⟩:=bindE h
 refine X.cp (H0s _ _ _ hv4) ?_
 refine X.ld shp34 ?_
 obtain ⟨v5,hv5,h⟩:=bindE h
 refine X.cp (E1j _ _ hv5) ?_
 refine X.ld shp34 ?_
 obtain ⟨v6,hv6,h⟩:=bindE h
 refine X.cp (U0f _ _ hv6) ?_
 obtain ⟨v7,hv7,h⟩:=bindE h
 refine X.cp (H0s _ _ _ hv7) ?_
 obtain ⟨v8,hv8,h⟩:=bindE h
 refine X.cp (H0s _ _ _ hv8) ?_
 refine X.an ?_
 cases h
 refine R.f1 Tryz.results17 ?_
 rfl
theorem Y0k (b0:A0b)(r:A0q)(h:J0b b0=some r):PC Tryz.prog 108 [A0n b0] (.agg [.fresh false 3 1 (r.MinStart.map int),.fresh false 3 1 (r.MaxStart.map int),.fresh false 25 1 (r.Modes.map l_int)]):=by
 unfold J0b at h
 refine PC.start Tryz.func108 Tryz.ntmps108 rfl ok108 rfl ?_
 refine Run.sr (X.bx ?_)
 refine X.alloc F1c (h:=?_)
 refine X.nil (Run.sr ?_)
 refine X.build F1c pl121 (by rfl) (by rfl) (by repeat (first | trivial | refine ⟨by first | rfl | simp [setL],?_⟩)) (by rfl) (by rfl) (by rfl) ?_
 refine X.alloc F1c (h:=?_)
 refine X.sl J0y ?_
 refine X.nil (Run.seq (Run.sr (X.ld shp34 ?_)))
 obtain ⟨v1,hv1,h⟩:=bindE h
 refine X.cp (G0i _ _ hv1) ?_
 refine X.un (h:=?_)
 refine X.nil ?_
 refine R.cd (fun hc2=>?_) (fun hc2=>?_)
 ·replace h:=condT hc2 h
  refine Run.sr (X.ld J0y ?_)
  refine X.sl J0y ?_
  refine X.nil ?_
  cases h
  refine R.nilOwnB (m:=128) 0 168 false 3 1 (by rfl) (by rfl) (by rfl) (by rfl) (by rfl) ?_
  refine R.nilOwnB (m:=128) 1 169 false 3 1 (by rfl) (by rfl) (by rfl) (by rfl) (by rfl) ?_
  refine R.nilOwnB (m:=128) 2 170 false 25 1 (by rfl) (by rfl) (by rfl) (by rfl) (by rfl) ?_
  refine R.finC Tryz.results108 J0y (by rfl) (by rfl) (by rfl) (by rfl) (by repeat (first | trivial | refine ⟨by first | rfl | simp [setL],?_⟩)) ?_
  rfl
 replace h:=condF hc2 h
 refine Run.skip (Run.seq (Run.sr (X.fl B0l ?_)))
 refine X.ld shp30 ?_
 refine X.ls elt30 ?_
 refine X.mn ?_
 obtain ⟨o3,ho3,h⟩:=bindE h
 refine R.join2 (β:=(List Int)×(List Int)×(List (List Int))) [(2,.lptr 128 0),(3,.lptr 192 0)] [(128,.blk true [.nils,.nils,.nils])] (fun p21 S=>S) (fun p21 M=>(192,.blk true [.own 1344 (p21.1.map int).length,.own 1792 (p21.2.1.map int).length,.own 2176 (p21.2.2.map l_int).length])::(1344,.obj false 3 1 (p21.1.map int))::(1792,.obj false 3 1 (p21.2.1.map int))::(2176,.obj false 25 1 (p21.2.2.map l_int))::M) (fun p21=>p21=o3) ?_ ?_
 ·intro JJ6 hmeet5
  have hup4:=h;clear h;have h:=ho3;clear ho3
  refine Run.block (R.nilOwnB (m:=192) 0 1344 false 3 1 (by rfl) (by rfl) (by rfl) (by rfl) (by rfl) ?_)
  refine R.nilOwnB (m:=192) 1 1792 false 3 1 (by rfl) (by rfl) (by rfl) (by rfl) (by rfl) ?_
  refine R.nilOwnB (m:=192) 2 2176 false 25 1 (by rfl) (by rfl) (by rfl) (by rfl) (by rfl) ?_
  refine R.bndS (t:=12) (by rfl) (fun hbd9=>?_)
  replace hbd9:b0.Activities.length≤9223372036854775807:=by first | (rw [List.length_map] at hbd9;exact hbd9) | simp
  refine R.lp (β:=Int×(List Int)×(List Int)×(List (List Int))) [(1,.lptr 64 0),(2,.lptr 128 0),(3,.lptr 192 0),(12,.slice (b0.Activities.map A0d)),(13,int (b0.Activities.length:Int))] [(64,.blk true [int b0.Deadline,.slice (b0.Activities.map A0d),.slice (b0.Links.map A0l),.slice (b0.Resources.map A0e),.slice (b0.Stocks.map int)]),(128,.blk true [.nils,.nils,.nils])] (fun bb S=>(14,int bb.1)::S) (fun bb M=>(192,.blk true [.own 1344 (bb.2.1.map int).length,.own 1792 (bb.2.2.1.map int).length,.own 2176 (bb.2.2.2.map l_int).length])::(1344,.obj false 3 1 (bb.2.1.map int))::(1792,.obj false 3 1 (bb.2.2.1.map int))::(2176,.obj false 25 1 (bb.2.2.2.map l_int))::M) (fun n bb=>0≤bb.1∧bb.1+n=(b0.Activities.length:Int)∧E0e b0 (b0.Activities.drop bb.1.toNat) bb.1 bb.2.1 bb.2.2.1 bb.2.2.2=some o3) b0.Activities.length (0,([]:List Int),([]:List Int),([]:List (List Int))) ⟨Int.le_refl _,by simp,h⟩ ?_
  clear h
  rintro JJ9 n9 ⟨z10,a11,a12,a13⟩ hag9 ⟨hza9,hzb9,h⟩
  dsimp only at hza9 hzb9 h
  refine Run.sr (X.bi ?_)
  refine X.nil (Run.seq ?_)
  refine R.cd (fun hc16=>?_) (fun hc16=>?_)
  ·obtain ⟨x14,xs15,hd9,hx9,hds9,hlt9⟩:=A0k hza9 hc16
   rw [hd9] at h
   rw [E0e] at h
   refine Run.skip (Run.seq (Run.block (Run.sr (X.ix elt30 (A0a hx9).1 (A0c A0d hx9) ?_))))
   refine X.lc shp50 ?_
   refine X.alloc zer50 (h:=?_)
   refine X.sl shp50 ?_
   refine X.nil (Run.draw2 (B0s [(1,([192],[],[],[])),(2,([1280],[1280],[],[])),(3,([1280,1344],[1344],[],[])),(5,([192],[],[],[])),(7,([64],[],[],[])),(9,([1728],[1728],[],[])),(10,([1728,1792],[1792],[],[])),(12,([192],[],[],[])),(13,([320],[],[],[])),(14,([],[2048],[],[])),(15,([2048,2112],[2112],[],[])),(16,([2112,2176],[2176],[],[])),(18,([192,1344],[192],[],[])),(20,([192,1792],[192],[],[])),(22,([192,2176],[192],[],[]))]) mixed (by kernel_rfl) (by kernel_rfl) ?_)
   refine X.fl J0a ?_
   refine X.ld shp25 ?_
   refine X.buildSlice false elt25 zer3 (by rfl) (by rfl) (by rfl) (by rfl) (by rfl) (by rfl) (by repeat (first | trivial | refine ⟨by first | rfl | simp [setL],?_⟩)) (A0s (by rfl)) (by rfl) (by rfl) (by rfl) ?_
   obtain ⟨v17,hv17,h⟩:=bindE h
   refine X.append elt25 zer3 (by rfl) (by rfl) (by first | rfl | simp [setL] | omega) (by rfl) (.own _ _ _ _ _ _ (A0g (by rfl)) (by first | rfl | simp [setL] | omega)) (A0s (by rfl)) (E0p int hv17) (E0o int hv17) (by rfl) (by rfl) (by rfl) (by rfl) ?_
   refine X.fl L0z ?_
   refine X.ld shp25 ?_
   refine X.fl W0o ?_
   refine X.ld shp3 ?_
   refine X.subW (h:=?_)
   refine X.buildSlice false elt25 zer3 (by rfl) (by rfl) (by rfl) (by rfl) (by rfl) (by rfl) (by repeat (first | trivial | refine ⟨by first | rfl | simp [setL],?_⟩)) (A0s (by rfl)) (by rfl) (by rfl) (by rfl) ?_
   obtain ⟨v18,hv18,h⟩:=bindE h
   refine X.append elt25 zer3 (by rfl) (by rfl) (by first | rfl | simp [setL] | omega) (by rfl) (.own _ _ _ _ _ _ (A0g (by rfl)) (by first | rfl | simp [setL] | omega)) (A0s (by rfl)) (E0p int hv18) (E0o int hv18) (by rfl) (by rfl) (by rfl) (by rfl) ?_
   refine X.fl J0o ?_
   refine X.ld shp59 ?_
   refine X.ld shp50 ?_
   obtain ⟨v19,hv19,h⟩:=bindE h
   refine X.callF (K0h _ _ hv19) (by rfl) (by rfl) (by rfl) (by trivial) (by rfl) (by rfl) (by rfl) (by rfl) ?_
   refine X.buildSlice false elt59 zer25 (by rfl) (by rfl) (by rfl) (by rfl) (by rfl) (by rfl) (by repeat (first | trivial | refine ⟨by first | rfl | simp [setL],?_⟩)) (A0s (by rfl)) (by rfl) (by rfl) (by rfl) ?_
   obtain ⟨v20,hv20,h⟩:=bindE h
   refine X.append elt59 zer25 (by rfl) (by rfl) (by first | rfl | simp [setL] | omega) (by rfl) (.own _ _ _ _ _ _ (A0g (by rfl)) (by first | rfl | simp [setL] | omega)) (A0s (by rfl)) (E0p l_int hv20) (E0o l_int hv20) (by rfl) (by rfl) (by rfl) (by rfl) ?_
   refine X.fl J0a ?_
   refine X.sl shp25 ?_
   refine X.fl L0z ?_
   refine X.sl shp25 ?_
   refine X.fl J0o ?_
   refine X.sl shp59 ?_
   refine X.nil (Run.blk (Run.reg (X.ad ?_)))
   refine X.mn ?_
   exact R.ag hag9 (n9 - 1) (z10+1,v17,v18,v20) (R.n3 (by first | (rw [hds9];exact h) | (dsimp only;rw [hds9];exact h)))
  rw [A0h hza9 hc16] at h
  rw [E0e] at h
  refine Run.exit (by rfl) ?_
  exact R.mt hmeet5 (a11,a12,a13) (Option.some.inj h)
 rintro p21 rfl
 refine Run.sr (X.ld J0y ?_)
 refine X.sl J0y ?_
 refine X.nil ?_
 cases h
 refine R.finC Tryz.results108 J0y (by rfl) (by rfl) (by rfl) (by rfl) (by repeat (first | trivial | refine ⟨by first | rfl | simp [setL],?_⟩)) ?_
 rfl
theorem A1m (b0:Int)(r:Bool)(h:S0p b0=some r):PC Tryz.prog 180 [int b0] (bool r):=by
 unfold S0p at h
 refine PC.start Tryz.func180 Tryz.ntmps180 rfl ok180 rfl ?_
 refine Run.sr (X.an ?_)
 refine Run.sr (X.mv ?_)
 obtain ⟨v1,hv1,h⟩:=bindE h
 refine X.cp (C0p _ _ _ _ hv1) ?_
 refine X.an ?_
 cases h
 refine R.f1 Tryz.results180 ?_
 rfl
theorem N1d (b0:List Int)(r:Bool)(h:D1q b0=some r):PC Tryz.prog 181 [.slice (b0.map int)] (bool r):=by
 unfold D1q at h
 refine PC.start Tryz.func181 Tryz.ntmps181 rfl ok181 rfl ?_
 refine Run.sr (X.an ?_)
 refine Run.seq (Run.sr (X.an ?_))
 obtain ⟨o1,ho1,h⟩:=bindE h
 refine R.join2 (β:=Unit) [] [] (fun p13 S=>S) (fun p13 M=>M) (fun p13=>(Sum.inl p13)=o1) ?_ ?_
 ·intro JJ4 hmeet3
  have hup2:=h;clear h;have h:=ho1;clear ho1
  refine Run.block ?_
  refine R.lp (β:=Int) [(0,.slice (b0.map int))] [] (fun bb S=>(3,int bb)::S) (fun bb M=>M) (fun n bb=>M0q b0 n bb=some o1) F0 1 h ?_
  clear h
  rintro JJ4 n4 a6 hag4 h
  obtain _ | n4:=n4
  ·exact absurd h (by simp [M0q])
  rw [M0q] at h
  refine Run.seq (Run.sr (X.mv ?_))
  refine X.mv ?_
  refine X.ls elt25 ?_
  refine X.bi ?_
  refine X.nil ?_
  refine R.cd (fun hc9=>?_) (fun hc9=>?_)
  ·replace h:=condT hc9 h
   refine Run.skip (Run.seq (Run.block (Run.seq (Run.draw (B0s []) mixed (by kernel_rfl) (by kernel_rfl) ?_))))
   refine X.mv ?_
   refine X.mv ?_
   obtain ⟨v10,hv10,h⟩:=bindE h
   refine X.ix elt25 (A0a hv10).1 (A0c int hv10) ?_
   refine X.lc shp3 ?_
   refine X.mv ?_
   refine X.mv ?_
   refine X.subW (h:=?_)
   obtain ⟨v11,hv11,h⟩:=bindE h
   refine X.ix elt25 (A0a hv11).1 (A0c int hv11) ?_
   refine X.lc shp3 ?_
   refine X.bi ?_
   refine X.nil ?_
   refine R.cd (fun hc12=>?_) (fun hc12=>?_)
   ·replace h:=condT hc12 h
    refine Run.sr (X.an ?_)
    cases h
    have h:=hup2
    replace h:=elimR h
    cases h
    refine R.f1 Tryz.results181 ?_
    rfl
   replace h:=condF hc12 h
   refine Run.skip (Run.blk (Run.reg (X.mv ?_)))
   refine X.addW (h:=?_)
   refine X.an ?_
   exact hag4 n4 (W (a6+1)) _ _ (by omega) h (by trivial) (by trivial) (by rfl) (by rfl)
  replace h:=condF hc9 h
  refine Run.exit (by rfl) ?_
  exact R.mt hmeet3 () (Option.some.inj h)
 rintro p13 rfl
 replace h:=elimL h
 refine Run.sr (X.an ?_)
 cases h
 refine R.f1 Tryz.results181 ?_
 rfl
theorem E1f (b0:List Int)(b1:List Int)(r:Bool)(h:R0d b0 b1=some r):PC Tryz.prog 182 [.slice (b0.map int),.slice (b1.map int)] (bool r):=by
 unfold R0d at h
 refine PC.start Tryz.func182 Tryz.ntmps182 rfl ok182 rfl ?_
 refine Run.sr (X.an ?_)
 refine Run.seq (Run.sr (X.mv ?_))
 refine X.ls elt25 ?_
 refine X.mn ?_
 obtain ⟨o1,ho1,h⟩:=bindE h
 refine R.join2 (β:=Unit) [] [] (fun p14 S=>S) (fun p14 M=>M) (fun p14=>(Sum.inl p14)=o1) ?_ ?_
 ·intro JJ4 hmeet3
  have hup2:=h;clear h;have h:=ho1;clear ho1
  refine Run.block ?_
  refine R.bndS (t:=0) (by rfl) (fun hbd7=>?_)
  replace hbd7:b0.length≤9223372036854775807:=by first | (rw [List.length_map] at hbd7;exact hbd7) | simp
  refine R.lp (β:=Int) [(1,.slice (b1.map int)),(7,.slice (b0.map int)),(8,int (b0.length:Int))] [] (fun bb S=>(9,int bb)::S) (fun bb M=>M) (fun n bb=>0≤bb∧bb+n=(b0.length:Int)∧H0m b1 (b0.drop bb.toNat) bb=some o1) b0.length (0:Int) ⟨Int.le_refl _,by simp,h⟩ ?_
  clear h
  rintro JJ7 n7 z8 hag7 ⟨hza7,hzb7,h⟩
  refine Run.sr (X.bi ?_)
  refine X.nil (Run.seq ?_)
  refine R.cd (fun hc11=>?_) (fun hc11=>?_)
  ·obtain ⟨x9,xs10,hd7,hx7,hds7,hlt7⟩:=A0k hza7 hc11
   rw [hd7] at h
   rw [H0m] at h
   refine Run.skip (Run.seq (Run.block (Run.sr (X.ix elt25 (A0a hx7).1 (A0c int hx7) ?_))))
   refine X.lc shp3 ?_
   refine X.an ?_
   refine Run.sr (X.mv ?_)
   refine X.mv ?_
   obtain ⟨v12,hv12,h⟩:=bindE h
   refine X.cp (E1b _ _ _ hv12) ?_
   refine X.un (h:=?_)
   refine X.nil ?_
   refine R.cd (fun hc13=>?_) (fun hc13=>?_)
   ·replace h:=condT hc13 h
    refine Run.sr (X.an ?_)
    cases h
    have h:=hup2
    replace h:=elimR h
    cases h
    refine R.f1 Tryz.results182 ?_
    rfl
   replace h:=condF hc13 h
   refine Run.skip (Run.blk (Run.reg (X.ad ?_)))
   refine X.mn ?_
   exact R.ag hag7 (n7 - 1) (z8+1) (R.n3 (by first | (rw [hds7];exact h) | (dsimp only;rw [hds7];exact h)))
  rw [A0h hza7 hc11] at h
  rw [H0m] at h
  refine Run.exit (by rfl) ?_
  exact R.mt hmeet3 () (Option.some.inj h)
 rintro p14 rfl
 replace h:=elimL h
 refine Run.sr (X.an ?_)
 cases h
 refine R.f1 Tryz.results182 ?_
 rfl
theorem B1x (b0:A0b)(b1:A0q)(r:Bool)(h:P0f b0 b1=some r):PC Tryz.prog 177 [A0n b0,H0g b1] (bool r):=by
 unfold P0f at h
 refine PC.start Tryz.func177 Tryz.ntmps177 rfl ok177 rfl ?_
 refine Run.sr (X.bx ?_)
 refine X.bx ?_
 refine X.an ?_
 refine Run.sr (X.fl B0l ?_)
 refine X.ld shp30 ?_
 refine X.ls elt30 ?_
 refine X.an ?_
 refine Run.seq (Run.seq ?_)
 obtain ⟨v1,hv1,h⟩:=bindE h
 obtain ⟨e2,he2,h2⟩:=bindE h
 refine R.regG [(2,.lptr 128 0),(3,.lptr 192 0),(34,bool e2)] [(128,.blk true [int b0.Deadline,.slice (b0.Activities.map A0d),.slice (b0.Links.map A0l),.slice (b0.Resources.map A0e),.slice (b0.Stocks.map int)]),(192,.blk true [.slice (b1.MinStart.map int),.slice (b1.MaxStart.map int),.slice (b1.Modes.map l_int)])] ?_ ?_
 ·clear h;have h:=he2;clear he2 h2
  refine X.ld shp34 ?_
  refine X.cp (G0i _ _ hv1) ?_
  refine X.un (h:=?_)
  refine X.mv ?_
  refine X.iG (fun hb3=>?_) (fun hb3=>?_)
  ·replace h:=condF hb3 h
   refine X.fl J0a ?_
   refine X.gy (X.ld shp25 ?_)
   refine X.gy (X.ls elt25 ?_)
   refine X.gy (X.mv ?_)
   refine X.gy (X.bi ?_)
   refine X.pF ?_
   refine X.mv ?_
   refine X.iG (fun hb4=>?_) (fun hb4=>?_)
   ·replace h:=condF hb4 h
    refine X.fl L0z ?_
    refine X.gy (X.ld shp25 ?_)
    refine X.gy (X.ls elt25 ?_)
    refine X.gy (X.mv ?_)
    refine X.gy (X.bi ?_)
    refine X.pF ?_
    refine X.mv ?_
    refine X.iG (fun hb5=>?_) (fun hb5=>?_)
    ·replace h:=condF hb5 h
     refine X.fl J0o ?_
     refine X.gy (X.ld shp59 ?_)
     refine X.gy (X.ls elt59 ?_)
     refine X.gy (X.mv ?_)
     refine X.gy (X.bi ?_)
     refine X.pF ?_
     cases h
     exact X.eG
    replace h:=condT hb5 h
    refine X.gn (X.gn (X.gn (X.gn (X.pT ?_))))
    cases h
    exact X.eG
   replace h:=condT hb4 h
   refine X.gn (X.gn (X.gn (X.gn (X.pT ?_))))
   refine X.mv ?_
   refine X.gn (X.gn (X.gn (X.gn (X.gn (X.pT ?_)))))
   cases h
   exact X.eG
  replace h:=condT hb3 h
  refine X.gn (X.gn (X.gn (X.gn (X.pT ?_))))
  refine X.mv ?_
  refine X.gn (X.gn (X.gn (X.gn (X.gn (X.pT ?_)))))
  refine X.mv ?_
  refine X.gn (X.gn (X.gn (X.gn (X.gn (X.pT ?_)))))
  cases h
  exact X.eG
 replace h:=h2;clear h2
 refine R.cd (fun hc6=>?_) (fun hc6=>?_)
 ·replace h:=condT hc6 h
  refine Run.sr (X.an ?_)
  cases h
  refine R.f1 Tryz.results177 ?_
  rfl
 replace h:=condF hc6 h
 refine Run.skip (Run.seq (Run.sr (X.fl J0o ?_)))
 refine X.ld shp59 ?_
 refine X.ls elt59 ?_
 refine X.mn ?_
 obtain ⟨o7,ho7,h⟩:=bindE h
 refine R.join2 (β:=Unit) [] [] (fun p31 S=>S) (fun p31 M=>M) (fun p31=>(Sum.inl p31)=o7) ?_ ?_
 ·intro JJ10 hmeet9
  have hup8:=h;clear h;have h:=ho7;clear ho7
  refine Run.block ?_
  refine R.bndS (t:=36) (by rfl) (fun hbd13=>?_)
  replace hbd13:b1.Modes.length≤9223372036854775807:=by first | (rw [List.length_map] at hbd13;exact hbd13) | simp
  refine R.lp (β:=Int) [(2,.lptr 128 0),(3,.lptr 192 0),(36,.slice (b1.Modes.map l_int)),(37,int (b1.Modes.length:Int))] [(128,.blk true [int b0.Deadline,.slice (b0.Activities.map A0d),.slice (b0.Links.map A0l),.slice (b0.Resources.map A0e),.slice (b0.Stocks.map int)]),(192,.blk true [.slice (b1.MinStart.map int),.slice (b1.MaxStart.map int),.slice (b1.Modes.map l_int)])] (fun bb S=>(38,int bb)::S) (fun bb M=>M) (fun n bb=>0≤bb∧bb+n=(b1.Modes.length:Int)∧G0q b0 b1 (b1.Modes.drop bb.toNat) bb=some o7) b1.Modes.length (0:Int) ⟨Int.le_refl _,by simp,h⟩ ?_
  clear h
  rintro JJ13 n13 z14 hag13 ⟨hza13,hzb13,h⟩
  refine Run.sr (X.bi ?_)
  refine X.nil (Run.seq ?_)
  refine R.cd (fun hc17=>?_) (fun hc17=>?_)
  ·obtain ⟨x15,xs16,hd13,hx13,hds13,hlt13⟩:=A0k hza13 hc17
   rw [hd13] at h
   rw [G0q] at h
   refine Run.skip (Run.seq (Run.block (Run.sr (X.mv ?_))))
   refine X.ix elt59 (A0a hx13).1 (A0c l_int hx13) ?_
   refine X.lc shp25 ?_
   refine X.as ?_
   refine X.an ?_
   refine Run.seq ?_
   obtain ⟨v18,hv18,h⟩:=bindE h
   obtain ⟨v19,hv19,h⟩:=bindE h
   obtain ⟨e20,he20,h2⟩:=bindE h
   refine R.regG [(2,.lptr 128 0),(3,.lptr 192 0),(36,.slice (b1.Modes.map l_int)),(37,int (b1.Modes.length:Int)),(38,int z14),(74,bool e20)] [(128,.blk true [int b0.Deadline,.slice (b0.Activities.map A0d),.slice (b0.Links.map A0l),.slice (b0.Resources.map A0e),.slice (b0.Stocks.map int)]),(192,.blk true [.slice (b1.MinStart.map int),.slice (b1.MaxStart.map int),.slice (b1.Modes.map l_int)])] ?_ ?_
   ·clear h;have h:=he20;clear he20 h2
    refine X.fl J0a ?_
    refine X.ld shp25 ?_
    refine X.mv ?_
    refine X.ix elt25 (A0a hv18).1 (A0c int hv18) ?_
    refine X.lc shp3 ?_
    refine X.cp (A1m _ _ hv19) ?_
    refine X.un (h:=?_)
    refine X.mv ?_
    refine X.iG (fun hb21=>?_) (fun hb21=>?_)
    ·replace h:=condF hb21 h
     refine X.fl L0z ?_
     refine X.gy (X.ld shp25 ?_)
     refine X.gy (X.mv ?_)
     refine X.gy ?_
     obtain ⟨v22,hv22,h⟩:=bindE h
     refine X.ix elt25 (A0a hv22).1 (A0c int hv22) ?_
     refine X.gy (X.lc shp3 ?_)
     refine X.gy ?_
     obtain ⟨v23,hv23,h⟩:=bindE h
     refine X.cp (A1m _ _ hv23) ?_
     refine X.gy (X.un (h:=?_))
     refine X.pF ?_
     refine X.mv ?_
     refine X.iG (fun hb24=>?_) (fun hb24=>?_)
     ·replace h:=condF hb24 h
      refine X.mv ?_
      refine X.gy ?_
      obtain ⟨v25,hv25,h⟩:=bindE h
      refine X.cp (N1d _ _ hv25) ?_
      refine X.gy (X.un (h:=?_))
      refine X.pF ?_
      refine X.mv ?_
      refine X.iG (fun hb26=>?_) (fun hb26=>?_)
      ·replace h:=condF hb26 h
       refine X.mv ?_
       refine X.gy (X.fl B0l ?_)
       refine X.gy (X.ld shp30 ?_)
       refine X.gy (X.mv ?_)
       refine X.gy ?_
       obtain ⟨v27,hv27,h⟩:=bindE h
       refine X.ix elt30 (A0a hv27).1 (A0c A0d hv27) ?_
       refine X.gy (X.lc shp50 ?_)
       refine X.gy ?_
       obtain ⟨v28,hv28,h⟩:=bindE h
       refine X.callF (K0h _ _ hv28) (by rfl) (by rfl) (by rfl) (by trivial) (by rfl) (by rfl) (by rfl) (by rfl) ?_
       refine X.gy ?_
       obtain ⟨v29,hv29,h⟩:=bindE h
       refine X.cp (E1f _ _ _ hv29) ?_
       refine X.gy (X.un (h:=?_))
       refine X.pF ?_
       cases h
       exact X.eG
      replace h:=condT hb26 h
      refine X.gn (X.gn (X.gn (X.gn (X.gn (X.gn (X.gn (X.gn ?_)))))))
      refine X.pT ?_
      cases h
      exact X.eG
     replace h:=condT hb24 h
     refine X.gn (X.gn (X.pT ?_))
     refine X.mv ?_
     refine X.gn (X.gn (X.gn (X.gn (X.gn (X.gn (X.gn (X.gn ?_)))))))
     refine X.gn (X.pT ?_)
     cases h
     exact X.eG
    replace h:=condT hb21 h
    refine X.gn (X.gn (X.gn (X.gn (X.gn (X.gn (X.pT ?_))))))
    refine X.mv ?_
    refine X.gn (X.gn (X.gn (X.pT ?_)))
    refine X.mv ?_
    refine X.gn (X.gn (X.gn (X.gn (X.gn (X.gn (X.gn (X.gn ?_)))))))
    refine X.gn (X.pT ?_)
    cases h
    exact X.eG
   replace h:=h2;clear h2
   refine R.cd (fun hc30=>?_) (fun hc30=>?_)
   ·replace h:=condT hc30 h
    refine Run.sr (X.an ?_)
    cases h
    have h:=hup8
    replace h:=elimR h
    cases h
    refine R.f1 Tryz.results177 ?_
    rfl
   replace h:=condF hc30 h
   refine Run.skip (Run.blk (Run.reg (X.ad ?_)))
   refine X.mn ?_
   exact R.ag hag13 (n13 - 1) (z14+1) (R.n3 (by first | (rw [hds13];exact h) | (dsimp only;rw [hds13];exact h)))
  rw [A0h hza13 hc17] at h
  rw [G0q] at h
  refine Run.exit (by rfl) ?_
  exact R.mt hmeet9 () (Option.some.inj h)
 rintro p31 rfl
 replace h:=elimL h
 refine Run.sr (X.an ?_)
 cases h
 refine R.f1 Tryz.results177 ?_
 rfl
theorem S0i (b0:List (List Int))(g1:(List Int)→Option Bool)(g1id:Nat)(g1c:List PV)(hg1:∀(x0:List Int) v,g1 x0=some v→PC Tryz.prog g1id ([.slice (x0.map int)] ++ g1c) (bool v))(r:Int)(h:F0h b0 g1=some r):PC Tryz.prog 185 [.slice (b0.map l_int),.fn g1id g1c] (int r):=by
 unfold F0h at h
 refine PC.start Tryz.func185 Tryz.ntmps185 rfl ok185 rfl ?_
 refine Run.sr (X.an ?_)
 refine Run.seq (Run.sr (X.mv ?_))
 refine X.ls elt59 ?_
 refine X.mn ?_
 obtain ⟨o1,ho1,h⟩:=bindE h
 refine R.join2 (β:=Unit) [] [] (fun p14 S=>S) (fun p14 M=>M) (fun p14=>(Sum.inl p14)=o1) ?_ ?_
 ·intro JJ4 hmeet3
  have hup2:=h;clear h;have h:=ho1;clear ho1
  refine Run.block ?_
  refine R.bndS (t:=0) (by rfl) (fun hbd7=>?_)
  replace hbd7:b0.length≤9223372036854775807:=by first | (rw [List.length_map] at hbd7;exact hbd7) | simp
  refine R.lp (β:=Int) [(0,.slice (b0.map l_int)),(1,.fn g1id g1c),(7,int (b0.length:Int))] [] (fun bb S=>(8,int bb)::S) (fun bb M=>M) (fun n bb=>0≤bb∧bb+n=(b0.length:Int)∧B0d g1 (b0.drop bb.toNat) bb=some o1) b0.length (0:Int) ⟨Int.le_refl _,by simp,h⟩ ?_
  clear h
  rintro JJ7 n7 z8 hag7 ⟨hza7,hzb7,h⟩
  refine Run.sr (X.bi ?_)
  refine X.nil (Run.seq ?_)
  refine R.cd (fun hc11=>?_) (fun hc11=>?_)
  ·obtain ⟨x9,xs10,hd7,hx7,hds7,hlt7⟩:=A0k hza7 hc11
   rw [hd7] at h
   rw [B0d] at h
   refine Run.skip (Run.seq (Run.block (Run.sr (X.mv ?_))))
   refine X.an ?_
   refine Run.sr (X.mv ?_)
   refine X.mv ?_
   refine X.mv ?_
   refine X.ix elt59 (A0a hx7).1 (A0c l_int hx7) ?_
   refine X.lc shp25 ?_
   obtain ⟨v12,hv12,h⟩:=bindE h
   refine X.cp (hg1 _ _ hv12) ?_
   refine X.nil ?_
   refine R.cd (fun hc13=>?_) (fun hc13=>?_)
   ·replace h:=condT hc13 h
    refine Run.sr (X.mv ?_)
    refine X.an ?_
    cases h
    have h:=hup2
    replace h:=elimR h
    cases h
    refine R.f1 Tryz.results185 ?_
    rfl
   replace h:=condF hc13 h
   refine Run.skip (Run.blk (Run.reg (X.ad ?_)))
   refine X.mn ?_
   exact R.ag hag7 (n7 - 1) (z8+1) (R.n3 (by first | (rw [hds7];exact h) | (dsimp only;rw [hds7];exact h)))
  rw [A0h hza7 hc11] at h
  rw [B0d] at h
  refine Run.exit (by rfl) ?_
  exact R.mt hmeet3 () (Option.some.inj h)
 rintro p14 rfl
 replace h:=elimL h
 refine Run.sr (X.an ?_)
 cases h
 refine R.f1 Tryz.results185 ?_
 rfl
theorem Q0s (b0:List (List Int))(g1:(List Int)→Option Bool)(g1id:Nat)(g1c:List PV)(hg1:∀(x0:List Int) v,g1 x0=some v→PC Tryz.prog g1id ([.slice (x0.map int)] ++ g1c) (bool v))(r:Bool)(h:D0s b0 g1=some r):PC Tryz.prog 183 [.slice (b0.map l_int),.fn g1id g1c] (bool r):=by
 unfold D0s at h
 refine PC.start Tryz.func183 Tryz.ntmps183 rfl ok183 rfl ?_
 refine Run.sr (X.an ?_)
 refine Run.sr (X.mv ?_)
 refine X.mv ?_
 obtain ⟨v1,hv1,h⟩:=bindE h
 refine X.cp (S0i _ g1 _ _ hg1 _ hv1) ?_
 refine X.bi ?_
 refine X.an ?_
 cases h
 refine R.f1 Tryz.results183 ?_
 rfl
theorem W0h (b0:List Int)(r:Bool)(h:E0j b0=some r):PC Tryz.prog 184 [.slice (b0.map int)] (bool r):=by
 unfold E0j at h
 refine PC.start Tryz.func184 Tryz.ntmps184 rfl ok184 rfl ?_
 refine Run.sr (X.an ?_)
 refine Run.sr (X.mv ?_)
 refine X.ls elt25 ?_
 refine X.bi ?_
 refine X.an ?_
 cases h
 refine R.f1 Tryz.results184 ?_
 rfl
theorem A1r (b0:A0q)(r:Bool)(h:M0v b0=some r):PC Tryz.prog 178 [H0g b0] (bool r):=by
 unfold M0v at h
 refine PC.start Tryz.func178 Tryz.ntmps178 rfl ok178 rfl ?_
 refine Run.sr (X.bx ?_)
 refine X.an ?_
 refine Run.seq (Run.sr (X.fl J0a ?_))
 refine X.ld shp25 ?_
 refine X.ls elt25 ?_
 refine X.mn ?_
 obtain ⟨o1,ho1,h⟩:=bindE h
 refine R.join2 (β:=Unit) [(1,.lptr 64 0)] [(64,.blk true [.slice (b0.MinStart.map int),.slice (b0.MaxStart.map int),.slice (b0.Modes.map l_int)])] (fun p16 S=>S) (fun p16 M=>M) (fun p16=>(Sum.inl p16)=o1) ?_ ?_
 ·intro JJ4 hmeet3
  have hup2:=h;clear h;have h:=ho1;clear ho1
  refine Run.block ?_
  refine R.bndS (t:=6) (by rfl) (fun hbd7=>?_)
  replace hbd7:b0.MinStart.length≤9223372036854775807:=by first | (rw [List.length_map] at hbd7;exact hbd7) | simp
  refine R.lp (β:=Int) [(1,.lptr 64 0),(6,.slice (b0.MinStart.map int)),(7,int (b0.MinStart.length:Int))] [(64,.blk true [.slice (b0.MinStart.map int),.slice (b0.MaxStart.map int),.slice (b0.Modes.map l_int)])] (fun bb S=>(8,int bb)::S) (fun bb M=>M) (fun n bb=>0≤bb∧bb+n=(b0.MinStart.length:Int)∧F0v b0 (b0.MinStart.drop bb.toNat) bb=some o1) b0.MinStart.length (0:Int) ⟨Int.le_refl _,by simp,h⟩ ?_
  clear h
  rintro JJ7 n7 z8 hag7 ⟨hza7,hzb7,h⟩
  refine Run.sr (X.bi ?_)
  refine X.nil (Run.seq ?_)
  refine R.cd (fun hc11=>?_) (fun hc11=>?_)
  ·obtain ⟨x9,xs10,hd7,hx7,hds7,hlt7⟩:=A0k hza7 hc11
   rw [hd7] at h
   rw [F0v] at h
   refine Run.skip (Run.seq (Run.block (Run.sr (X.mv ?_))))
   refine X.ix elt25 (A0a hx7).1 (A0c int hx7) ?_
   refine X.lc shp3 ?_
   refine X.as ?_
   refine X.an ?_
   refine Run.seq ?_
   obtain ⟨e12,he12,h2⟩:=bindE h
   refine R.regG [(1,.lptr 64 0),(6,.slice (b0.MinStart.map int)),(7,int (b0.MinStart.length:Int)),(8,int z8),(26,bool e12)] [(64,.blk true [.slice (b0.MinStart.map int),.slice (b0.MaxStart.map int),.slice (b0.Modes.map l_int)])] ?_ ?_
   ·clear h;have h:=he12;clear he12 h2
    refine X.mv ?_
    refine X.fl L0z ?_
    refine X.ld shp25 ?_
    refine X.ls elt25 ?_
    refine X.bi ?_
    refine X.mv ?_
    refine X.iG (fun hb13=>?_) (fun hb13=>?_)
    ·replace h:=condT hb13 h
     refine X.mv ?_
     refine X.gy (X.fl L0z ?_)
     refine X.gy (X.ld shp25 ?_)
     refine X.gy (X.mv ?_)
     refine X.gy ?_
     obtain ⟨v14,hv14,h⟩:=bindE h
     refine X.ix elt25 (A0a hv14).1 (A0c int hv14) ?_
     refine X.gy (X.lc shp3 ?_)
     refine X.gy (X.bi ?_)
     refine X.pT ?_
     cases h
     exact X.eG
    replace h:=condF hb13 h
    refine X.gn (X.gn (X.gn (X.gn (X.gn (X.gn (X.pF ?_))))))
    cases h
    exact X.eG
   replace h:=h2;clear h2
   refine R.cd (fun hc15=>?_) (fun hc15=>?_)
   ·replace h:=condT hc15 h
    refine Run.sr (X.an ?_)
    cases h
    have h:=hup2
    replace h:=elimR h
    cases h
    refine R.f1 Tryz.results178 ?_
    rfl
   replace h:=condF hc15 h
   refine Run.skip (Run.blk (Run.reg (X.ad ?_)))
   refine X.mn ?_
   exact R.ag hag7 (n7 - 1) (z8+1) (R.n3 (by first | (rw [hds7];exact h) | (dsimp only;rw [hds7];exact h)))
  rw [A0h hza7 hc11] at h
  rw [F0v] at h
  refine Run.exit (by rfl) ?_
  exact R.mt hmeet3 () (Option.some.inj h)
 rintro p16 rfl
 replace h:=elimL h
 refine Run.sr (X.fl J0o ?_)
 refine X.ld shp59 ?_
 obtain ⟨v18,hv18,h⟩:=bindE h
 refine X.cp (Q0s _ (fun x0=>E0j x0) _ _ (fun x0 v hv=>W0h _ _ hv) _ hv18) ?_
 refine X.an ?_
 cases h
 refine R.f1 Tryz.results178 ?_
 rfl
end Go.Px.YtimegoembedagaaGreat
