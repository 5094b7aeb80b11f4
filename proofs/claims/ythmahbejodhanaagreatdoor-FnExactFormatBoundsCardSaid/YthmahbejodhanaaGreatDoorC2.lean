/-
  PROVED: contracts of functions of the program over pure values. No condition beyond those that each theorem names.
-/
import Derived.Test.YthmahbejodhanaaGreatDoorProg
import Derived.Test.YthmahbejodhanaaGreatDoorD2
import Derived.Test.YthmahbejodhanaaGreatDoorS
import Derived.Test.YthmahbejodhanaaGreatDoorC1
namespace Go.Px.YthmahbejodhanaaGreatDoor
set_option linter.unusedSimpArgs false
set_option linter.unusedVariables false
open Go.Px Go.Proofs
theorem F1f (b0:A0b)(b1:Int)(r:Bool)(h:G0e b0 b1=some r):PC Tryz.prog 123 [A0n b0,int b1] (bool r):=by
 unfold G0e at h
 refine PC.start Tryz.func123 Tryz.ntmps123 rfl ok123 rfl ?_
 refine Run.sr (X.bx ?_)
 refine X.an ?_
 refine Run.seq ?_
 obtain ⟨v1,hv1,h⟩:=bindE h
 obtain ⟨e2,he2,h2⟩:=bindE h
 refine R.regG [(4,bool e2)] [] ?_ ?_
 ·clear h;have h:=he2;clear he2 h2
  refine X.mv ?_
  refine X.fl H0o ?_
  refine X.ld shp32 ?_
  refine X.ls elt32 ?_
  refine X.subW (h:=?_)
  refine X.cp (B0u _ _ _ _ hv1) ?_
  refine X.mv ?_
  refine X.iG (fun hb3=>?_) (fun hb3=>?_)
  ·replace h:=condT hb3 h
   refine X.fl H0o ?_
   refine X.gy (X.ld shp32 ?_)
   refine X.gy (X.mv ?_)
   refine X.gy ?_
   obtain ⟨v4,hv4,h⟩:=bindE h
   refine X.ix elt32 (A0a hv4).1 (A0c A0e hv4) ?_
   refine X.gy (X.fieldAddr_c N0z (by rfl) (by rfl) ?_)
   refine X.gy (X.lc shp61 ?_)
   refine X.gy (X.ls elt61 ?_)
   refine X.gy (X.bi ?_)
   refine X.pT ?_
   refine X.as ?_
   cases h
   exact X.eG
  replace h:=condF hb3 h
  refine X.gn (X.gn (X.gn (X.gn (X.gn (X.gn (X.gn (X.pF ?_)))))))
  refine X.as ?_
  cases h
  exact X.eG
 replace h:=h2;clear h2
 cases h
 refine R.f1 Tryz.results123 ?_
 rfl
theorem H1b (b0:A0f)(b1:List Int)(b2:Int)(r:Int)(h:R0b b0 b1 b2=some r):PC Tryz.prog 150 [A0d b0,.slice (b1.map int),int b2] (int r):=by
 unfold R0b at h
 refine PC.start Tryz.func150 Tryz.ntmps150 rfl ok150 rfl ?_
 refine Run.sr (X.bx ?_)
 refine X.an ?_
 refine Run.sr (X.ld shp67 ?_)
 refine X.mv ?_
 refine X.mv ?_
 obtain ⟨v1,hv1,h⟩:=bindE h
 refine X.cp (Y0t _ _ _ _ _ _ hv1) ?_
 refine X.an ?_
 cases h
 refine R.f1 Tryz.results150 ?_
 rfl
theorem J1y (b0:A0b)(b1:A0r)(b2:Int)(b3:Int)(r:Int)(h:E0j b0 b1 b2 b3=some r):PC Tryz.prog 124 [A0n b0,H0m b1,int b2,int b3] (int r):=by
 unfold E0j at h
 refine PC.start Tryz.func124 Tryz.ntmps124 rfl ok124 rfl ?_
 refine Run.sr (X.bx ?_)
 refine X.bx ?_
 refine X.an ?_
 refine Run.seq (Run.draw (B0m [(1,([256],[],[],[])),(6,([320],[],[],[]))]) mixed (by kernel_rfl) (by kernel_rfl) ?_)
 refine X.fl B0l ?_
 refine X.ld shp30 ?_
 refine X.mv ?_
 obtain ⟨v1,hv1,h⟩:=bindE h
 refine X.ix elt30 (A0a hv1).1 (A0c A0d hv1) ?_
 refine X.lc shp67 ?_
 refine X.fl M0o ?_
 refine X.ld shp61 ?_
 refine X.mv ?_
 obtain ⟨v2,hv2,h⟩:=bindE h
 refine X.ix elt61 (A0a hv2).1 (A0c l_int hv2) ?_
 refine X.lc shp25 ?_
 refine X.mv ?_
 obtain ⟨v3,hv3,h⟩:=bindE h
 refine X.cp (H1b _ _ _ _ hv3) ?_
 refine X.an ?_
 cases h
 refine R.f1 Tryz.results124 ?_
 rfl
theorem Z0z (b0:A0b)(b1:A0r)(b2:Int)(r:List Int)(h:L0w b0 b1 b2=some r):PC Tryz.prog 84 [A0n b0,H0m b1,int b2] (.slice (r.map int)):=by
 unfold L0w at h
 refine PC.start Tryz.func84 Tryz.ntmps84 rfl ok84 rfl ?_
 refine Run.sr (X.bx ?_)
 refine X.bx ?_
 refine X.an ?_
 refine Run.sr ?_
 refine X.buildSlice false elt25 zer3 (by rfl) (by rfl) (by rfl) (by rfl) (by rfl) (by rfl) (by repeat (first | trivial | refine ⟨by first | rfl | simp [setL],?_⟩)) (A0o (by rfl)) (by rfl) (by rfl) (by rfl) ?_
 refine X.an ?_
 refine Run.seq (Run.seq ?_)
 obtain ⟨v1,hv1,h⟩:=bindE h
 obtain ⟨e2,he2,h2⟩:=bindE h
 refine R.regG [(2,int b2),(3,.lptr 192 0),(4,.lptr 256 0),(7,.own 704 (([]:List Int).map int).length),(21,bool e2)] [(192,.blk true [int b0.Deadline,.slice (b0.Activities.map A0d),.slice (b0.Links.map A0l),.slice (b0.Resources.map A0e),.slice (b0.Stocks.map int)]),(256,.blk true [.slice (b1.MinStart.map int),.slice (b1.MaxStart.map int),.slice (b1.Modes.map l_int)]),(704,.obj false 3 1 (([]:List Int).map int))] ?_ ?_
 ·clear h;have h:=he2;clear he2 h2
  refine X.ld shp34 ?_
  refine X.ld shp85 ?_
  refine X.cp (N1v _ _ _ hv1) ?_
  refine X.un (h:=?_)
  refine X.mv ?_
  refine X.iG (fun hb3=>?_) (fun hb3=>?_)
  ·replace h:=condF hb3 h
   refine X.ld shp34 ?_
   refine X.gy (X.mv ?_)
   refine X.gy ?_
   obtain ⟨v4,hv4,h⟩:=bindE h
   refine X.cp (F1f _ _ _ hv4) ?_
   refine X.gy (X.un (h:=?_))
   refine X.pF ?_
   cases h
   exact X.eG
  replace h:=condT hb3 h
  refine X.gn (X.gn (X.gn (X.pT ?_)))
  cases h
  exact X.eG
 replace h:=h2;clear h2
 refine R.cd (fun hc5=>?_) (fun hc5=>?_)
 ·replace h:=condT hc5 h
  refine Run.sr (X.an ?_)
  cases h
  refine R.castS (t:=6) (.slice []) (by rfl) (.inr (.inl ⟨rfl,rfl⟩)) ?_
  refine R.f1 Tryz.results84 ?_
  rfl
 replace h:=condF hc5 h
 refine Run.skip (Run.seq (Run.sr (X.fl B0l ?_)))
 refine X.ld shp30 ?_
 refine X.ls elt30 ?_
 refine X.mn ?_
 obtain ⟨o6,ho6,h⟩:=bindE h
 refine R.join2 (β:=(List Int)) [] [] (fun p40 S=>(7,.slice (p40.map int))::S) (fun p40 M=>M) (fun p40=>p40=o6) ?_ ?_
 ·intro JJ9 hmeet8
  have hup7:=h;clear h;have h:=ho6;clear ho6
  refine Run.block (R.castS (t:=7) _ (by rfl) (.inr (.inr ⟨_,_,_,_,_,rfl,(by rfl),(by first | rfl | simp [setL] | omega),rfl⟩)) ?_)
  refine R.bndS (t:=23) (by rfl) (fun hbd12=>?_)
  replace hbd12:b0.Activities.length≤9223372036854775807:=by first | (rw [List.length_map] at hbd12;exact hbd12) | simp
  refine R.lp (β:=Int×(List Int)) [(2,int b2),(3,.lptr 192 0),(4,.lptr 256 0),(24,int (b0.Activities.length:Int))] [(192,.blk true [int b0.Deadline,.slice (b0.Activities.map A0d),.slice (b0.Links.map A0l),.slice (b0.Resources.map A0e),.slice (b0.Stocks.map int)]),(256,.blk true [.slice (b1.MinStart.map int),.slice (b1.MaxStart.map int),.slice (b1.Modes.map l_int)])] (fun bb S=>(7,.slice (bb.2.map int))::(25,int bb.1)::S) (fun bb M=>M) (fun n bb=>0≤bb.1∧bb.1+n=(b0.Activities.length:Int)∧D0r b0 b1 b2 (b0.Activities.drop bb.1.toNat) bb.1 bb.2=some o6) b0.Activities.length (0,([]:List Int)) ⟨Int.le_refl _,by simp,h⟩ ?_
  clear h
  rintro JJ12 n12 ⟨z13,a14⟩ hag12 ⟨hza12,hzb12,h⟩
  dsimp only at hza12 hzb12 h
  refine Run.sr (X.bi ?_)
  refine X.nil (Run.seq ?_)
  refine R.cd (fun hc17=>?_) (fun hc17=>?_)
  ·obtain ⟨x15,xs16,hd12,hx12,hds12,hlt12⟩:=A0k hza12 hc17
   rw [hd12] at h
   rw [D0r] at h
   refine Run.skip (Run.seq (Run.block (Run.sr (X.mv ?_))))
   refine X.an ?_
   refine Run.seq (Run.sr (X.ld shp34 ?_))
   refine X.ld shp85 ?_
   refine X.mv ?_
   refine X.mv ?_
   obtain ⟨v18,hv18,h⟩:=bindE h
   refine X.cp (J1y _ _ _ _ _ hv18) ?_
   refine X.bi ?_
   refine X.nil ?_
   refine R.cd (fun hc19=>?_) (fun hc19=>?_)
   ·replace h:=condT hc19 h
    refine Run.exit (by rfl) ?_
    refine Run.reg (X.ad ?_)
    refine X.mn ?_
    exact R.ag hag12 (n12 - 1) (z13+1,a14) (R.n3 (by first | (rw [hds12];exact h) | (dsimp only;rw [hds12];exact h)))
   replace h:=condF hc19 h
   refine Run.skip (Run.sr (X.mv ?_))
   refine X.ls elt25 ?_
   refine X.an ?_
   refine Run.seq ?_
   obtain ⟨o20,ho20,h⟩:=bindE h
   refine R.join2 (β:=Int) [(2,int b2),(3,.lptr 192 0),(4,.lptr 256 0),(7,.slice (a14.map int)),(8,int z13),(24,int (b0.Activities.length:Int)),(25,int z13)] [(192,.blk true [int b0.Deadline,.slice (b0.Activities.map A0d),.slice (b0.Links.map A0l),.slice (b0.Resources.map A0e),.slice (b0.Stocks.map int)]),(256,.blk true [.slice (b1.MinStart.map int),.slice (b1.MaxStart.map int),.slice (b1.Modes.map l_int)])] (fun p34 S=>(9,int p34)::S) (fun p34 M=>M) (fun p34=>p34=o20) ?_ ?_
   ·intro JJ23 hmeet22
    have hup21:=h;clear h;have h:=ho20;clear ho20
    refine Run.block ?_
    refine R.lp (β:=Int) [(2,int b2),(3,.lptr 192 0),(4,.lptr 256 0),(7,.slice (a14.map int)),(8,int z13),(24,int (b0.Activities.length:Int)),(25,int z13)] [(192,.blk true [int b0.Deadline,.slice (b0.Activities.map A0d),.slice (b0.Links.map A0l),.slice (b0.Resources.map A0e),.slice (b0.Stocks.map int)]),(256,.blk true [.slice (b1.MinStart.map int),.slice (b1.MaxStart.map int),.slice (b1.Modes.map l_int)])] (fun bb S=>(9,int bb)::S) (fun bb M=>M) (fun n bb=>D0o b1 a14 z13 n bb=some o20) F0 (a14.length:Int) h ?_
    clear h
    rintro JJ23 n23 a25 hag23 h
    obtain _ | n23:=n23
    ·exact absurd h (by simp [D0o])
    rw [D0o] at h
    refine Run.seq (Run.seq ?_)
    obtain ⟨e28,he28,h2⟩:=bindE h
    refine R.drawG [(2,int b2),(3,.lptr 192 0),(4,.lptr 256 0),(7,.slice (a14.map int)),(8,int z13),(9,int a25),(24,int (b0.Activities.length:Int)),(25,int z13),(54,bool e28)] [(192,.blk true [int b0.Deadline,.slice (b0.Activities.map A0d),.slice (b0.Links.map A0l),.slice (b0.Resources.map A0e),.slice (b0.Stocks.map int)]),(256,.blk true [.slice (b1.MinStart.map int),.slice (b1.MaxStart.map int),.slice (b1.Modes.map l_int)])] (B0m [(4,([256],[],[],[])),(13,([256],[],[],[]))]) mixed (by kernel_rfl) (by kernel_rfl) ?_ ?_
    ·clear h;have h:=he28;clear he28 h2
     refine X.mv ?_
     refine X.bi ?_
     refine X.mv ?_
     refine X.iG (fun hb29=>?_) (fun hb29=>?_)
     ·replace h:=condT hb29 h
      refine X.fl L0p ?_
      refine X.gy (X.ld shp25 ?_)
      refine X.gy (X.mv ?_)
      refine X.gy (X.mv ?_)
      refine X.gy (X.subW (h:=?_))
      refine X.gy ?_
      obtain ⟨v30,hv30,h⟩:=bindE h
      refine X.ix elt25 (A0a hv30).1 (A0c int hv30) ?_
      refine X.gy (X.lc shp3 ?_)
      refine X.gy ?_
      obtain ⟨v31,hv31,h⟩:=bindE h
      refine X.ix elt25 (A0a hv31).1 (A0c int hv31) ?_
      refine X.gy (X.lc shp3 ?_)
      refine X.gy (X.fl L0p ?_)
      refine X.gy (X.ld shp25 ?_)
      refine X.gy (X.mv ?_)
      refine X.gy ?_
      obtain ⟨v32,hv32,h⟩:=bindE h
      refine X.ix elt25 (A0a hv32).1 (A0c int hv32) ?_
      refine X.gy (X.lc shp3 ?_)
      refine X.gy (X.bi ?_)
      refine X.pT ?_
      cases h
      exact X.eG
     replace h:=condF hb29 h
     refine X.gn (X.gn (X.gn (X.gn (X.gn (X.gn (X.gn (X.gn ?_)))))))
     refine X.gn (X.gn (X.gn (X.gn (X.gn (X.gn (X.pF ?_))))))
     cases h
     exact X.eG
    replace h:=h2;clear h2
    refine R.cd (fun hc33=>?_) (fun hc33=>?_)
    ·replace h:=condT hc33 h
     refine Run.skip (Run.block (Run.reg (X.mv ?_)))
     refine X.subW (h:=?_)
     refine X.an ?_
     refine Run.blk ?_
     exact hag23 n23 (W (a25 - 1)) _ _ (by omega) h (by trivial) (by trivial) (by rfl) (by rfl)
    replace h:=condF hc33 h
    refine Run.exit (by rfl) ?_
    exact R.mt hmeet22 a25 (Option.some.inj h)
   rintro p34 rfl
   refine Run.sr ?_
   refine X.buildSlice false elt25 zer3 (by rfl) (by rfl) (by rfl) (by rfl) (by rfl) (by rfl) (by repeat (first | trivial | refine ⟨by first | rfl | simp [setL],?_⟩)) (A0o (by rfl)) (by rfl) (by rfl) (by rfl) ?_
   refine X.mv ?_
   refine X.mv ?_
   obtain ⟨v35,hv35,h⟩:=bindE h
   refine X.sliceS2 elt25 (by rfl) (by exact A0j (f:=int) (fun _=>rfl)) (by rfl) ⟨_,by rfl⟩ (L1d _ hv35) (H1h _ hv35) (by rfl) ?_
   obtain ⟨v36,hv36,h⟩:=bindE h
   refine X.append elt25 zer3 (by rfl) (by rfl) (by first | rfl | simp [setL] | omega) (by rfl) (.pure _) (by exact A0j (f:=int) (fun _=>rfl)) (E0l int hv36) (E0k int hv36) (by rfl) (by rfl) (by rfl) (by rfl) ?_
   refine X.an ?_
   refine Run.sr (X.mv ?_)
   refine X.mv ?_
   refine X.buildSlice false elt25 zer3 (by rfl) (by rfl) (by rfl) (by rfl) (by rfl) (by rfl) (by repeat (first | trivial | refine ⟨by first | rfl | simp [setL],?_⟩)) (A0o (by rfl)) (by rfl) (by rfl) (by rfl) ?_
   obtain ⟨v37,hv37,h⟩:=bindE h
   refine X.append elt25 zer3 (by rfl) (by rfl) (by first | rfl | simp [setL] | omega) (by rfl) (.own _ _ _ _ _ _ (A0g (by rfl)) (by first | rfl | simp [setL] | omega)) (A0o (by rfl)) (E0l int hv37) (E0k int hv37) (by rfl) (by rfl) (by rfl) (by rfl) ?_
   refine X.an ?_
   refine Run.reg (X.mv ?_)
   refine X.mv ?_
   refine X.mv ?_
   obtain ⟨v38,hv38,h⟩:=bindE h
   refine X.sliceS2 elt25 (by rfl) (by exact A0j (f:=int) (fun _=>rfl)) ⟨_,by rfl⟩ (by first | rfl | simp [Bound]) (L1d _ hv38) (H1h _ hv38) (by rfl) ?_
   obtain ⟨v39,hv39,h⟩:=bindE h
   refine X.append elt25 zer3 (by rfl) (by rfl) (by first | rfl | simp [setL] | omega) (by rfl) (.pure _) (by exact A0j (f:=int) (fun _=>rfl)) (E0l int hv39) (E0k int hv39) (by rfl) (by rfl) (by rfl) (by rfl) ?_
   refine X.an ?_
   refine Run.blk (Run.reg (X.ad ?_))
   refine X.mn ?_
   refine R.castS (t:=7) _ (by rfl) (.inr (.inr ⟨_,_,_,_,_,rfl,(by rfl),(by first | rfl | simp [setL] | omega),rfl⟩)) ?_
   exact R.ag hag12 (n12 - 1) (z13+1,v39) (R.n3 (by first | (rw [hds12];exact h) | (dsimp only;rw [hds12];exact h)))
  rw [A0h hza12 hc17] at h
  rw [D0r] at h
  refine Run.exit (by rfl) ?_
  exact R.mt hmeet8 a14 (Option.some.inj h)
 rintro p40 rfl
 refine Run.sr (X.mv ?_)
 refine X.an ?_
 cases h
 refine R.f1 Tryz.results84 ?_
 rfl
theorem H1j (b0:A0b)(b1:A0r)(b2:Int)(r:Int)(h:N0q b0 b1 b2=some r):PC Tryz.prog 85 [A0n b0,H0m b1,int b2] (int r):=by
 unfold N0q at h
 refine PC.start Tryz.func85 Tryz.ntmps85 rfl ok85 rfl ?_
 refine Run.sr (X.bx ?_)
 refine X.bx ?_
 refine X.an ?_
 refine Run.seq (Run.draw (B0m [(1,([192],[],[],[])),(6,([256],[],[],[]))]) mixed (by kernel_rfl) (by kernel_rfl) ?_)
 refine X.fl B0l ?_
 refine X.ld shp30 ?_
 refine X.mv ?_
 obtain ⟨v1,hv1,h⟩:=bindE h
 refine X.ix elt30 (A0a hv1).1 (A0c A0d hv1) ?_
 refine X.lc shp67 ?_
 refine X.fl M0o ?_
 refine X.ld shp61 ?_
 refine X.mv ?_
 obtain ⟨v2,hv2,h⟩:=bindE h
 refine X.ix elt61 (A0a hv2).1 (A0c l_int hv2) ?_
 refine X.lc shp25 ?_
 obtain ⟨v3,hv3,h⟩:=bindE h
 refine X.cp (Q0b _ _ _ hv3) ?_
 refine X.an ?_
 cases h
 refine R.f1 Tryz.results85 ?_
 rfl
theorem K1w (b0:Int)(b1:Int)(r:Int)(h:X0v b0 b1=some r):PC Tryz.prog 86 [int b0,int b1] (int r):=by
 unfold X0v at h
 refine PC.start Tryz.func86 Tryz.ntmps86 rfl ok86 rfl ?_
 refine Run.sr (X.an ?_)
 refine Run.seq (Run.sr (X.mv ?_))
 refine X.mv ?_
 refine X.bi ?_
 refine X.nil ?_
 refine R.cd (fun hc1=>?_) (fun hc1=>?_)
 ·replace h:=condT hc1 h
  refine Run.sr (X.mv ?_)
  refine X.an ?_
  cases h
  refine R.f1 Tryz.results86 ?_
  rfl
 replace h:=condF hc1 h
 refine Run.skip (Run.sr (X.mv ?_))
 refine X.an ?_
 cases h
 refine R.f1 Tryz.results86 ?_
 rfl
theorem Z0x (b0:A0b)(b1:A0r)(b2:Int)(r:Int)(h:M0b b0 b1 b2=some r):PC Tryz.prog 47 [A0n b0,H0m b1,int b2] (int r):=by
 unfold M0b at h
 refine PC.start Tryz.func47 Tryz.ntmps47 rfl ok47 rfl ?_
 refine Run.sr (X.bx ?_)
 refine X.bx ?_
 refine X.an ?_
 refine Run.sr (X.ld shp34 ?_)
 refine X.ld shp85 ?_
 refine X.mv ?_
 obtain ⟨v1,hv1,h⟩:=bindE h
 refine X.cp (Z0z _ _ _ _ hv1) ?_
 refine X.an ?_
 refine Run.seq (Run.sr (X.mv ?_))
 refine X.ls elt25 ?_
 refine X.bi ?_
 refine X.nil ?_
 refine R.cd (fun hc2=>?_) (fun hc2=>?_)
 ·replace h:=condT hc2 h
  refine Run.sr (X.an ?_)
  cases h
  refine R.f1 Tryz.results47 ?_
  rfl
 replace h:=condF hc2 h
 refine Run.skip (Run.seq (Run.draw (B0m [(1,([256],[],[],[]))]) mixed (by kernel_rfl) (by kernel_rfl) ?_))
 refine X.fl L0p ?_
 refine X.ld shp25 ?_
 refine X.mv ?_
 obtain ⟨v3,hv3,h⟩:=bindE h
 refine X.ix elt25 (A0a hv3).1 (A0c int hv3) ?_
 refine X.lc shp3 ?_
 obtain ⟨v4,hv4,h⟩:=bindE h
 refine X.ix elt25 (A0a hv4).1 (A0c int hv4) ?_
 refine X.lc shp3 ?_
 refine X.an ?_
 refine Run.sr (X.an ?_)
 refine Run.seq (Run.sr (X.mv ?_))
 refine X.ls elt25 ?_
 refine X.mn ?_
 obtain ⟨o5,ho5,h⟩:=bindE h
 refine R.join2 (β:=Int×Int) [] [] (fun p41 S=>(8,int p41.1)::(9,int p41.2)::S) (fun p41 M=>M) (fun p41=>p41=o5) ?_ ?_
 ·intro JJ8 hmeet7
  have hup6:=h;clear h;have h:=ho5;clear ho5
  refine Run.block ?_
  refine R.bndS (t:=7) (by rfl) (fun hbd11=>?_)
  replace hbd11:v1.length≤9223372036854775807:=by first | (rw [List.length_map] at hbd11;exact hbd11) | simp
  refine R.lp (β:=Int×Int×Int) [(2,int b2),(3,.lptr 192 0),(4,.lptr 256 0),(7,.slice (v1.map int)),(29,.slice (v1.map int)),(30,int (v1.length:Int))] [(192,.blk true [int b0.Deadline,.slice (b0.Activities.map A0d),.slice (b0.Links.map A0l),.slice (b0.Resources.map A0e),.slice (b0.Stocks.map int)]),(256,.blk true [.slice (b1.MinStart.map int),.slice (b1.MaxStart.map int),.slice (b1.Modes.map l_int)])] (fun bb S=>(8,int bb.2.1)::(9,int bb.2.2)::(31,int bb.1)::S) (fun bb M=>M) (fun n bb=>0≤bb.1∧bb.1+n=(v1.length:Int)∧D0j b0 b1 b2 v1 (v1.drop bb.1.toNat) bb.1 bb.2.1 bb.2.2=some o5) v1.length (0,v4,0) ⟨Int.le_refl _,by simp,h⟩ ?_
  clear h
  rintro JJ11 n11 ⟨z12,a13,a14⟩ hag11 ⟨hza11,hzb11,h⟩
  dsimp only at hza11 hzb11 h
  refine Run.sr (X.bi ?_)
  refine X.nil (Run.seq ?_)
  refine R.cd (fun hc17=>?_) (fun hc17=>?_)
  ·obtain ⟨x15,xs16,hd11,hx11,hds11,hlt11⟩:=A0k hza11 hc17
   rw [hd11] at h
   rw [D0j] at h
   refine Run.skip (Run.seq (Run.block (Run.sr (X.ix elt25 (A0a hx11).1 (A0c int hx11) ?_))))
   refine X.lc shp3 ?_
   refine X.an ?_
   refine Run.sr (X.mv ?_)
   refine X.ld shp34 ?_
   refine X.ld shp85 ?_
   refine X.mv ?_
   obtain ⟨v18,hv18,h⟩:=bindE h
   refine X.cp (H1j _ _ _ _ hv18) ?_
   refine X.addW (h:=?_)
   refine X.an ?_
   refine Run.sr (X.an ?_)
   refine Run.seq (Run.sr (X.mv ?_))
   refine X.ls elt25 ?_
   refine X.mn ?_
   obtain ⟨o19,ho19,h⟩:=bindE h
   refine R.join2 (β:=Int) [(2,int b2),(3,.lptr 192 0),(4,.lptr 256 0),(7,.slice (v1.map int)),(8,int (W (a13+v18))),(9,int a14),(29,.slice (v1.map int)),(30,int (v1.length:Int)),(31,int z12)] [(192,.blk true [int b0.Deadline,.slice (b0.Activities.map A0d),.slice (b0.Links.map A0l),.slice (b0.Resources.map A0e),.slice (b0.Stocks.map int)]),(256,.blk true [.slice (b1.MinStart.map int),.slice (b1.MaxStart.map int),.slice (b1.Modes.map l_int)])] (fun p38 S=>(12,int p38)::S) (fun p38 M=>M) (fun p38=>p38=o19) ?_ ?_
   ·intro JJ22 hmeet21
    have hup20:=h;clear h;have h:=ho19;clear ho19
    refine Run.block ?_
    refine R.bndS (t:=7) (by rfl) (fun hbd25=>?_)
    replace hbd25:v1.length≤9223372036854775807:=by first | (rw [List.length_map] at hbd25;exact hbd25) | simp
    refine R.lp (β:=Int×Int) [(2,int b2),(3,.lptr 192 0),(4,.lptr 256 0),(7,.slice (v1.map int)),(8,int (W (a13+v18))),(9,int a14),(11,int x15),(29,.slice (v1.map int)),(30,int (v1.length:Int)),(31,int z12),(41,.slice (v1.map int)),(42,int (v1.length:Int))] [(192,.blk true [int b0.Deadline,.slice (b0.Activities.map A0d),.slice (b0.Links.map A0l),.slice (b0.Resources.map A0e),.slice (b0.Stocks.map int)]),(256,.blk true [.slice (b1.MinStart.map int),.slice (b1.MaxStart.map int),.slice (b1.Modes.map l_int)])] (fun bb S=>(12,int bb.2)::(43,int bb.1)::S) (fun bb M=>M) (fun n bb=>0≤bb.1∧bb.1+n=(v1.length:Int)∧B0r b0 b2 x15 (v1.drop bb.1.toNat) bb.1 bb.2=some o19) v1.length (0,12) ⟨Int.le_refl _,by simp,h⟩ ?_
    clear h
    rintro JJ25 n25 ⟨z26,a27⟩ hag25 ⟨hza25,hzb25,h⟩
    dsimp only at hza25 hzb25 h
    refine Run.sr (X.bi ?_)
    refine X.nil (Run.seq ?_)
    refine R.cd (fun hc30=>?_) (fun hc30=>?_)
    ·obtain ⟨x28,xs29,hd25,hx25,hds25,hlt25⟩:=A0k hza25 hc30
     rw [hd25] at h
     rw [B0r] at h
     refine Run.skip (Run.seq (Run.block (Run.sr (X.ix elt25 (A0a hx25).1 (A0c int hx25) ?_))))
     refine X.lc shp3 ?_
     refine X.an ?_
     refine Run.sr (X.mv ?_)
     refine X.mv ?_
     refine X.bi ?_
     refine X.nil ?_
     refine R.cd (fun hc31=>?_) (fun hc31=>?_)
     ·replace h:=condT hc31 h
      refine Run.draw (B0m [(2,([192],[],[],[])),(8,([192],[],[],[])),(16,([192],[],[],[]))]) mixed (by kernel_rfl) (by kernel_rfl) ?_
      refine X.mv ?_
      refine X.fl H0o ?_
      refine X.ld shp32 ?_
      refine X.mv ?_
      obtain ⟨v32,hv32,h⟩:=bindE h
      refine X.ix elt32 (A0a hv32).1 (A0c A0e hv32) ?_
      refine X.fieldAddr_c N0z (by rfl) (by rfl) ?_
      refine X.lc shp61 ?_
      refine X.fl B0l ?_
      refine X.ld shp30 ?_
      refine X.mv ?_
      obtain ⟨v33,hv33,h⟩:=bindE h
      refine X.ix elt30 (A0a hv33).1 (A0c A0d hv33) ?_
      refine X.fieldAddr_c T0u (by rfl) (by rfl) ?_
      refine X.lc shp3 ?_
      obtain ⟨v34,hv34,h⟩:=bindE h
      refine X.ix elt61 (A0a hv34).1 (A0c l_int hv34) ?_
      refine X.lc shp25 ?_
      refine X.fl B0l ?_
      refine X.ld shp30 ?_
      refine X.mv ?_
      obtain ⟨v35,hv35,h⟩:=bindE h
      refine X.ix elt30 (A0a hv35).1 (A0c A0d hv35) ?_
      refine X.fieldAddr_c T0u (by rfl) (by rfl) ?_
      refine X.lc shp3 ?_
      obtain ⟨v36,hv36,h⟩:=bindE h
      refine X.ix elt25 (A0a hv36).1 (A0c int hv36) ?_
      refine X.lc shp3 ?_
      obtain ⟨v37,hv37,h⟩:=bindE h
      refine X.cp (K1w _ _ _ hv37) ?_
      refine X.an ?_
      refine Run.blk (Run.reg (X.ad ?_))
      refine X.mn ?_
      exact R.ag hag25 (n25 - 1) (z26+1,v37) (R.n3 (by first | (rw [hds25];exact h) | (dsimp only;rw [hds25];exact h)))
     replace h:=condF hc31 h
     refine Run.skip (Run.blk (Run.reg (X.ad ?_)))
     refine X.mn ?_
     exact R.ag hag25 (n25 - 1) (z26+1,a27) (R.n3 (by first | (rw [hds25];exact h) | (dsimp only;rw [hds25];exact h)))
    rw [A0h hza25 hc30] at h
    rw [B0r] at h
    refine Run.exit (by rfl) ?_
    exact R.mt hmeet21 a27 (Option.some.inj h)
   rintro p38 rfl
   refine Run.sr (X.mv ?_)
   refine X.ls elt25 ?_
   refine X.bi ?_
   refine X.nil ?_
   refine R.cd (fun hc39=>?_) (fun hc39=>?_)
   ·replace h:=condT hc39 h
    refine Run.sr (X.mv ?_)
    refine X.mv ?_
    refine X.addW (h:=?_)
    refine X.an ?_
    refine Run.reg (X.mv ?_)
    refine X.mv ?_
    obtain ⟨v40,hv40,h⟩:=bindE h
    refine X.cp (H0x _ _ _ hv40) ?_
    refine X.an ?_
    refine Run.blk (Run.reg (X.ad ?_))
    refine X.mn ?_
    exact R.ag hag11 (n11 - 1) (z12+1,(W ((W (a13+v18))+p38)),v40) (R.n3 (by first | (rw [hds11];exact h) | (dsimp only;rw [hds11];exact h)))
   replace h:=condF hc39 h
   refine Run.skip (Run.blk (Run.reg (X.ad ?_)))
   refine X.mn ?_
   exact R.ag hag11 (n11 - 1) (z12+1,(W (a13+v18)),a14) (R.n3 (by first | (rw [hds11];exact h) | (dsimp only;rw [hds11];exact h)))
  rw [A0h hza11 hc17] at h
  rw [D0j] at h
  refine Run.exit (by rfl) ?_
  exact R.mt hmeet7 (a13,a14) (Option.some.inj h)
 rintro p41 rfl
 refine Run.sr (X.mv ?_)
 refine X.mv ?_
 refine X.subW (h:=?_)
 refine X.an ?_
 cases h
 refine R.f1 Tryz.results47 ?_
 rfl
theorem N0m (b0:A0b)(r:Int)(h:E0x b0=some r):PC Tryz.prog 18 [A0n b0] (int r):=by
 unfold E0x at h
 refine PC.start Tryz.func18 Tryz.ntmps18 rfl ok18 rfl ?_
 refine Run.sr (X.bx ?_)
 refine X.an ?_
 refine Run.sr (X.an ?_)
 refine Run.seq (Run.sr (X.ld shp34 ?_))
 obtain ⟨v1,hv1,h⟩:=bindE h
 refine X.cp (G0p _ _ hv1) ?_
 refine X.un (h:=?_)
 refine X.nil ?_
 refine R.cd (fun hc2=>?_) (fun hc2=>?_)
 ·replace h:=condT hc2 h
  refine Run.sr (X.an ?_)
  cases h
  refine R.f1 Tryz.results18 ?_
  rfl
 replace h:=condF hc2 h
 refine Run.skip (Run.seq (Run.sr (X.fl H0o ?_)))
 refine X.ld shp32 ?_
 refine X.ls elt32 ?_
 refine X.mn ?_
 obtain ⟨o3,ho3,h⟩:=bindE h
 refine R.join2 (β:=Int) [] [] (fun p18 S=>(3,int p18)::S) (fun p18 M=>M) (fun p18=>p18=o3) ?_ ?_
 ·intro JJ6 hmeet5
  have hup4:=h;clear h;have h:=ho3;clear ho3
  refine Run.block ?_
  refine R.bndS (t:=9) (by rfl) (fun hbd9=>?_)
  replace hbd9:b0.Resources.length≤9223372036854775807:=by first | (rw [List.length_map] at hbd9;exact hbd9) | simp
  refine R.lp (β:=Int×Int) [(1,.lptr 64 0),(10,int (b0.Resources.length:Int))] [(64,.blk true [int b0.Deadline,.slice (b0.Activities.map A0d),.slice (b0.Links.map A0l),.slice (b0.Resources.map A0e),.slice (b0.Stocks.map int)])] (fun bb S=>(3,int bb.2)::(11,int bb.1)::S) (fun bb M=>M) (fun n bb=>0≤bb.1∧bb.1+n=(b0.Resources.length:Int)∧C0k b0 (b0.Resources.drop bb.1.toNat) bb.1 bb.2=some o3) b0.Resources.length (0,0) ⟨Int.le_refl _,by simp,h⟩ ?_
  clear h
  rintro JJ9 n9 ⟨z10,a11⟩ hag9 ⟨hza9,hzb9,h⟩
  dsimp only at hza9 hzb9 h
  refine Run.sr (X.bi ?_)
  refine X.nil (Run.seq ?_)
  refine R.cd (fun hc14=>?_) (fun hc14=>?_)
  ·obtain ⟨x12,xs13,hd9,hx9,hds9,hlt9⟩:=A0k hza9 hc14
   rw [hd9] at h
   rw [C0k] at h
   refine Run.skip (Run.seq (Run.block (Run.sr (X.mv ?_))))
   refine X.an ?_
   refine Run.draw (B0m [(1,([64],[],[],[])),(2,([64],[],[],[])),(3,([],[1088,1089,1090],[],[])),(5,([1088,1089,1090],[],[],[]))]) mixed (by kernel_rfl) (by kernel_rfl) ?_
   refine X.mv ?_
   refine X.ld shp34 ?_
   refine X.ld shp34 ?_
   obtain ⟨v15,hv15,h⟩:=bindE h
   refine X.callA (N1q _ _ hv15) (by rfl) (by rfl) (by rfl) (by trivial) (by rfl) (by rfl) (by rfl) (by rfl) (by rfl) (by rfl) ?_
   refine X.mv ?_
   obtain ⟨v16,hv16,h⟩:=bindE h
   refine X.cp (Z0x _ _ _ _ hv16) ?_
   obtain ⟨v17,hv17,h⟩:=bindE h
   refine X.cp (H0x _ _ _ hv17) ?_
   refine X.an ?_
   refine Run.blk (Run.reg (X.ad ?_))
   refine X.mn ?_
   exact R.ag hag9 (n9 - 1) (z10+1,v17) (R.n3 (by first | (rw [hds9];exact h) | (dsimp only;rw [hds9];exact h)))
  rw [A0h hza9 hc14] at h
  rw [C0k] at h
  refine Run.exit (by rfl) ?_
  exact R.mt hmeet5 a11 (Option.some.inj h)
 rintro p18 rfl
 refine Run.sr (X.mv ?_)
 refine X.an ?_
 cases h
 refine R.f1 Tryz.results18 ?_
 rfl
theorem D1m (b0:A0b)(r:Int)(h:P0v b0=some r):PC Tryz.prog 19 [A0n b0] (int r):=by
 unfold P0v at h
 refine PC.start Tryz.func19 Tryz.ntmps19 rfl ok19 rfl ?_
 refine Run.sr (X.bx ?_)
 refine X.an ?_
 refine Run.seq (Run.sr (X.ld shp34 ?_))
 obtain ⟨v1,hv1,h⟩:=bindE h
 refine X.cp (G0p _ _ hv1) ?_
 refine X.un (h:=?_)
 refine X.nil ?_
 refine R.cd (fun hc2=>?_) (fun hc2=>?_)
 ·replace h:=condT hc2 h
  refine Run.sr (X.an ?_)
  cases h
  refine R.f1 Tryz.results19 ?_
  rfl
 replace h:=condF hc2 h
 refine Run.skip (Run.seq (Run.draw (B0m [(0,([64],[],[],[])),(3,([64],[],[],[])),(5,([64],[],[],[]))]) mixed (by kernel_rfl) (by kernel_rfl) ?_))
 refine X.ld shp34 ?_
 obtain ⟨v3,hv3,h⟩:=bindE h
 refine X.cp (S0p _ _ hv3) ?_
 obtain ⟨v4,hv4,h⟩:=bindE h
 refine X.cp (H0x _ _ _ hv4) ?_
 refine X.ld shp34 ?_
 obtain ⟨v5,hv5,h⟩:=bindE h
 refine X.cp (W0h _ _ hv5) ?_
 refine X.ld shp34 ?_
 obtain ⟨v6,hv6,h⟩:=bindE h
 refine X.cp (N0m _ _ hv6) ?_
 obtain ⟨v7,hv7,h⟩:=bindE h
 refine X.cp (H0x _ _ _ hv7) ?_
 obtain ⟨v8,hv8,h⟩:=bindE h
 refine X.cp (H0x _ _ _ hv8) ?_
 refine X.an ?_
 cases h
 refine R.f1 Tryz.results19 ?_
 rfl
theorem Q1h (b0:List ByteArray)(b1:ByteArray)(r:ByteArray)(h:F1r b0 b1=some r):PC Tryz.prog 14 [.slice (b0.map str),str b1] (str r):=by
 unfold F1r at h
 refine PC.start Tryz.func14 Tryz.ntmps14 rfl ok14 rfl ?_
 refine Run.sr (X.an ?_)
 refine Run.sr (X.an ?_)
 refine Run.seq (Run.sr (X.mv ?_))
 refine X.ls elt46 ?_
 refine X.mn ?_
 obtain ⟨o1,ho1,h⟩:=bindE h
 refine R.join2 (β:=ByteArray) [] [] (fun p17 S=>(5,str p17)::S) (fun p17 M=>M) (fun p17=>p17=o1) ?_ ?_
 ·intro JJ4 hmeet3
  have hup2:=h;clear h;have h:=ho1;clear ho1
  refine Run.block ?_
  refine R.bndS (t:=0) (by rfl) (fun hbd7=>?_)
  replace hbd7:b0.length≤9223372036854775807:=by first | (rw [List.length_map] at hbd7;exact hbd7) | simp
  refine R.lp (β:=Int×ByteArray) [(1,str b1),(8,.slice (b0.map str)),(9,int (b0.length:Int))] [] (fun bb S=>(5,str bb.2)::(10,int bb.1)::S) (fun bb M=>M) (fun n bb=>0≤bb.1∧bb.1+n=(b0.length:Int)∧N0f b1 (b0.drop bb.1.toNat) bb.1 bb.2=some o1) b0.length (0,ByteArray.empty) ⟨Int.le_refl _,by simp,h⟩ ?_
  clear h
  rintro JJ7 n7 ⟨z8,a9⟩ hag7 ⟨hza7,hzb7,h⟩
  dsimp only at hza7 hzb7 h
  refine Run.sr (X.bi ?_)
  refine X.nil (Run.seq ?_)
  refine R.cd (fun hc12=>?_) (fun hc12=>?_)
  ·obtain ⟨x10,xs11,hd7,hx7,hds7,hlt7⟩:=A0k hza7 hc12
   rw [hd7] at h
   rw [N0f] at h
   refine Run.skip (Run.seq (Run.block (Run.sr (X.mv ?_))))
   refine X.ix elt46 (A0a hx7).1 (A0c str hx7) ?_
   refine X.lc shp9 ?_
   refine X.as ?_
   refine X.an ?_
   refine Run.seq (Run.sr (X.mv ?_))
   refine X.bi ?_
   refine X.nil ?_
   refine R.cd (fun hc13=>?_) (fun hc13=>?_)
   ·replace h:=condT hc13 h
    refine Run.reg (X.mv ?_)
    refine X.mv ?_
    obtain ⟨v14,hv14,h⟩:=bindE h
    refine X.cat2 hv14 (by rfl) (by rfl) (by rfl) ?_
    refine X.an ?_
    refine Run.reg (X.mv ?_)
    refine X.mv ?_
    obtain ⟨v15,hv15,h⟩:=bindE h
    refine X.cat2 hv15 (by rfl) (by rfl) (by rfl) ?_
    refine X.an ?_
    refine Run.blk (Run.reg (X.ad ?_))
    refine X.mn ?_
    exact R.ag hag7 (n7 - 1) (z8+1,v15) (R.n3 (by first | (rw [hds7];exact h) | (dsimp only;rw [hds7];exact h)))
   replace h:=condF hc13 h
   refine Run.skip (Run.reg (X.mv ?_))
   refine X.mv ?_
   obtain ⟨v16,hv16,h⟩:=bindE h
   refine X.cat2 hv16 (by rfl) (by rfl) (by rfl) ?_
   refine X.an ?_
   refine Run.blk (Run.reg (X.ad ?_))
   refine X.mn ?_
   exact R.ag hag7 (n7 - 1) (z8+1,v16) (R.n3 (by first | (rw [hds7];exact h) | (dsimp only;rw [hds7];exact h)))
  rw [A0h hza7 hc12] at h
  rw [N0f] at h
  refine Run.exit (by rfl) ?_
  exact R.mt hmeet3 a9 (Option.some.inj h)
 rintro p17 rfl
 refine Run.sr (X.mv ?_)
 refine X.an ?_
 cases h
 refine R.f1 Tryz.results14 ?_
 rfl
theorem A1n (b0:A0b)(r:ByteArray)(h:M0d b0=some r):PC Tryz.prog 5 [A0n b0] (str r):=by
 unfold M0d at h
 refine PC.start Tryz.func5 Tryz.ntmps5 rfl ok5 rfl ?_
 refine Run.sr (X.bx ?_)
 refine X.an ?_
 refine Run.seq (Run.sr (X.ld shp34 ?_))
 obtain ⟨v1,hv1,h⟩:=bindE h
 refine X.cp (G0p _ _ hv1) ?_
 refine X.un (h:=?_)
 refine X.nil ?_
 refine R.cd (fun hc2=>?_) (fun hc2=>?_)
 ·replace h:=condT hc2 h
  refine Run.sr (X.an ?_)
  cases h
  refine R.f1 Tryz.results5 ?_
  rfl
 replace h:=condF hc2 h
 refine Run.skip (Run.seq (Run.draw (B0m [(0,([64],[],[],[])),(3,([64],[],[],[])),(6,([64],[],[],[])),(9,([64],[],[],[])),(12,([1152],[1152],[],[])),(13,([1152],[],[],[]))]) mixed (by kernel_rfl) (by kernel_rfl) ?_))
 refine X.ld shp34 ?_
 obtain ⟨v3,hv3,h⟩:=bindE h
 refine X.cp (S0p _ _ hv3) ?_
 obtain ⟨v4,hv4,h⟩:=bindE h
 refine X.cp (P0d _ _ hv4) ?_
 refine X.ld shp34 ?_
 obtain ⟨v5,hv5,h⟩:=bindE h
 refine X.cp (W0h _ _ hv5) ?_
 obtain ⟨v6,hv6,h⟩:=bindE h
 refine X.cp (P0d _ _ hv6) ?_
 refine X.ld shp34 ?_
 obtain ⟨v7,hv7,h⟩:=bindE h
 refine X.cp (N0m _ _ hv7) ?_
 obtain ⟨v8,hv8,h⟩:=bindE h
 refine X.cp (P0d _ _ hv8) ?_
 refine X.ld shp34 ?_
 obtain ⟨v9,hv9,h⟩:=bindE h
 refine X.cp (D1m _ _ hv9) ?_
 obtain ⟨v10,hv10,h⟩:=bindE h
 refine X.cp (P0d _ _ hv10) ?_
 refine X.buildSlice false elt46 zer9 (by rfl) (by rfl) (by rfl) (by rfl) (by rfl) (by rfl) (by repeat (first | trivial | refine ⟨by first | rfl | simp [setL],?_⟩)) (A0o (by rfl)) (by rfl) (by rfl) (by rfl) ?_
 obtain ⟨v11,hv11,h⟩:=bindE h
 refine X.cp (Q1h _ _ _ hv11) ?_
 refine X.an ?_
 cases h
 refine R.f1 Tryz.results5 ?_
 rfl
theorem C0j (b0:Int)(b1:Int)(b2:Int)(r:Bool)(h:E0r b0 b1 b2=some r):PC Tryz.prog 52 [int b0,int b1,int b2] (bool r):=by
 unfold E0r at h
 refine PC.start Tryz.func52 Tryz.ntmps52 rfl ok52 rfl ?_
 refine Run.sr (X.an ?_)
 refine Run.seq ?_
 obtain ⟨e1,he1,h2⟩:=bindE h
 refine R.regG [(6,bool e1)] [] ?_ ?_
 ·clear h;have h:=he1;clear he1 h2
  refine X.mv ?_
  refine X.mv ?_
  refine X.bi ?_
  refine X.mv ?_
  refine X.iG (fun hb2=>?_) (fun hb2=>?_)
  ·replace h:=condT hb2 h
   refine X.mv ?_
   refine X.gy (X.mv ?_)
   refine X.gy (X.bi ?_)
   refine X.pT ?_
   refine X.as ?_
   cases h
   exact X.eG
  replace h:=condF hb2 h
  refine X.gn (X.gn (X.pF ?_))
  refine X.as ?_
  cases h
  exact X.eG
 replace h:=h2;clear h2
 cases h
 refine R.f1 Tryz.results52 ?_
 rfl
theorem X0k (b0:Int)(r:Bool)(h:R0c b0=some r):PC Tryz.prog 128 [int b0] (bool r):=by
 unfold R0c at h
 refine PC.start Tryz.func128 Tryz.ntmps128 rfl ok128 rfl ?_
 refine Run.sr (X.an ?_)
 refine Run.sr (X.mv ?_)
 obtain ⟨v1,hv1,h⟩:=bindE h
 refine X.cp (C0j _ _ _ _ hv1) ?_
 refine X.an ?_
 cases h
 refine R.f1 Tryz.results128 ?_
 rfl
theorem U0w (b0:List Int)(b1:Int)(r:Bool)(h:M0x b0 b1=some r):PC Tryz.prog 127 [.slice (b0.map int),int b1] (bool r):=by
 unfold M0x at h
 refine PC.start Tryz.func127 Tryz.ntmps127 rfl ok127 rfl ?_
 refine Run.sr (X.an ?_)
 refine Run.seq (Run.sr (X.mv ?_))
 refine X.ls elt25 ?_
 refine X.mn ?_
 obtain ⟨o1,ho1,h⟩:=bindE h
 refine R.join2 (β:=Unit) [(0,.slice (b0.map int)),(1,int b1)] [] (fun p14 S=>S) (fun p14 M=>M) (fun p14=>(Sum.inl p14)=o1) ?_ ?_
 ·intro JJ4 hmeet3
  have hup2:=h;clear h;have h:=ho1;clear ho1
  refine Run.block ?_
  refine R.bndS (t:=0) (by rfl) (fun hbd7=>?_)
  replace hbd7:b0.length≤9223372036854775807:=by first | (rw [List.length_map] at hbd7;exact hbd7) | simp
  refine R.lp (β:=Int) [(0,.slice (b0.map int)),(1,int b1),(7,.slice (b0.map int)),(8,int (b0.length:Int))] [] (fun bb S=>(9,int bb)::S) (fun bb M=>M) (fun n bb=>0≤bb∧bb+n=(b0.length:Int)∧G0y (b0.drop bb.toNat) bb=some o1) b0.length (0:Int) ⟨Int.le_refl _,by simp,h⟩ ?_
  clear h
  rintro JJ7 n7 z8 hag7 ⟨hza7,hzb7,h⟩
  refine Run.sr (X.bi ?_)
  refine X.nil (Run.seq ?_)
  refine R.cd (fun hc11=>?_) (fun hc11=>?_)
  ·obtain ⟨x9,xs10,hd7,hx7,hds7,hlt7⟩:=A0k hza7 hc11
   rw [hd7] at h
   rw [G0y] at h
   refine Run.skip (Run.seq (Run.block (Run.sr (X.ix elt25 (A0a hx7).1 (A0c int hx7) ?_))))
   refine X.lc shp3 ?_
   refine X.an ?_
   refine Run.sr (X.mv ?_)
   obtain ⟨v12,hv12,h⟩:=bindE h
   refine X.cp (X0k _ _ hv12) ?_
   refine X.un (h:=?_)
   refine X.nil ?_
   refine R.cd (fun hc13=>?_) (fun hc13=>?_)
   ·replace h:=condT hc13 h
    refine Run.sr (X.an ?_)
    cases h
    have h:=hup2
    replace h:=elimR h
    cases h
    refine R.f1 Tryz.results127 ?_
    rfl
   replace h:=condF hc13 h
   refine Run.skip (Run.blk (Run.reg (X.ad ?_)))
   refine X.mn ?_
   exact R.ag hag7 (n7 - 1) (z8+1) (R.n3 (by first | (rw [hds7];exact h) | (dsimp only;rw [hds7];exact h)))
  rw [A0h hza7 hc11] at h
  rw [G0y] at h
  refine Run.exit (by rfl) ?_
  exact R.mt hmeet3 () (Option.some.inj h)
 rintro p14 rfl
 replace h:=elimL h
 refine Run.sr (X.mv ?_)
 refine X.ls elt25 ?_
 refine X.mv ?_
 refine X.bi ?_
 refine X.an ?_
 cases h
 refine R.f1 Tryz.results127 ?_
 rfl
theorem K1v (b0:TMode)(b1:Int)(b2:Int)(r:Bool)(h:Z0h b0 b1 b2=some r):PC Tryz.prog 90 [B0f b0,int b1,int b2] (bool r):=by
 unfold Z0h at h
 refine PC.start Tryz.func90 Tryz.ntmps90 rfl ok90 rfl ?_
 refine Run.sr (X.bx ?_)
 refine X.an ?_
 refine Run.seq ?_
 obtain ⟨v1,hv1,h⟩:=bindE h
 obtain ⟨e2,he2,h2⟩:=bindE h
 refine R.regG [(6,bool e2)] [] ?_ ?_
 ·clear h;have h:=he2;clear he2 h2
  refine X.fl N0k ?_
  refine X.ld shp3 ?_
  refine X.cp (C0j _ _ _ _ hv1) ?_
  refine X.mv ?_
  refine X.iG (fun hb3=>?_) (fun hb3=>?_)
  ·replace h:=condT hb3 h
   refine X.fl S0d ?_
   refine X.gy (X.ld shp25 ?_)
   refine X.gy (X.mv ?_)
   refine X.gy ?_
   obtain ⟨v4,hv4,h⟩:=bindE h
   refine X.cp (U0w _ _ _ hv4) ?_
   refine X.pT ?_
   refine X.mv ?_
   refine X.iG (fun hb5=>?_) (fun hb5=>?_)
   ·replace h:=condT hb5 h
    refine X.fl V0q ?_
    refine X.gy (X.ld shp25 ?_)
    refine X.gy (X.mv ?_)
    refine X.gy ?_
    obtain ⟨v6,hv6,h⟩:=bindE h
    refine X.cp (U0w _ _ _ hv6) ?_
    refine X.pT ?_
    refine X.as ?_
    cases h
    exact X.eG
   replace h:=condF hb5 h
   refine X.gn (X.gn (X.gn (X.pF ?_)))
   refine X.as ?_
   cases h
   exact X.eG
  replace h:=condF hb3 h
  refine X.gn (X.gn (X.gn (X.pF ?_)))
  refine X.mv ?_
  refine X.gn (X.gn (X.gn (X.gn (X.pF ?_))))
  refine X.as ?_
  cases h
  exact X.eG
 replace h:=h2;clear h2
 cases h
 refine R.f1 Tryz.results90 ?_
 rfl
theorem L1x (b0:ByteArray)(r:Bool)(h:Y0w b0=some r):PC Tryz.prog 91 [str b0] (bool r):=by
 unfold Y0w at h
 refine PC.start Tryz.func91 Tryz.ntmps91 rfl ok91 rfl ?_
 refine Run.sr (X.an ?_)
 refine Run.seq (Run.sr (X.mv ?_))
 refine X.lenStr Tryz.underlying9 (by rfl) (by rfl) ?_
 refine X.mn ?_
 obtain ⟨o1,ho1,h⟩:=bindE h
 refine R.join2 (β:=Unit) [(0,str b0)] [] (fun p19 S=>S) (fun p19 M=>M) (fun p19=>(Sum.inl p19)=o1) ?_ ?_
 ·intro JJ4 hmeet3
  have hup2:=h;clear h;have h:=ho1;clear ho1
  refine Run.block ?_
  refine R.lp (β:=Int) [(0,str b0),(6,int (b0.size:Int))] [] (fun bb S=>(7,int bb)::S) (fun bb M=>M) (fun n bb=>M0q b0 n bb=some o1) F0 0 h ?_
  clear h
  rintro JJ5 n5 a7 hag5 h
  obtain _ | n5:=n5
  ·exact absurd h (by simp [M0q])
  rw [M0q] at h
  refine Run.sr (X.bi ?_)
  refine X.nil (Run.seq ?_)
  refine R.cd (fun hc10=>?_) (fun hc10=>?_)
  ·replace h:=condT hc10 h
   refine Run.skip (Run.seq (Run.block (Run.sr (X.mv ?_))))
   refine X.an ?_
   refine Run.seq ?_
   obtain ⟨v11,hv11,h⟩:=bindE h
   obtain ⟨e12,he12,h2⟩:=bindE h
   refine R.regG [(0,str b0),(3,int a7),(4,bool e12),(6,int (b0.size:Int)),(7,int a7)] [] ?_ ?_
   ·clear h;have h:=he12;clear he12 h2
    refine X.mv ?_
    refine X.mv ?_
    refine X.indexStr2 hv11 Tryz.underlying9 (by rfl) (by rfl) (by rfl) ?_
    refine X.bi ?_
    refine X.mv ?_
    refine X.iG (fun hb13=>?_) (fun hb13=>?_)
    ·replace h:=condT hb13 h
     refine X.mv ?_
     refine X.gy (X.mv ?_)
     refine X.gy (X.indexStr2 hv11 Tryz.underlying9 (by rfl) (by rfl) (by rfl) ?_)
     refine X.gy (X.bi ?_)
     refine X.pT ?_
     refine X.as ?_
     cases h
     exact X.eG
    replace h:=condF hb13 h
    refine X.gn (X.gn (X.gn (X.pF ?_)))
    refine X.as ?_
    cases h
    exact X.eG
   replace h:=h2;clear h2
   refine Run.seq ?_
   obtain ⟨e14,he14,h2⟩:=bindE h
   refine R.regG [(0,str b0),(6,int (b0.size:Int)),(7,int a7),(37,bool e14)] [] ?_ ?_
   ·clear h;have h:=he14;clear he14 h2
    refine X.mv ?_
    refine X.un (h:=?_)
    refine X.mv ?_
    refine X.iG (fun hb15=>?_) (fun hb15=>?_)
    ·replace h:=condT hb15 h
     refine X.mv ?_
     refine X.gy (X.bi ?_)
     refine X.gy (X.mv ?_)
     refine X.iG (fun hb16=>?_) (fun hb16=>?_)
     ·replace h:=condF hb16 h
      refine X.mv ?_
      refine X.gy (X.mv ?_)
      refine X.gy (X.indexStr2 hv11 Tryz.underlying9 (by rfl) (by rfl) (by rfl) ?_)
      refine X.gy (X.bi ?_)
      refine X.gy (X.pF ?_)
      refine X.gy (X.mv ?_)
      refine X.iG (fun hb17=>?_) (fun hb17=>?_)
      ·replace h:=condF hb17 h
       refine X.mv ?_
       refine X.gy (X.mv ?_)
       refine X.gy (X.indexStr2 hv11 Tryz.underlying9 (by rfl) (by rfl) (by rfl) ?_)
       refine X.gy (X.bi ?_)
       refine X.gy (X.pF ?_)
       refine X.pT ?_
       cases h
       exact X.eG
      replace h:=condT hb17 h
      refine X.gn (X.gn (X.gn (X.gy (X.pT ?_))))
      refine X.pT ?_
      cases h
      exact X.eG
     replace h:=condT hb16 h
     refine X.gn (X.gn (X.gn (X.gy (X.pT ?_))))
     refine X.gy (X.mv ?_)
     refine X.gn (X.gn (X.gn (X.gn (X.gy (X.pT ?_)))))
     refine X.pT ?_
     cases h
     exact X.eG
    replace h:=condF hb15 h
    refine X.gn (X.gn (X.gU (h:=?_)))
    refine X.gU (h:=?_)
    refine X.gU (h:=?_)
    refine X.gU (h:=?_)
    refine X.gn (X.gn (X.gU (h:=?_)))
    refine X.gU (h:=?_)
    refine X.gU (h:=?_)
    refine X.gU (h:=?_)
    refine X.gn (X.pF ?_)
    cases h
    exact X.eG
   replace h:=h2;clear h2
   refine R.cd (fun hc18=>?_) (fun hc18=>?_)
   ·replace h:=condT hc18 h
    refine Run.sr (X.an ?_)
    cases h
    have h:=hup2
    replace h:=elimR h
    cases h
    refine R.f1 Tryz.results91 ?_
    rfl
   replace h:=condF hc18 h
   refine Run.skip (Run.blk (Run.reg (X.addW (h:=?_))))
   refine X.mn ?_
   exact hag5 n5 (W (a7+1)) _ _ (by omega) h (by trivial) (by trivial) (by rfl) (by rfl)
  replace h:=condF hc10 h
  refine Run.exit (by rfl) ?_
  exact R.mt hmeet3 () (Option.some.inj h)
 rintro p19 rfl
 replace h:=elimL h
 refine Run.sr (X.mv ?_)
 refine X.lenStr Tryz.underlying9 (by rfl) (by rfl) ?_
 obtain ⟨v21,hv21,h⟩:=bindE h
 refine X.cp (C0j _ _ _ _ hv21) ?_
 refine X.an ?_
 cases h
 refine R.f1 Tryz.results91 ?_
 rfl
theorem E1g (b0:A0f)(b1:Int)(b2:Int)(r:Bool)(h:P0w b0 b1 b2=some r):PC Tryz.prog 53 [A0d b0,int b1,int b2] (bool r):=by
 unfold P0w at h
 refine PC.start Tryz.func53 Tryz.ntmps53 rfl ok53 rfl ?_
 refine Run.sr (X.bx ?_)
 refine X.an ?_
 refine Run.seq (Run.sr (X.fl Q0e ?_))
 refine X.ld shp65 ?_
 refine X.ls elt65 ?_
 refine X.mn ?_
 obtain ⟨o1,ho1,h⟩:=bindE h
 refine R.join2 (β:=Unit) [(3,.lptr 192 0)] [(192,.blk true [str b0.Name,int b0.Family,.slice (b0.Modes.map B0f)])] (fun p14 S=>S) (fun p14 M=>M) (fun p14=>(Sum.inl p14)=o1) ?_ ?_
 ·intro JJ4 hmeet3
  have hup2:=h;clear h;have h:=ho1;clear ho1
  refine Run.block ?_
  refine R.bndS (t:=10) (by rfl) (fun hbd7=>?_)
  replace hbd7:b0.Modes.length≤9223372036854775807:=by first | (rw [List.length_map] at hbd7;exact hbd7) | simp
  refine R.lp (β:=Int) [(1,int b1),(2,int b2),(3,.lptr 192 0),(10,.slice (b0.Modes.map B0f)),(11,int (b0.Modes.length:Int))] [(192,.blk true [str b0.Name,int b0.Family,.slice (b0.Modes.map B0f)])] (fun bb S=>(12,int bb)::S) (fun bb M=>M) (fun n bb=>0≤bb∧bb+n=(b0.Modes.length:Int)∧G0v b1 b2 (b0.Modes.drop bb.toNat) bb=some o1) b0.Modes.length (0:Int) ⟨Int.le_refl _,by simp,h⟩ ?_
  clear h
  rintro JJ7 n7 z8 hag7 ⟨hza7,hzb7,h⟩
  refine Run.sr (X.bi ?_)
  refine X.nil (Run.seq ?_)
  refine R.cd (fun hc11=>?_) (fun hc11=>?_)
  ·obtain ⟨x9,xs10,hd7,hx7,hds7,hlt7⟩:=A0k hza7 hc11
   rw [hd7] at h
   rw [G0v] at h
   refine Run.skip (Run.seq (Run.block (Run.sr (X.ix elt65 (A0a hx7).1 (A0c B0f hx7) ?_))))
   refine X.lc K0p ?_
   refine X.alloc S0x (h:=?_)
   refine X.sl K0p ?_
   refine X.nil (Run.sr (X.ld K0p ?_))
   refine X.mv ?_
   refine X.mv ?_
   obtain ⟨v12,hv12,h⟩:=bindE h
   refine X.cp (K1v _ _ _ _ hv12) ?_
   refine X.un (h:=?_)
   refine X.nil ?_
   refine R.cd (fun hc13=>?_) (fun hc13=>?_)
   ·replace h:=condT hc13 h
    refine Run.sr (X.an ?_)
    cases h
    have h:=hup2
    replace h:=elimR h
    cases h
    refine R.f1 Tryz.results53 ?_
    rfl
   replace h:=condF hc13 h
   refine Run.skip (Run.blk (Run.reg (X.ad ?_)))
   refine X.mn ?_
   exact R.ag hag7 (n7 - 1) (z8+1) (R.n3 (by first | (rw [hds7];exact h) | (dsimp only;rw [hds7];exact h)))
  rw [A0h hza7 hc11] at h
  rw [G0v] at h
  refine Run.exit (by rfl) ?_
  exact R.mt hmeet3 () (Option.some.inj h)
 rintro p14 rfl
 replace h:=elimL h
 refine Run.seq ?_
 obtain ⟨v16,hv16,h⟩:=bindE h
 obtain ⟨e17,he17,h2⟩:=bindE h
 refine R.regG [(6,bool e17)] [] ?_ ?_
 ·clear h;have h:=he17;clear he17 h2
  refine X.fl T0r ?_
  refine X.ld shp9 ?_
  refine X.cp (L1x _ _ hv16) ?_
  refine X.mv ?_
  refine X.iG (fun hb18=>?_) (fun hb18=>?_)
  ·replace h:=condT hb18 h
   refine X.fl T0u ?_
   refine X.gy (X.ld shp3 ?_)
   refine X.gy ?_
   obtain ⟨v19,hv19,h⟩:=bindE h
   refine X.cp (C0j _ _ _ _ hv19) ?_
   refine X.pT ?_
   refine X.mv ?_
   refine X.iG (fun hb20=>?_) (fun hb20=>?_)
   ·replace h:=condT hb20 h
    refine X.fl Q0e ?_
    refine X.gy (X.ld shp65 ?_)
    refine X.gy (X.ls elt65 ?_)
    refine X.gy ?_
    obtain ⟨v21,hv21,h⟩:=bindE h
    refine X.cp (C0j _ _ _ _ hv21) ?_
    refine X.pT ?_
    refine X.as ?_
    cases h
    exact X.eG
   replace h:=condF hb20 h
   refine X.gn (X.gn (X.gn (X.pF ?_)))
   refine X.as ?_
   cases h
   exact X.eG
  replace h:=condF hb18 h
  refine X.gn (X.gn (X.pF ?_))
  refine X.mv ?_
  refine X.gn (X.gn (X.gn (X.gn (X.pF ?_))))
  refine X.as ?_
  cases h
  exact X.eG
 replace h:=h2;clear h2
 cases h
 refine R.f1 Tryz.results53 ?_
 rfl
theorem V0h (b0:A0f)(c1:ByteArray)(r:Bool)(h:H0f b0 c1=some r):PC Tryz.prog 93 [A0d b0,.cptr (str c1:PV).cells 0] (bool r):=by
 unfold H0f at h
 refine PC.start Tryz.func93 Tryz.ntmps93 rfl ok93 rfl ?_
 refine Run.sr (X.bx ?_)
 refine X.an ?_
 refine Run.sr (X.fl T0r ?_)
 refine X.ld shp9 ?_
 refine X.lc shp9 ?_
 refine X.bi ?_
 refine X.an ?_
 cases h
 refine R.f1 Tryz.results93 ?_
 rfl
theorem Q0j (b0:List A0f)(g1:A0f→Option Bool)(g1id:Nat)(g1c:List PV)(hg1:∀(x0:A0f) v,g1 x0=some v→PC Tryz.prog g1id ([A0d x0] ++ g1c) (bool v))(r:Int)(h:F0e b0 g1=some r):PC Tryz.prog 92 [.slice (b0.map A0d),.fn g1id g1c] (int r):=by
 unfold F0e at h
 refine PC.start Tryz.func92 Tryz.ntmps92 rfl ok92 rfl ?_
 refine Run.sr (X.an ?_)
 refine Run.seq (Run.sr (X.mv ?_))
 refine X.ls elt30 ?_
 refine X.mn ?_
 obtain ⟨o1,ho1,h⟩:=bindE h
 refine R.join2 (β:=Unit) [] [] (fun p14 S=>S) (fun p14 M=>M) (fun p14=>(Sum.inl p14)=o1) ?_ ?_
 ·intro JJ4 hmeet3
  have hup2:=h;clear h;have h:=ho1;clear ho1
  refine Run.block ?_
  refine R.bndS (t:=0) (by rfl) (fun hbd7=>?_)
  replace hbd7:b0.length≤9223372036854775807:=by first | (rw [List.length_map] at hbd7;exact hbd7) | simp
  refine R.lp (β:=Int) [(0,.slice (b0.map A0d)),(1,.fn g1id g1c),(7,int (b0.length:Int))] [] (fun bb S=>(8,int bb)::S) (fun bb M=>M) (fun n bb=>0≤bb∧bb+n=(b0.length:Int)∧B0g g1 (b0.drop bb.toNat) bb=some o1) b0.length (0:Int) ⟨Int.le_refl _,by simp,h⟩ ?_
  clear h
  rintro JJ7 n7 z8 hag7 ⟨hza7,hzb7,h⟩
  refine Run.sr (X.bi ?_)
  refine X.nil (Run.seq ?_)
  refine R.cd (fun hc11=>?_) (fun hc11=>?_)
  ·obtain ⟨x9,xs10,hd7,hx7,hds7,hlt7⟩:=A0k hza7 hc11
   rw [hd7] at h
   rw [B0g] at h
   refine Run.skip (Run.seq (Run.block (Run.sr (X.mv ?_))))
   refine X.an ?_
   refine Run.sr (X.mv ?_)
   refine X.mv ?_
   refine X.mv ?_
   refine X.ix elt30 (A0a hx7).1 (A0c A0d hx7) ?_
   refine X.lc shp67 ?_
   obtain ⟨v12,hv12,h⟩:=bindE h
   refine X.cp (hg1 _ _ hv12) ?_
   refine X.nil ?_
   refine R.cd (fun hc13=>?_) (fun hc13=>?_)
   ·replace h:=condT hc13 h
    refine Run.sr (X.mv ?_)
    refine X.an ?_
    cases h
    have h:=hup2
    replace h:=elimR h
    cases h
    refine R.f1 Tryz.results92 ?_
    rfl
   replace h:=condF hc13 h
   refine Run.skip (Run.blk (Run.reg (X.ad ?_)))
   refine X.mn ?_
   exact R.ag hag7 (n7 - 1) (z8+1) (R.n3 (by first | (rw [hds7];exact h) | (dsimp only;rw [hds7];exact h)))
  rw [A0h hza7 hc11] at h
  rw [B0g] at h
  refine Run.exit (by rfl) ?_
  exact R.mt hmeet3 () (Option.some.inj h)
 rintro p14 rfl
 replace h:=elimL h
 refine Run.sr (X.an ?_)
 cases h
 refine R.f1 Tryz.results92 ?_
 rfl
theorem Y0x (b0:A0b)(b1:ByteArray)(r:Int)(h:L0h b0 b1=some r):PC Tryz.prog 54 [A0n b0,str b1] (int r):=by
 unfold L0h at h
 refine PC.start Tryz.func54 Tryz.ntmps54 rfl ok54 rfl ?_
 refine Run.sr (X.bx ?_)
 refine X.bx ?_
 refine X.an ?_
 refine Run.seq ?_
 refine R.pubBlk (n:=192) (by rfl) (by rfl) (by repeat (first | trivial | refine ⟨by first | rfl | simp [setL],?_⟩)) ?_
 refine Run.reg (X.fl B0l ?_)
 refine X.ld shp30 ?_
 refine X.makeFunc (by rfl) (by rfl) (by repeat (first | trivial | refine ⟨by first | rfl | simp [setL],?_⟩)) (by rfl) (by rfl) ?_
 obtain ⟨v1,hv1,h⟩:=bindE h
 refine X.cp (Q0j _ (fun x0=>H0f x0 b1) _ _ (fun x0 v hv=>V0h _ _ _ hv) _ hv1) ?_
 refine X.an ?_
 cases h
 refine R.f1 Tryz.results54 ?_
 rfl
theorem W0v (b0:Int)(r:Bool)(h:U0g b0=some r):PC Tryz.prog 104 [int b0] (bool r):=by
 unfold U0g at h
 refine PC.start Tryz.func104 Tryz.ntmps104 rfl ok104 rfl ?_
 refine Run.sr (X.an ?_)
 refine Run.sr (X.mv ?_)
 obtain ⟨v1,hv1,h⟩:=bindE h
 refine X.cp (C0j _ _ _ _ hv1) ?_
 refine X.an ?_
 cases h
 refine R.f1 Tryz.results104 ?_
 rfl
theorem A1v (b0:List TStep)(r:Bool)(h:P0g b0=some r):PC Tryz.prog 94 [.slice (b0.map B0e)] (bool r):=by
 unfold P0g at h
 refine PC.start Tryz.func94 Tryz.ntmps94 rfl ok94 rfl ?_
 refine Run.sr (X.an ?_)
 refine Run.seq (Run.sr (X.mv ?_))
 refine X.ls elt70 ?_
 refine X.mn ?_
 obtain ⟨o1,ho1,h⟩:=bindE h
 refine R.join2 (β:=Unit) [(0,.slice (b0.map B0e))] [] (fun p24 S=>S) (fun p24 M=>M) (fun p24=>(Sum.inl p24)=o1) ?_ ?_
 ·intro JJ4 hmeet3
  have hup2:=h;clear h;have h:=ho1;clear ho1
  refine Run.block ?_
  refine R.bndS (t:=0) (by rfl) (fun hbd7=>?_)
  replace hbd7:b0.length≤9223372036854775807:=by first | (rw [List.length_map] at hbd7;exact hbd7) | simp
  refine R.lp (β:=Int) [(0,.slice (b0.map B0e)),(5,.slice (b0.map B0e)),(6,int (b0.length:Int))] [] (fun bb S=>(7,int bb)::S) (fun bb M=>M) (fun n bb=>0≤bb∧bb+n=(b0.length:Int)∧F0m b0 (b0.drop bb.toNat) bb=some o1) b0.length (0:Int) ⟨Int.le_refl _,by simp,h⟩ ?_
  clear h
  rintro JJ7 n7 z8 hag7 ⟨hza7,hzb7,h⟩
  refine Run.sr (X.bi ?_)
  refine X.nil (Run.seq ?_)
  refine R.cd (fun hc11=>?_) (fun hc11=>?_)
  ·obtain ⟨x9,xs10,hd7,hx7,hds7,hlt7⟩:=A0k hza7 hc11
   rw [hd7] at h
   rw [F0m] at h
   refine Run.skip (Run.seq (Run.block (Run.sr (X.mv ?_))))
   refine X.ix elt70 (A0a hx7).1 (A0c B0e hx7) ?_
   refine X.lc S0e ?_
   refine X.alloc D1x (h:=?_)
   refine X.as ?_
   refine X.sl S0e ?_
   refine X.nil (Run.seq ?_)
   obtain ⟨v12,hv12,h⟩:=bindE h
   obtain ⟨e13,he13,h2⟩:=bindE h
   refine R.drawG [(0,.slice (b0.map B0e)),(5,.slice (b0.map B0e)),(6,int (b0.length:Int)),(7,int z8),(45,bool e13)] [] (B0m [(1,([256],[],[],[])),(6,([256],[],[],[])),(15,([256],[],[],[])),(24,([256],[],[],[]))]) mixed (by kernel_rfl) (by kernel_rfl) ?_ ?_
   ·clear h;have h:=he13;clear he13 h2
    refine X.fl J0w ?_
    refine X.ld shp3 ?_
    refine X.cp (W0v _ _ hv12) ?_
    refine X.un (h:=?_)
    refine X.mv ?_
    refine X.iG (fun hb14=>?_) (fun hb14=>?_)
    ·replace h:=condF hb14 h
     refine X.fl T0w ?_
     refine X.gy (X.ld shp3 ?_)
     refine X.gy ?_
     obtain ⟨v15,hv15,h⟩:=bindE h
     refine X.cp (X0k _ _ hv15) ?_
     refine X.gy (X.un (h:=?_))
     refine X.pF ?_
     refine X.mv ?_
     refine X.iG (fun hb16=>?_) (fun hb16=>?_)
     ·replace h:=condF hb16 h
      refine X.mv ?_
      refine X.gy (X.bi ?_)
      refine X.gy (X.mv ?_)
      refine X.iG (fun hb17=>?_) (fun hb17=>?_)
      ·replace h:=condT hb17 h
       refine X.fl J0w ?_
       refine X.gy (X.ld shp3 ?_)
       refine X.gy (X.bi ?_)
       refine X.gy (X.pT ?_)
       refine X.pF ?_
       refine X.mv ?_
       refine X.iG (fun hb18=>?_) (fun hb18=>?_)
       ·replace h:=condF hb18 h
        refine X.mv ?_
        refine X.gy (X.bi ?_)
        refine X.gy (X.mv ?_)
        refine X.iG (fun hb19=>?_) (fun hb19=>?_)
        ·replace h:=condT hb19 h
         refine X.fl J0w ?_
         refine X.gy (X.ld shp3 ?_)
         refine X.gy (X.mv ?_)
         refine X.gy (X.mv ?_)
         refine X.gy (X.sub (by rfl) (by rfl) (by omega) (by rfl) ?_)
         refine X.gy ?_
         obtain ⟨v20,hv20,h⟩:=bindE h
         refine X.ix elt70 (A0a hv20).1 (A0c B0e hv20) ?_
         refine X.gy (X.fieldAddr_c J0w (by rfl) (by rfl) ?_)
         refine X.gy (X.lc shp3 ?_)
         refine X.gy (X.bi ?_)
         refine X.gy (X.pT ?_)
         refine X.pF ?_
         cases h
         exact X.eG
        replace h:=condF hb19 h
        refine X.gn (X.gn (X.gn (X.gn (X.gn (X.gn (X.gn (X.gn ?_)))))))
        refine X.gy (X.pF ?_)
        refine X.pF ?_
        cases h
        exact X.eG
       replace h:=condT hb18 h
       refine X.gn (X.gn (X.gU (h:=?_)))
       refine X.gU (h:=?_)
       refine X.gU (h:=?_)
       refine X.gU (h:=?_)
       refine X.gU (h:=?_)
       refine X.gU (h:=?_)
       refine X.gU (h:=?_)
       refine X.gU (h:=?_)
       refine X.gU (h:=?_)
       refine X.gn (X.pT ?_)
       cases h
       exact X.eG
      replace h:=condF hb17 h
      refine X.gn (X.gn (X.gy (X.pF ?_)))
      refine X.pF ?_
      refine X.mv ?_
      refine X.gy (X.mv ?_)
      refine X.gy (X.bi ?_)
      refine X.gy (X.mv ?_)
      refine X.iG (fun hb21=>?_) (fun hb21=>?_)
      ·replace h:=condT hb21 h
       refine X.fl J0w ?_
       refine X.gy (X.ld shp3 ?_)
       refine X.gy (X.mv ?_)
       refine X.gy (X.mv ?_)
       refine X.gy (X.sub (by rfl) (by rfl) (by omega) (by rfl) ?_)
       refine X.gy ?_
       obtain ⟨v22,hv22,h⟩:=bindE h
       refine X.ix elt70 (A0a hv22).1 (A0c B0e hv22) ?_
       refine X.gy (X.fieldAddr_c J0w (by rfl) (by rfl) ?_)
       refine X.gy (X.lc shp3 ?_)
       refine X.gy (X.bi ?_)
       refine X.gy (X.pT ?_)
       refine X.pF ?_
       cases h
       exact X.eG
      replace h:=condF hb21 h
      refine X.gn (X.gn (X.gn (X.gn (X.gn (X.gn (X.gn (X.gn ?_)))))))
      refine X.gy (X.pF ?_)
      refine X.pF ?_
      cases h
      exact X.eG
     replace h:=condT hb16 h
     refine X.gn (X.gn (X.gU (h:=?_)))
     refine X.gU (h:=?_)
     refine X.gU (h:=?_)
     refine X.gn (X.pT ?_)
     refine X.mv ?_
     refine X.gn (X.gn (X.gn (X.gU (h:=?_))))
     refine X.gU (h:=?_)
     refine X.gU (h:=?_)
     refine X.gU (h:=?_)
     refine X.gU (h:=?_)
     refine X.gU (h:=?_)
     refine X.gU (h:=?_)
     refine X.gU (h:=?_)
     refine X.gU (h:=?_)
     refine X.gn (X.pT ?_)
     cases h
     exact X.eG
    replace h:=condT hb14 h
    refine X.gn (X.gn (X.gn (X.pT ?_)))
    refine X.mv ?_
    refine X.gn (X.gn (X.gn (X.gU (h:=?_))))
    refine X.gU (h:=?_)
    refine X.gU (h:=?_)
    refine X.gn (X.pT ?_)
    refine X.mv ?_
    refine X.gn (X.gn (X.gn (X.gU (h:=?_))))
    refine X.gU (h:=?_)
    refine X.gU (h:=?_)
    refine X.gU (h:=?_)
    refine X.gU (h:=?_)
    refine X.gU (h:=?_)
    refine X.gU (h:=?_)
    refine X.gU (h:=?_)
    refine X.gU (h:=?_)
    refine X.gn (X.pT ?_)
    cases h
    exact X.eG
   replace h:=h2;clear h2
   refine R.cd (fun hc23=>?_) (fun hc23=>?_)
   ·replace h:=condT hc23 h
    refine Run.sr (X.an ?_)
    cases h
    have h:=hup2
    replace h:=elimR h
    cases h
    refine R.f1 Tryz.results94 ?_
    rfl
   replace h:=condF hc23 h
   refine Run.skip (Run.blk (Run.reg (X.ad ?_)))
   refine X.mn ?_
   exact R.ag hag7 (n7 - 1) (z8+1) (R.n3 (by first | (rw [hds7];exact h) | (dsimp only;rw [hds7];exact h)))
  rw [A0h hza7 hc11] at h
  rw [F0m] at h
  refine Run.exit (by rfl) ?_
  exact R.mt hmeet3 () (Option.some.inj h)
 rintro p24 rfl
 replace h:=elimL h
 refine Run.sr (X.mv ?_)
 refine X.ls elt70 ?_
 obtain ⟨v26,hv26,h⟩:=bindE h
 refine X.cp (C0j _ _ _ _ hv26) ?_
 refine X.an ?_
 cases h
 refine R.f1 Tryz.results94 ?_
 rfl
theorem E1b (b0:A0q)(r:Bool)(h:P0r b0=some r):PC Tryz.prog 55 [A0e b0] (bool r):=by
 unfold P0r at h
 refine PC.start Tryz.func55 Tryz.ntmps55 rfl ok55 rfl ?_
 refine Run.sr (X.bx ?_)
 refine X.an ?_
 refine Run.seq (Run.sr (X.fl N0z ?_))
 refine X.ld shp61 ?_
 refine X.ls elt61 ?_
 refine X.mn ?_
 obtain ⟨o1,ho1,h⟩:=bindE h
 refine R.join2 (β:=Unit) [(1,.lptr 64 0)] [(64,.blk true [.slice (b0.Steps.map B0e),.slice (b0.Setup.map l_int)])] (fun p28 S=>S) (fun p28 M=>M) (fun p28=>(Sum.inl p28)=o1) ?_ ?_
 ·intro JJ4 hmeet3
  have hup2:=h;clear h;have h:=ho1;clear ho1
  refine Run.block ?_
  refine R.bndS (t:=8) (by rfl) (fun hbd7=>?_)
  replace hbd7:b0.Setup.length≤9223372036854775807:=by first | (rw [List.length_map] at hbd7;exact hbd7) | simp
  refine R.lp (β:=Int) [(1,.lptr 64 0),(8,.slice (b0.Setup.map l_int)),(9,int (b0.Setup.length:Int))] [(64,.blk true [.slice (b0.Steps.map B0e),.slice (b0.Setup.map l_int)])] (fun bb S=>(10,int bb)::S) (fun bb M=>M) (fun n bb=>0≤bb∧bb+n=(b0.Setup.length:Int)∧G0w (b0.Setup.drop bb.toNat) bb=some o1) b0.Setup.length (0:Int) ⟨Int.le_refl _,by simp,h⟩ ?_
  clear h
  rintro JJ7 n7 z8 hag7 ⟨hza7,hzb7,h⟩
  refine Run.sr (X.bi ?_)
  refine X.nil (Run.seq ?_)
  refine R.cd (fun hc11=>?_) (fun hc11=>?_)
  ·obtain ⟨x9,xs10,hd7,hx7,hds7,hlt7⟩:=A0k hza7 hc11
   rw [hd7] at h
   rw [G0w] at h
   refine Run.skip (Run.seq (Run.block (Run.sr (X.ix elt61 (A0a hx7).1 (A0c l_int hx7) ?_))))
   refine X.lc shp25 ?_
   refine X.an ?_
   refine Run.seq (Run.sr (X.mv ?_))
   refine X.ls elt25 ?_
   refine X.bi ?_
   refine X.nil ?_
   refine R.cd (fun hc12=>?_) (fun hc12=>?_)
   ·replace h:=condT hc12 h
    refine Run.sr (X.an ?_)
    cases h
    have h:=hup2
    replace h:=elimR h
    cases h
    refine R.f1 Tryz.results55 ?_
    rfl
   replace h:=condF hc12 h
   refine Run.skip (Run.sr (X.mv ?_))
   refine X.ls elt25 ?_
   refine X.mn ?_
   obtain ⟨o13,ho13,h⟩:=bindE h
   refine R.join2 (β:=Unit) [(1,.lptr 64 0),(8,.slice (b0.Setup.map l_int)),(9,int (b0.Setup.length:Int)),(10,int z8)] [(64,.blk true [.slice (b0.Steps.map B0e),.slice (b0.Setup.map l_int)])] (fun p26 S=>S) (fun p26 M=>M) (fun p26=>(Sum.inl p26)=o13) ?_ ?_
   ·intro JJ16 hmeet15
    have hup14:=h;clear h;have h:=ho13;clear ho13
    refine Run.block ?_
    refine R.bndS (t:=4) (by rfl) (fun hbd19=>?_)
    replace hbd19:x9.length≤9223372036854775807:=by first | (rw [List.length_map] at hbd19;exact hbd19) | simp
    refine R.lp (β:=Int) [(1,.lptr 64 0),(8,.slice (b0.Setup.map l_int)),(9,int (b0.Setup.length:Int)),(10,int z8),(17,.slice (x9.map int)),(18,int (x9.length:Int))] [(64,.blk true [.slice (b0.Steps.map B0e),.slice (b0.Setup.map l_int)])] (fun bb S=>(19,int bb)::S) (fun bb M=>M) (fun n bb=>0≤bb∧bb+n=(x9.length:Int)∧G0u (x9.drop bb.toNat) bb=some o13) x9.length (0:Int) ⟨Int.le_refl _,by simp,h⟩ ?_
    clear h
    rintro JJ19 n19 z20 hag19 ⟨hza19,hzb19,h⟩
    refine Run.sr (X.bi ?_)
    refine X.nil (Run.seq ?_)
    refine R.cd (fun hc23=>?_) (fun hc23=>?_)
    ·obtain ⟨x21,xs22,hd19,hx19,hds19,hlt19⟩:=A0k hza19 hc23
     rw [hd19] at h
     rw [G0u] at h
     refine Run.skip (Run.seq (Run.block (Run.sr (X.ix elt25 (A0a hx19).1 (A0c int hx19) ?_))))
     refine X.lc shp3 ?_
     refine X.an ?_
     refine Run.sr (X.mv ?_)
     obtain ⟨v24,hv24,h⟩:=bindE h
     refine X.cp (C0j _ _ _ _ hv24) ?_
     refine X.un (h:=?_)
     refine X.nil ?_
     refine R.cd (fun hc25=>?_) (fun hc25=>?_)
     ·replace h:=condT hc25 h
      refine Run.sr (X.an ?_)
      cases h
      have h:=hup14
      replace h:=elimR h
      cases h
      have h:=hup2
      replace h:=elimR h
      cases h
      refine R.f1 Tryz.results55 ?_
      rfl
     replace h:=condF hc25 h
     refine Run.skip (Run.blk (Run.reg (X.ad ?_)))
     refine X.mn ?_
     exact R.ag hag19 (n19 - 1) (z20+1) (R.n3 (by first | (rw [hds19];exact h) | (dsimp only;rw [hds19];exact h)))
    rw [A0h hza19 hc23] at h
    rw [G0u] at h
    refine Run.exit (by rfl) ?_
    exact R.mt hmeet15 () (Option.some.inj h)
   rintro p26 rfl
   replace h:=elimL h
   refine Run.blk (Run.reg (X.ad ?_))
   refine X.mn ?_
   exact R.ag hag7 (n7 - 1) (z8+1) (R.n3 (by first | (rw [hds7];exact h) | (dsimp only;rw [hds7];exact h)))
  rw [A0h hza7 hc11] at h
  rw [G0w] at h
  refine Run.exit (by rfl) ?_
  exact R.mt hmeet3 () (Option.some.inj h)
 rintro p28 rfl
 replace h:=elimL h
 refine Run.seq ?_
 obtain ⟨v30,hv30,h⟩:=bindE h
 obtain ⟨e31,he31,h2⟩:=bindE h
 refine R.regG [(2,bool e31)] [] ?_ ?_
 ·clear h;have h:=he31;clear he31 h2
  refine X.fl X0g ?_
  refine X.ld shp70 ?_
  refine X.cp (A1v _ _ hv30) ?_
  refine X.mv ?_
  refine X.iG (fun hb32=>?_) (fun hb32=>?_)
  ·replace h:=condT hb32 h
   refine X.fl N0z ?_
   refine X.gy (X.ld shp61 ?_)
   refine X.gy (X.ls elt61 ?_)
   refine X.gy (X.bi ?_)
   refine X.gy (X.mv ?_)
   refine X.iG (fun hb33=>?_) (fun hb33=>?_)
   ·replace h:=condF hb33 h
    refine X.fl N0z ?_
    refine X.gy (X.ld shp61 ?_)
    refine X.gy (X.ls elt61 ?_)
    refine X.gy (X.bi ?_)
    refine X.gy (X.pF ?_)
    refine X.pT ?_
    refine X.as ?_
    cases h
    exact X.eG
   replace h:=condT hb33 h
   refine X.gn (X.gn (X.gn (X.gy (X.pT ?_))))
   refine X.pT ?_
   refine X.as ?_
   cases h
   exact X.eG
  replace h:=condF hb32 h
  refine X.gn (X.gn (X.gn (X.gn (X.gU (h:=?_)))))
  refine X.gU (h:=?_)
  refine X.gU (h:=?_)
  refine X.gU (h:=?_)
  refine X.gn (X.pF ?_)
  refine X.as ?_
  cases h
  exact X.eG
 replace h:=h2;clear h2
 cases h
 refine R.f1 Tryz.results55 ?_
 rfl
theorem D0p (b0:A0b)(b1:Int)(r:Bool)(h:B0t b0 b1=some r):PC Tryz.prog 96 [A0n b0,int b1] (bool r):=by
 unfold B0t at h
 refine PC.start Tryz.func96 Tryz.ntmps96 rfl ok96 rfl ?_
 refine Run.sr (X.bx ?_)
 refine X.an ?_
 refine Run.sr (X.mv ?_)
 refine X.fl B0l ?_
 refine X.ld shp30 ?_
 refine X.ls elt30 ?_
 refine X.subW (h:=?_)
 obtain ⟨v1,hv1,h⟩:=bindE h
 refine X.cp (C0j _ _ _ _ hv1) ?_
 refine X.an ?_
 cases h
 refine R.f1 Tryz.results96 ?_
 rfl
theorem X0e (b0:A0b)(b1:TLink)(r:Bool)(h:M0e b0 b1=some r):PC Tryz.prog 58 [A0n b0,A0l b1] (bool r):=by
 unfold M0e at h
 refine PC.start Tryz.func58 Tryz.ntmps58 rfl ok58 rfl ?_
 refine Run.sr (X.bx ?_)
 refine X.bx ?_
 refine X.an ?_
 refine Run.seq ?_
 obtain ⟨v1,hv1,h⟩:=bindE h
 obtain ⟨e2,he2,h2⟩:=bindE h
 refine R.regG [(4,bool e2)] [] ?_ ?_
 ·clear h;have h:=he2;clear he2 h2
  refine X.ld shp34 ?_
  refine X.fl J0y ?_
  refine X.ld shp3 ?_
  refine X.cp (D0p _ _ _ hv1) ?_
  refine X.mv ?_
  refine X.iG (fun hb3=>?_) (fun hb3=>?_)
  ·replace h:=condT hb3 h
   refine X.ld shp34 ?_
   refine X.gy (X.fl L0o ?_)
   refine X.gy (X.ld shp3 ?_)
   refine X.gy ?_
   obtain ⟨v4,hv4,h⟩:=bindE h
   refine X.cp (D0p _ _ _ hv4) ?_
   refine X.pT ?_
   refine X.mv ?_
   refine X.iG (fun hb5=>?_) (fun hb5=>?_)
   ·replace h:=condT hb5 h
    refine X.fl J0y ?_
    refine X.gy (X.ld shp3 ?_)
    refine X.gy (X.fl L0o ?_)
    refine X.gy (X.ld shp3 ?_)
    refine X.gy (X.bi ?_)
    refine X.pT ?_
    refine X.mv ?_
    refine X.iG (fun hb6=>?_) (fun hb6=>?_)
    ·replace h:=condT hb6 h
     refine X.fl T0l ?_
     refine X.gy (X.ld shp3 ?_)
     refine X.gy ?_
     obtain ⟨v7,hv7,h⟩:=bindE h
     refine X.cp (C0j _ _ _ _ hv7) ?_
     refine X.pT ?_
     refine X.as ?_
     cases h
     exact X.eG
    replace h:=condF hb6 h
    refine X.gn (X.gn (X.pF ?_))
    refine X.as ?_
    cases h
    exact X.eG
   replace h:=condF hb5 h
   refine X.gn (X.gn (X.gn (X.gn (X.pF ?_))))
   refine X.mv ?_
   refine X.gn (X.gn (X.gn (X.pF ?_)))
   refine X.as ?_
   cases h
   exact X.eG
  replace h:=condF hb3 h
  refine X.gn (X.gn (X.gn (X.pF ?_)))
  refine X.mv ?_
  refine X.gn (X.gn (X.gn (X.gn (X.gn (X.pF ?_)))))
  refine X.mv ?_
  refine X.gn (X.gn (X.gn (X.pF ?_)))
  refine X.as ?_
  cases h
  exact X.eG
 replace h:=h2;clear h2
 cases h
 refine R.f1 Tryz.results58 ?_
 rfl
theorem Z0v (b0:TLink)(c1:A0b)(r:Bool)(h:B0y b0 c1=some r):PC Tryz.prog 57 [A0l b0,.cptr (A0n c1:PV).cells 0] (bool r):=by
 unfold B0y at h
 refine PC.start Tryz.func57 Tryz.ntmps57 rfl ok57 rfl ?_
 refine Run.sr (X.bx ?_)
 refine X.an ?_
 refine Run.sr (X.lc shp34 ?_)
 refine X.ld shp75 ?_
 obtain ⟨v1,hv1,h⟩:=bindE h
 refine X.cp (X0e _ _ _ hv1) ?_
 refine X.un (h:=?_)
 refine X.an ?_
 cases h
 refine R.f1 Tryz.results57 ?_
 rfl
theorem T0f (b0:List TLink)(g1:TLink→Option Bool)(g1id:Nat)(g1c:List PV)(hg1:∀(x0:TLink) v,g1 x0=some v→PC Tryz.prog g1id ([A0l x0] ++ g1c) (bool v))(r:Int)(h:F0u b0 g1=some r):PC Tryz.prog 95 [.slice (b0.map A0l),.fn g1id g1c] (int r):=by
 unfold F0u at h
 refine PC.start Tryz.func95 Tryz.ntmps95 rfl ok95 rfl ?_
 refine Run.sr (X.an ?_)
 refine Run.seq (Run.sr (X.mv ?_))
 refine X.ls elt31 ?_
 refine X.mn ?_
 obtain ⟨o1,ho1,h⟩:=bindE h
 refine R.join2 (β:=Unit) [] [] (fun p14 S=>S) (fun p14 M=>M) (fun p14=>(Sum.inl p14)=o1) ?_ ?_
 ·intro JJ4 hmeet3
  have hup2:=h;clear h;have h:=ho1;clear ho1
  refine Run.block ?_
  refine R.bndS (t:=0) (by rfl) (fun hbd7=>?_)
  replace hbd7:b0.length≤9223372036854775807:=by first | (rw [List.length_map] at hbd7;exact hbd7) | simp
  refine R.lp (β:=Int) [(0,.slice (b0.map A0l)),(1,.fn g1id g1c),(7,int (b0.length:Int))] [] (fun bb S=>(8,int bb)::S) (fun bb M=>M) (fun n bb=>0≤bb∧bb+n=(b0.length:Int)∧B0k g1 (b0.drop bb.toNat) bb=some o1) b0.length (0:Int) ⟨Int.le_refl _,by simp,h⟩ ?_
  clear h
  rintro JJ7 n7 z8 hag7 ⟨hza7,hzb7,h⟩
  refine Run.sr (X.bi ?_)
  refine X.nil (Run.seq ?_)
  refine R.cd (fun hc11=>?_) (fun hc11=>?_)
  ·obtain ⟨x9,xs10,hd7,hx7,hds7,hlt7⟩:=A0k hza7 hc11
   rw [hd7] at h
   rw [B0k] at h
   refine Run.skip (Run.seq (Run.block (Run.sr (X.mv ?_))))
   refine X.an ?_
   refine Run.sr (X.mv ?_)
   refine X.mv ?_
   refine X.mv ?_
   refine X.ix elt31 (A0a hx7).1 (A0c A0l hx7) ?_
   refine X.lc shp75 ?_
   obtain ⟨v12,hv12,h⟩:=bindE h
   refine X.cp (hg1 _ _ hv12) ?_
   refine X.nil ?_
   refine R.cd (fun hc13=>?_) (fun hc13=>?_)
   ·replace h:=condT hc13 h
    refine Run.sr (X.mv ?_)
    refine X.an ?_
    cases h
    have h:=hup2
    replace h:=elimR h
    cases h
    refine R.f1 Tryz.results95 ?_
    rfl
   replace h:=condF hc13 h
   refine Run.skip (Run.blk (Run.reg (X.ad ?_)))
   refine X.mn ?_
   exact R.ag hag7 (n7 - 1) (z8+1) (R.n3 (by first | (rw [hds7];exact h) | (dsimp only;rw [hds7];exact h)))
  rw [A0h hza7 hc11] at h
  rw [B0k] at h
  refine Run.exit (by rfl) ?_
  exact R.mt hmeet3 () (Option.some.inj h)
 rintro p14 rfl
 replace h:=elimL h
 refine Run.sr (X.an ?_)
 cases h
 refine R.f1 Tryz.results95 ?_
 rfl
theorem R0n (b0:List TLink)(g1:TLink→Option Bool)(g1id:Nat)(g1c:List PV)(hg1:∀(x0:TLink) v,g1 x0=some v→PC Tryz.prog g1id ([A0l x0] ++ g1c) (bool v))(r:Bool)(h:C0o b0 g1=some r):PC Tryz.prog 56 [.slice (b0.map A0l),.fn g1id g1c] (bool r):=by
 unfold C0o at h
 refine PC.start Tryz.func56 Tryz.ntmps56 rfl ok56 rfl ?_
 refine Run.sr (X.an ?_)
 refine Run.sr (X.mv ?_)
 refine X.mv ?_
 obtain ⟨v1,hv1,h⟩:=bindE h
 refine X.cp (T0f _ g1 _ _ hg1 _ hv1) ?_
 refine X.bi ?_
 refine X.an ?_
 cases h
 refine R.f1 Tryz.results56 ?_
 rfl
theorem F0d (b0:A0b)(r:Bool)(h:E0c b0=some r):PC Tryz.prog 24 [A0n b0] (bool r):=by
 unfold E0c at h
 refine PC.start Tryz.func24 Tryz.ntmps24 rfl ok24 rfl ?_
 refine Run.sr (X.bx ?_)
 refine X.an ?_
 refine Run.seq (Run.seq ?_)
 obtain ⟨v1,hv1,h⟩:=bindE h
 obtain ⟨e2,he2,h2⟩:=bindE h
 refine R.regG [(1,.lptr 64 0),(37,bool e2)] [(64,.blk true [int b0.Deadline,.slice (b0.Activities.map A0d),.slice (b0.Links.map A0l),.slice (b0.Resources.map A0e),.slice (b0.Stocks.map int)])] ?_ ?_
 ·clear h;have h:=he2;clear he2 h2
  refine X.fl W0y ?_
  refine X.ld shp3 ?_
  refine X.cp (C0j _ _ _ _ hv1) ?_
  refine X.un (h:=?_)
  refine X.mv ?_
  refine X.iG (fun hb3=>?_) (fun hb3=>?_)
  ·replace h:=condF hb3 h
   refine X.fl B0l ?_
   refine X.gy (X.ld shp30 ?_)
   refine X.gy (X.ls elt30 ?_)
   refine X.gy ?_
   obtain ⟨v4,hv4,h⟩:=bindE h
   refine X.cp (C0j _ _ _ _ hv4) ?_
   refine X.gy (X.un (h:=?_))
   refine X.pF ?_
   refine X.mv ?_
   refine X.iG (fun hb5=>?_) (fun hb5=>?_)
   ·replace h:=condF hb5 h
    refine X.fl H0o ?_
    refine X.gy (X.ld shp32 ?_)
    refine X.gy (X.ls elt32 ?_)
    refine X.gy (X.bi ?_)
    refine X.pF ?_
    refine X.mv ?_
    refine X.iG (fun hb6=>?_) (fun hb6=>?_)
    ·replace h:=condF hb6 h
     refine X.fl T0n ?_
     refine X.gy (X.ld shp25 ?_)
     refine X.gy (X.ls elt25 ?_)
     refine X.gy (X.bi ?_)
     refine X.pF ?_
     refine X.mv ?_
     refine X.iG (fun hb7=>?_) (fun hb7=>?_)
     ·replace h:=condF hb7 h
      refine X.fl J0h ?_
      refine X.gy (X.ld shp31 ?_)
      refine X.gy (X.ls elt31 ?_)
      refine X.gy (X.bi ?_)
      refine X.pF ?_
      cases h
      exact X.eG
     replace h:=condT hb7 h
     refine X.gn (X.gn (X.gn (X.pT ?_)))
     cases h
     exact X.eG
    replace h:=condT hb6 h
    refine X.gn (X.gn (X.gn (X.pT ?_)))
    refine X.mv ?_
    refine X.gn (X.gn (X.gn (X.gn (X.pT ?_))))
    cases h
    exact X.eG
   replace h:=condT hb5 h
   refine X.gn (X.gn (X.gn (X.pT ?_)))
   refine X.mv ?_
   refine X.gn (X.gn (X.gn (X.gn (X.pT ?_))))
   refine X.mv ?_
   refine X.gn (X.gn (X.gn (X.gn (X.pT ?_))))
   cases h
   exact X.eG
  replace h:=condT hb3 h
  refine X.gn (X.gn (X.gn (X.gn (X.pT ?_))))
  refine X.mv ?_
  refine X.gn (X.gn (X.gn (X.gn (X.pT ?_))))
  refine X.mv ?_
  refine X.gn (X.gn (X.gn (X.gn (X.pT ?_))))
  refine X.mv ?_
  refine X.gn (X.gn (X.gn (X.gn (X.pT ?_))))
  cases h
  exact X.eG
 replace h:=h2;clear h2
 refine R.cd (fun hc8=>?_) (fun hc8=>?_)
 ·replace h:=condT hc8 h
  refine Run.sr (X.an ?_)
  cases h
  refine R.f1 Tryz.results24 ?_
  rfl
 replace h:=condF hc8 h
 refine Run.skip (Run.seq (Run.sr (X.fl B0l ?_)))
 refine X.ld shp30 ?_
 refine X.ls elt30 ?_
 refine X.mn ?_
 obtain ⟨o9,ho9,h⟩:=bindE h
 refine R.join2 (β:=Unit) [(1,.lptr 64 0)] [(64,.blk true [int b0.Deadline,.slice (b0.Activities.map A0d),.slice (b0.Links.map A0l),.slice (b0.Resources.map A0e),.slice (b0.Stocks.map int)])] (fun p25 S=>S) (fun p25 M=>M) (fun p25=>(Sum.inl p25)=o9) ?_ ?_
 ·intro JJ12 hmeet11
  have hup10:=h;clear h;have h:=ho9;clear ho9
  refine Run.block ?_
  refine R.bndS (t:=39) (by rfl) (fun hbd15=>?_)
  replace hbd15:b0.Activities.length≤9223372036854775807:=by first | (rw [List.length_map] at hbd15;exact hbd15) | simp
  refine R.lp (β:=Int) [(1,.lptr 64 0),(39,.slice (b0.Activities.map A0d)),(40,int (b0.Activities.length:Int))] [(64,.blk true [int b0.Deadline,.slice (b0.Activities.map A0d),.slice (b0.Links.map A0l),.slice (b0.Resources.map A0e),.slice (b0.Stocks.map int)])] (fun bb S=>(41,int bb)::S) (fun bb M=>M) (fun n bb=>0≤bb∧bb+n=(b0.Activities.length:Int)∧H0u b0 (b0.Activities.drop bb.toNat) bb=some o9) b0.Activities.length (0:Int) ⟨Int.le_refl _,by simp,h⟩ ?_
  clear h
  rintro JJ15 n15 z16 hag15 ⟨hza15,hzb15,h⟩
  refine Run.sr (X.bi ?_)
  refine X.nil (Run.seq ?_)
  refine R.cd (fun hc19=>?_) (fun hc19=>?_)
  ·obtain ⟨x17,xs18,hd15,hx15,hds15,hlt15⟩:=A0k hza15 hc19
   rw [hd15] at h
   rw [H0u] at h
   refine Run.skip (Run.seq (Run.block (Run.sr (X.mv ?_))))
   refine X.ix elt30 (A0a hx15).1 (A0c A0d hx15) ?_
   refine X.lc shp67 ?_
   refine X.alloc zer67 (h:=?_)
   refine X.as ?_
   refine X.sl shp67 ?_
   refine X.nil (Run.seq ?_)
   obtain ⟨v20,hv20,h⟩:=bindE h
   obtain ⟨e21,he21,h2⟩:=bindE h
   refine R.regG [(1,.lptr 64 0),(39,.slice (b0.Activities.map A0d)),(40,int (b0.Activities.length:Int)),(41,int z16),(62,bool e21)] [(64,.blk true [int b0.Deadline,.slice (b0.Activities.map A0d),.slice (b0.Links.map A0l),.slice (b0.Resources.map A0e),.slice (b0.Stocks.map int)])] ?_ ?_
   ·clear h;have h:=he21;clear he21 h2
    refine X.ld shp67 ?_
    refine X.fl H0o ?_
    refine X.ld shp32 ?_
    refine X.ls elt32 ?_
    refine X.fl T0n ?_
    refine X.ld shp25 ?_
    refine X.ls elt25 ?_
    refine X.cp (E1g _ _ _ _ hv20) ?_
    refine X.un (h:=?_)
    refine X.mv ?_
    refine X.iG (fun hb22=>?_) (fun hb22=>?_)
    ·replace h:=condF hb22 h
     refine X.ld shp34 ?_
     refine X.gy (X.fl T0r ?_)
     refine X.gy (X.ld shp9 ?_)
     refine X.gy ?_
     obtain ⟨v23,hv23,h⟩:=bindE h
     refine X.cp (Y0x _ _ _ hv23) ?_
     refine X.gy (X.mv ?_)
     refine X.gy (X.bi ?_)
     refine X.pF ?_
     cases h
     exact X.eG
    replace h:=condT hb22 h
    refine X.gn (X.gn (X.gn (X.gn (X.gn (X.pT ?_)))))
    cases h
    exact X.eG
   replace h:=h2;clear h2
   refine R.cd (fun hc24=>?_) (fun hc24=>?_)
   ·replace h:=condT hc24 h
    refine Run.sr (X.an ?_)
    cases h
    have h:=hup10
    replace h:=elimR h
    cases h
    refine R.f1 Tryz.results24 ?_
    rfl
   replace h:=condF hc24 h
   refine Run.skip (Run.blk (Run.reg (X.ad ?_)))
   refine X.mn ?_
   exact R.ag hag15 (n15 - 1) (z16+1) (R.n3 (by first | (rw [hds15];exact h) | (dsimp only;rw [hds15];exact h)))
  rw [A0h hza15 hc19] at h
  rw [H0u] at h
  refine Run.exit (by rfl) ?_
  exact R.mt hmeet11 () (Option.some.inj h)
 rintro p25 rfl
 replace h:=elimL h
 refine Run.seq (Run.sr (X.fl H0o ?_))
 refine X.ld shp32 ?_
 refine X.ls elt32 ?_
 refine X.mn ?_
 obtain ⟨o27,ho27,h⟩:=bindE h
 refine R.join2 (β:=Unit) [(1,.lptr 64 0)] [(64,.blk true [int b0.Deadline,.slice (b0.Activities.map A0d),.slice (b0.Links.map A0l),.slice (b0.Resources.map A0e),.slice (b0.Stocks.map int)])] (fun p40 S=>S) (fun p40 M=>M) (fun p40=>(Sum.inl p40)=o27) ?_ ?_
 ·intro JJ30 hmeet29
  have hup28:=h;clear h;have h:=ho27;clear ho27
  refine Run.block ?_
  refine R.bndS (t:=65) (by rfl) (fun hbd33=>?_)
  replace hbd33:b0.Resources.length≤9223372036854775807:=by first | (rw [List.length_map] at hbd33;exact hbd33) | simp
  refine R.lp (β:=Int) [(1,.lptr 64 0),(65,.slice (b0.Resources.map A0e)),(66,int (b0.Resources.length:Int))] [(64,.blk true [int b0.Deadline,.slice (b0.Activities.map A0d),.slice (b0.Links.map A0l),.slice (b0.Resources.map A0e),.slice (b0.Stocks.map int)])] (fun bb S=>(67,int bb)::S) (fun bb M=>M) (fun n bb=>0≤bb∧bb+n=(b0.Resources.length:Int)∧H0v (b0.Resources.drop bb.toNat) bb=some o27) b0.Resources.length (0:Int) ⟨Int.le_refl _,by simp,h⟩ ?_
  clear h
  rintro JJ33 n33 z34 hag33 ⟨hza33,hzb33,h⟩
  refine Run.sr (X.bi ?_)
  refine X.nil (Run.seq ?_)
  refine R.cd (fun hc37=>?_) (fun hc37=>?_)
  ·obtain ⟨x35,xs36,hd33,hx33,hds33,hlt33⟩:=A0k hza33 hc37
   rw [hd33] at h
   rw [H0v] at h
   refine Run.skip (Run.seq (Run.block (Run.sr (X.ix elt32 (A0a hx33).1 (A0c A0e hx33) ?_))))
   refine X.lc shp72 ?_
   refine X.alloc zer72 (h:=?_)
   refine X.sl shp72 ?_
   refine X.nil (Run.sr (X.ld shp72 ?_))
   obtain ⟨v38,hv38,h⟩:=bindE h
   refine X.cp (E1b _ _ hv38) ?_
   refine X.un (h:=?_)
   refine X.nil ?_
   refine R.cd (fun hc39=>?_) (fun hc39=>?_)
   ·replace h:=condT hc39 h
    refine Run.sr (X.an ?_)
    cases h
    have h:=hup28
    replace h:=elimR h
    cases h
    refine R.f1 Tryz.results24 ?_
    rfl
   replace h:=condF hc39 h
   refine Run.skip (Run.blk (Run.reg (X.ad ?_)))
   refine X.mn ?_
   exact R.ag hag33 (n33 - 1) (z34+1) (R.n3 (by first | (rw [hds33];exact h) | (dsimp only;rw [hds33];exact h)))
  rw [A0h hza33 hc37] at h
  rw [H0v] at h
  refine Run.exit (by rfl) ?_
  exact R.mt hmeet29 () (Option.some.inj h)
 rintro p40 rfl
 replace h:=elimL h
 refine Run.seq (Run.sr (X.fl T0n ?_))
 refine X.ld shp25 ?_
 refine X.ls elt25 ?_
 refine X.mn ?_
 obtain ⟨o42,ho42,h⟩:=bindE h
 refine R.join2 (β:=Unit) [(1,.lptr 64 0)] [(64,.blk true [int b0.Deadline,.slice (b0.Activities.map A0d),.slice (b0.Links.map A0l),.slice (b0.Resources.map A0e),.slice (b0.Stocks.map int)])] (fun p55 S=>S) (fun p55 M=>M) (fun p55=>(Sum.inl p55)=o42) ?_ ?_
 ·intro JJ45 hmeet44
  have hup43:=h;clear h;have h:=ho42;clear ho42
  refine Run.block ?_
  refine R.bndS (t:=76) (by rfl) (fun hbd48=>?_)
  replace hbd48:b0.Stocks.length≤9223372036854775807:=by first | (rw [List.length_map] at hbd48;exact hbd48) | simp
  refine R.lp (β:=Int) [(1,.lptr 64 0),(76,.slice (b0.Stocks.map int)),(77,int (b0.Stocks.length:Int))] [(64,.blk true [int b0.Deadline,.slice (b0.Activities.map A0d),.slice (b0.Links.map A0l),.slice (b0.Resources.map A0e),.slice (b0.Stocks.map int)])] (fun bb S=>(78,int bb)::S) (fun bb M=>M) (fun n bb=>0≤bb∧bb+n=(b0.Stocks.length:Int)∧J0c (b0.Stocks.drop bb.toNat) bb=some o42) b0.Stocks.length (0:Int) ⟨Int.le_refl _,by simp,h⟩ ?_
  clear h
  rintro JJ48 n48 z49 hag48 ⟨hza48,hzb48,h⟩
  refine Run.sr (X.bi ?_)
  refine X.nil (Run.seq ?_)
  refine R.cd (fun hc52=>?_) (fun hc52=>?_)
  ·obtain ⟨x50,xs51,hd48,hx48,hds48,hlt48⟩:=A0k hza48 hc52
   rw [hd48] at h
   rw [J0c] at h
   refine Run.skip (Run.seq (Run.block (Run.sr (X.ix elt25 (A0a hx48).1 (A0c int hx48) ?_))))
   refine X.lc shp3 ?_
   refine X.an ?_
   refine Run.sr (X.mv ?_)
   obtain ⟨v53,hv53,h⟩:=bindE h
   refine X.cp (C0j _ _ _ _ hv53) ?_
   refine X.un (h:=?_)
   refine X.nil ?_
   refine R.cd (fun hc54=>?_) (fun hc54=>?_)
   ·replace h:=condT hc54 h
    refine Run.sr (X.an ?_)
    cases h
    have h:=hup43
    replace h:=elimR h
    cases h
    refine R.f1 Tryz.results24 ?_
    rfl
   replace h:=condF hc54 h
   refine Run.skip (Run.blk (Run.reg (X.ad ?_)))
   refine X.mn ?_
   exact R.ag hag48 (n48 - 1) (z49+1) (R.n3 (by first | (rw [hds48];exact h) | (dsimp only;rw [hds48];exact h)))
  rw [A0h hza48 hc52] at h
  rw [J0c] at h
  refine Run.exit (by rfl) ?_
  exact R.mt hmeet44 () (Option.some.inj h)
 rintro p55 rfl
 replace h:=elimL h
 refine Run.seq ?_
 refine R.pubBlk (n:=64) (by rfl) (by rfl) (by repeat (first | trivial | refine ⟨by first | rfl | simp [setL],?_⟩)) ?_
 refine Run.reg (X.fl J0h ?_)
 refine X.ld shp31 ?_
 refine X.makeFunc (by rfl) (by rfl) (by repeat (first | trivial | refine ⟨by first | rfl | simp [setL],?_⟩)) (by rfl) (by rfl) ?_
 obtain ⟨v57,hv57,h⟩:=bindE h
 refine X.cp (R0n _ (fun x0=>B0y x0 b0) _ _ (fun x0 v hv=>Z0v _ _ _ hv) _ hv57) ?_
 refine X.un (h:=?_)
 refine X.an ?_
 cases h
 refine R.f1 Tryz.results24 ?_
 rfl
theorem Y0g (b0:Int)(r:List Int)(h:P0a b0=some r):PC Tryz.prog 103 [int b0] (.fresh false 3 1 (r.map int)):=by
 unfold P0a at h
 refine PC.start Tryz.func103 Tryz.ntmps103 rfl ok103 rfl ?_
 refine Run.sr (X.an ?_)
 refine Run.seq (Run.sr (X.mv ?_))
 obtain ⟨v1,hv1,h⟩:=bindE h
 refine X.cp (C0j _ _ _ _ hv1) ?_
 refine X.un (h:=?_)
 refine X.nil ?_
 refine R.cd (fun hc2=>?_) (fun hc2=>?_)
 ·replace h:=condT hc2 h
  refine Run.sr (X.an ?_)
  cases h
  refine R.fin1n (x:=false) (e:=3) (sz:=1) Tryz.results103 (by rfl) (by decide) ?_
  rfl
 replace h:=condF hc2 h
 refine Run.skip (Run.sr ?_)
 refine X.buildSlice false elt25 zer3 (by rfl) (by rfl) (by rfl) (by rfl) (by rfl) (by rfl) (by repeat (first | trivial | refine ⟨by first | rfl | simp [setL],?_⟩)) (A0o (by rfl)) (by rfl) (by rfl) (by rfl) ?_
 refine X.an ?_
 refine Run.seq (Run.sr (X.mv ?_))
 refine X.mn ?_
 obtain ⟨o3,ho3,h⟩:=bindE h
 refine R.join2 (β:=(List Int)) [] [] (fun p15 S=>(3,.own 512 (p15.map int).length)::S) (fun p15 M=>(512,.obj false 3 1 (p15.map int))::M) (fun p15=>p15=o3) ?_ ?_
 ·intro JJ6 hmeet5
  have hup4:=h;clear h;have h:=ho3;clear ho3
  refine Run.block ?_
  refine R.lp (β:=Int×(List Int)) [(9,int b0)] [] (fun bb S=>(3,.own 512 (bb.2.map int).length)::(10,int bb.1)::S) (fun bb M=>(512,.obj false 3 1 (bb.2.map int))::M) (fun n bb=>K0a b0 n bb.1 bb.2=some o3) F0 (0,([]:List Int)) h ?_
  clear h
  rintro JJ7 n7 ⟨a9,a10⟩ hag7 h
  dsimp only at h
  obtain _ | n7:=n7
  ·exact absurd h (by simp [K0a])
  rw [K0a] at h
  refine Run.sr (X.bi ?_)
  refine X.nil (Run.seq ?_)
  refine R.cd (fun hc13=>?_) (fun hc13=>?_)
  ·replace h:=condT hc13 h
   refine Run.skip (Run.seq (Run.block (Run.sr (X.mv ?_))))
   refine X.an ?_
   refine Run.reg (X.mv ?_)
   refine X.mv ?_
   refine X.buildSlice false elt25 zer3 (by rfl) (by rfl) (by rfl) (by rfl) (by rfl) (by rfl) (by repeat (first | trivial | refine ⟨by first | rfl | simp [setL],?_⟩)) (A0o (by rfl)) (by rfl) (by rfl) (by rfl) ?_
   obtain ⟨v14,hv14,h⟩:=bindE h
   refine X.append elt25 zer3 (by rfl) (by rfl) (by first | rfl | simp [setL] | omega) (by rfl) (.own _ _ _ _ _ _ (A0g (by rfl)) (by first | rfl | simp [setL] | omega)) (A0o (by rfl)) (E0l int hv14) (E0k int hv14) (by rfl) (by rfl) (by rfl) (by rfl) ?_
   refine X.an ?_
   refine Run.blk (Run.reg (X.addW (h:=?_)))
   refine X.mn ?_
   exact hag7 n7 ((W (a9+1)),v14) _ _ (by omega) h (by repeat (first | trivial | refine ⟨by first | rfl | simp [setL],?_⟩)) (by repeat (first | trivial | refine ⟨by first | rfl | simp [setL],?_⟩)) (by rfl) (by rfl)
  replace h:=condF hc13 h
  refine Run.exit (by rfl) ?_
  exact R.mt hmeet5 a10 (Option.some.inj h)
 rintro p15 rfl
 refine Run.sr (X.mv ?_)
 refine X.an ?_
 cases h
 refine R.fin1o Tryz.results103 (by rfl) (by rfl) (by first | rfl | simp [setL] | omega) ?_
 rfl
theorem K0d (b0:A0f)(r:List Int)(h:G0h b0=some r):PC Tryz.prog 62 [A0d b0] (.fresh false 3 1 (r.map int)):=by
 unfold G0h at h
 refine PC.start Tryz.func62 Tryz.ntmps62 rfl ok62 rfl ?_
 refine Run.sr (X.bx ?_)
 refine X.an ?_
 refine Run.sr (X.fl Q0e ?_)
 refine X.ld shp65 ?_
 refine X.ls elt65 ?_
 obtain ⟨v1,hv1,h⟩:=bindE h
 refine X.callF (Y0g _ _ hv1) (by rfl) (by rfl) (by rfl) (by trivial) (by rfl) (by rfl) (by rfl) (by rfl) ?_
 refine X.an ?_
 cases h
 refine R.fin1o Tryz.results62 (by rfl) (by rfl) (by first | rfl | simp [setL] | omega) ?_
 rfl
theorem X0b (b0:List Int)(b1:Int)(r:Int)(h:K0b b0 b1=some r):PC Tryz.prog 167 [.slice (b0.map int),int b1] (int r):=by
 unfold K0b at h
 refine PC.start Tryz.func167 Tryz.ntmps167 rfl ok167 rfl ?_
 refine Run.sr (X.an ?_)
 refine Run.seq (Run.sr (X.mv ?_))
 refine X.ls elt25 ?_
 refine X.mn ?_
 obtain ⟨o1,ho1,h⟩:=bindE h
 refine R.join2 (β:=Unit) [] [] (fun p13 S=>S) (fun p13 M=>M) (fun p13=>(Sum.inl p13)=o1) ?_ ?_
 ·intro JJ4 hmeet3
  have hup2:=h;clear h;have h:=ho1;clear ho1
  refine Run.block ?_
  refine R.bndS (t:=0) (by rfl) (fun hbd7=>?_)
  replace hbd7:b0.length≤9223372036854775807:=by first | (rw [List.length_map] at hbd7;exact hbd7) | simp
  refine R.lp (β:=Int) [(0,.slice (b0.map int)),(1,int b1),(7,int (b0.length:Int))] [] (fun bb S=>(8,int bb)::S) (fun bb M=>M) (fun n bb=>0≤bb∧bb+n=(b0.length:Int)∧C0b b1 (b0.drop bb.toNat) bb=some o1) b0.length (0:Int) ⟨Int.le_refl _,by simp,h⟩ ?_
  clear h
  rintro JJ7 n7 z8 hag7 ⟨hza7,hzb7,h⟩
  refine Run.sr (X.bi ?_)
  refine X.nil (Run.seq ?_)
  refine R.cd (fun hc11=>?_) (fun hc11=>?_)
  ·obtain ⟨x9,xs10,hd7,hx7,hds7,hlt7⟩:=A0k hza7 hc11
   rw [hd7] at h
   rw [C0b] at h
   refine Run.skip (Run.seq (Run.block (Run.sr (X.mv ?_))))
   refine X.an ?_
   refine Run.sr (X.mv ?_)
   refine X.mv ?_
   refine X.mv ?_
   refine X.ix elt25 (A0a hx7).1 (A0c int hx7) ?_
   refine X.lc shp3 ?_
   refine X.bi ?_
   refine X.nil ?_
   refine R.cd (fun hc12=>?_) (fun hc12=>?_)
   ·replace h:=condT hc12 h
    refine Run.sr (X.mv ?_)
    refine X.an ?_
    cases h
    have h:=hup2
    replace h:=elimR h
    cases h
    refine R.f1 Tryz.results167 ?_
    rfl
   replace h:=condF hc12 h
   refine Run.skip (Run.blk (Run.reg (X.ad ?_)))
   refine X.mn ?_
   exact R.ag hag7 (n7 - 1) (z8+1) (R.n3 (by first | (rw [hds7];exact h) | (dsimp only;rw [hds7];exact h)))
  rw [A0h hza7 hc11] at h
  rw [C0b] at h
  refine Run.exit (by rfl) ?_
  exact R.mt hmeet3 () (Option.some.inj h)
 rintro p13 rfl
 replace h:=elimL h
 refine Run.sr (X.an ?_)
 cases h
 refine R.f1 Tryz.results167 ?_
 rfl
theorem N0p (b0:List Int)(b1:Int)(r:Bool)(h:D0f b0 b1=some r):PC Tryz.prog 153 [.slice (b0.map int),int b1] (bool r):=by
 unfold D0f at h
 refine PC.start Tryz.func153 Tryz.ntmps153 rfl ok153 rfl ?_
 refine Run.sr (X.an ?_)
 refine Run.sr (X.mv ?_)
 refine X.mv ?_
 obtain ⟨v1,hv1,h⟩:=bindE h
 refine X.cp (X0b _ _ _ hv1) ?_
 refine X.bi ?_
 refine X.an ?_
 cases h
 refine R.f1 Tryz.results153 ?_
 rfl
theorem C1j (b0:List Int)(b1:Int)(r:Bool)(h:S0f b0 b1=some r):PC Tryz.prog 132 [.slice (b0.map int),int b1] (bool r):=by
 unfold S0f at h
 refine PC.start Tryz.func132 Tryz.ntmps132 rfl ok132 rfl ?_
 refine Run.sr (X.an ?_)
 refine Run.sr (X.mv ?_)
 refine X.mv ?_
 obtain ⟨v1,hv1,h⟩:=bindE h
 refine X.cp (N0p _ _ _ hv1) ?_
 refine X.an ?_
 cases h
 refine R.f1 Tryz.results132 ?_
 rfl
theorem X0i (b0:A0f)(b1:List Int)(r:List TMode)(h:U0d b0 b1=some r):PC Tryz.prog 100 [A0d b0,.slice (b1.map int)] (.fresh false 111 3 (r.map B0f)):=by
 unfold U0d at h
 refine PC.start Tryz.func100 Tryz.ntmps100 rfl ok100 rfl ?_
 refine Run.sr (X.bx ?_)
 refine X.an ?_
 refine Run.sr ?_
 refine X.buildSlice false elt65 S0x (by rfl) (by rfl) (by rfl) (by rfl) (by rfl) (by rfl) (by repeat (first | trivial | refine ⟨by first | rfl | simp [setL],?_⟩)) (A0o (by rfl)) (by rfl) (by rfl) (by rfl) ?_
 refine X.an ?_
 refine Run.seq (Run.sr (X.fl Q0e ?_))
 refine X.ld shp65 ?_
 refine X.ls elt65 ?_
 refine X.mn ?_
 obtain ⟨o1,ho1,h⟩:=bindE h
 refine R.join2 (β:=(List TMode)) [] [] (fun p16 S=>(5,.own 512 (p16.map B0f).length)::S) (fun p16 M=>(512,.obj false 111 3 (p16.map B0f))::M) (fun p16=>p16=o1) ?_ ?_
 ·intro JJ4 hmeet3
  have hup2:=h;clear h;have h:=ho1;clear ho1
  refine Run.block ?_
  refine R.bndS (t:=10) (by rfl) (fun hbd7=>?_)
  replace hbd7:b0.Modes.length≤9223372036854775807:=by first | (rw [List.length_map] at hbd7;exact hbd7) | simp
  refine R.lp (β:=Int×(List TMode)) [(1,.slice (b1.map int)),(10,.slice (b0.Modes.map B0f)),(11,int (b0.Modes.length:Int))] [] (fun bb S=>(5,.own 512 (bb.2.map B0f).length)::(12,int bb.1)::S) (fun bb M=>(512,.obj false 111 3 (bb.2.map B0f))::M) (fun n bb=>0≤bb.1∧bb.1+n=(b0.Modes.length:Int)∧J0u b1 (b0.Modes.drop bb.1.toNat) bb.1 bb.2=some o1) b0.Modes.length (0,([]:List TMode)) ⟨Int.le_refl _,by simp,h⟩ ?_
  clear h
  rintro JJ7 n7 ⟨z8,a9⟩ hag7 ⟨hza7,hzb7,h⟩
  dsimp only at hza7 hzb7 h
  refine Run.sr (X.bi ?_)
  refine X.nil (Run.seq ?_)
  refine R.cd (fun hc12=>?_) (fun hc12=>?_)
  ·obtain ⟨x10,xs11,hd7,hx7,hds7,hlt7⟩:=A0k hza7 hc12
   rw [hd7] at h
   rw [J0u] at h
   refine Run.skip (Run.seq (Run.block (Run.sr (X.mv ?_))))
   refine X.ix elt65 (A0a hx7).1 (A0c B0f hx7) ?_
   refine X.lc K0p ?_
   refine X.alloc S0x (h:=?_)
   refine X.as ?_
   refine X.sl K0p ?_
   refine X.nil (Run.sr (X.mv ?_))
   refine X.mv ?_
   obtain ⟨v13,hv13,h⟩:=bindE h
   refine X.cp (C1j _ _ _ hv13) ?_
   refine X.nil ?_
   refine R.cd (fun hc14=>?_) (fun hc14=>?_)
   ·replace h:=condT hc14 h
    refine Run.reg (X.mv ?_)
    refine X.ld K0p ?_
    refine X.buildSlice false elt65 S0x (by rfl) (by rfl) (by rfl) (by rfl) (by rfl) (by rfl) (by repeat (first | trivial | refine ⟨by first | rfl | simp [setL],?_⟩)) (A0o (by rfl)) (by rfl) (by rfl) (by rfl) ?_
    obtain ⟨v15,hv15,h⟩:=bindE h
    refine X.append elt65 S0x (by rfl) (by rfl) (by first | rfl | simp [setL] | omega) (by rfl) (.own _ _ _ _ _ _ (A0g (by rfl)) (by first | rfl | simp [setL] | omega)) (A0o (by rfl)) (E0l B0f hv15) (E0k B0f hv15) (by rfl) (by rfl) (by rfl) (by rfl) ?_
    refine X.an ?_
    refine Run.blk (Run.reg (X.ad ?_))
    refine X.mn ?_
    exact R.ag hag7 (n7 - 1) (z8+1,v15) (R.n3 (by first | (rw [hds7];exact h) | (dsimp only;rw [hds7];exact h)))
   replace h:=condF hc14 h
   refine Run.skip (Run.blk (Run.reg (X.ad ?_)))
   refine X.mn ?_
   exact R.ag hag7 (n7 - 1) (z8+1,a9) (R.n3 (by first | (rw [hds7];exact h) | (dsimp only;rw [hds7];exact h)))
  rw [A0h hza7 hc12] at h
  rw [J0u] at h
  refine Run.exit (by rfl) ?_
  exact R.mt hmeet3 a9 (Option.some.inj h)
 rintro p16 rfl
 refine Run.sr (X.mv ?_)
 refine X.an ?_
 cases h
 refine R.fin1o Tryz.results100 (by rfl) (by rfl) (by first | rfl | simp [setL] | omega) ?_
 rfl
theorem P0x (b0:A0f)(b1:List Int)(r:Int)(h:H0l b0 b1=some r):PC Tryz.prog 98 [A0d b0,.slice (b1.map int)] (int r):=by
 unfold H0l at h
 refine PC.start Tryz.func98 Tryz.ntmps98 rfl ok98 rfl ?_
 refine Run.sr (X.bx ?_)
 refine X.an ?_
 refine Run.sr (X.an ?_)
 refine Run.seq (Run.sr (X.ld shp67 ?_))
 refine X.mv ?_
 obtain ⟨v1,hv1,h⟩:=bindE h
 refine X.callF (X0i _ _ _ hv1) (by rfl) (by rfl) (by rfl) (by trivial) (by rfl) (by rfl) (by rfl) (by rfl) ?_
 refine X.len_o elt65 (by rfl) (by rfl) (by first | rfl | simp [setL] | omega) (by first | exact List.length_map .. | rfl) (by rfl) (by rfl) ?_
 refine X.mn ?_
 obtain ⟨o2,ho2,h⟩:=bindE h
 refine R.join2 (β:=Int) [] [] (fun p17 S=>(5,int p17)::S) (fun p17 M=>M) (fun p17=>p17=o2) ?_ ?_
 ·intro JJ5 hmeet4
  have hup3:=h;clear h;have h:=ho2;clear ho2
  refine Run.block ?_
  refine R.bndO (n:=640) (by rfl) (fun hbd8=>?_)
  replace hbd8:v1.length≤9223372036854775807:=by first | (rw [List.length_map] at hbd8;exact hbd8) | simp
  refine R.lp (β:=Int×Int) [(11,int (v1.length:Int))] [(640,.obj false 111 3 (v1.map B0f))] (fun bb S=>(5,int bb.2)::(10,.own 640 (v1.map B0f).length)::(12,int bb.1)::S) (fun bb M=>M) (fun n bb=>0≤bb.1∧bb.1+n=(v1.length:Int)∧D0d (v1.drop bb.1.toNat) bb.1 bb.2=some o2) v1.length (0,0) ⟨Int.le_refl _,by simp,h⟩ ?_
  clear h
  rintro JJ8 n8 ⟨z9,a10⟩ hag8 ⟨hza8,hzb8,h⟩
  dsimp only at hza8 hzb8 h
  refine Run.sr (X.bi ?_)
  refine X.nil (Run.seq ?_)
  refine R.cd (fun hc13=>?_) (fun hc13=>?_)
  ·obtain ⟨x11,xs12,hd8,hx8,hds8,hlt8⟩:=A0k hza8 hc13
   rw [hd8] at h
   rw [D0d] at h
   refine Run.skip (Run.seq (Run.block (Run.sr (X.mv ?_))))
   refine X.index_o elt65 (by rfl) (by rfl) (by first | rfl | simp [setL] | omega) (by rfl) (A0a hx8).1 (A0c B0f hx8) (by rfl) (by rfl) (by rfl) ?_
   refine X.lc K0p ?_
   refine X.alloc S0x (h:=?_)
   refine X.as ?_
   refine X.sl K0p ?_
   refine X.nil (Run.seq ?_)
   obtain ⟨e14,he14,h2⟩:=bindE h
   refine R.regG [(5,int a10),(7,.lptr 448 0),(10,.own 640 (v1.map B0f).length),(11,int (v1.length:Int)),(12,int z9),(24,bool e14)] [(448,.blk true [int x11.Duration,.slice (x11.Usage.map int),.slice (x11.Consumption.map int)]),(640,.obj false 111 3 (v1.map B0f))] ?_ ?_
   ·clear h;have h:=he14;clear he14 h2
    refine X.mv ?_
    refine X.bi ?_
    refine X.mv ?_
    refine X.iG (fun hb15=>?_) (fun hb15=>?_)
    ·replace h:=condF hb15 h
     refine X.fl N0k ?_
     refine X.gy (X.ld shp3 ?_)
     refine X.gy (X.mv ?_)
     refine X.gy (X.bi ?_)
     refine X.pF ?_
     cases h
     exact X.eG
    replace h:=condT hb15 h
    refine X.gn (X.gn (X.gn (X.pT ?_)))
    cases h
    exact X.eG
   replace h:=h2;clear h2
   refine R.cd (fun hc16=>?_) (fun hc16=>?_)
   ·replace h:=condT hc16 h
    refine Run.reg (X.fl N0k ?_)
    refine X.ld shp3 ?_
    refine X.an ?_
    refine Run.blk (Run.reg (X.ad ?_))
    refine X.mn ?_
    exact R.ag hag8 (n8 - 1) (z9+1,x11.Duration) (R.n3 (by first | (rw [hds8];exact h) | (dsimp only;rw [hds8];exact h)))
   replace h:=condF hc16 h
   refine Run.skip (Run.blk (Run.reg (X.ad ?_)))
   refine X.mn ?_
   exact R.ag hag8 (n8 - 1) (z9+1,a10) (R.n3 (by first | (rw [hds8];exact h) | (dsimp only;rw [hds8];exact h)))
  rw [A0h hza8 hc13] at h
  rw [D0d] at h
  refine Run.exit (by rfl) ?_
  exact R.mt hmeet4 a10 (Option.some.inj h)
 rintro p17 rfl
 refine Run.sr (X.mv ?_)
 refine X.an ?_
 cases h
 refine R.f1 Tryz.results98 ?_
 rfl
theorem C1a (b0:A0b)(b1:TLink)(b2:List Int)(r:Int)(h:N0c b0 b1 b2=some r):PC Tryz.prog 152 [A0n b0,A0l b1,.slice (b2.map int)] (int r):=by
 unfold N0c at h
 refine PC.start Tryz.func152 Tryz.ntmps152 rfl ok152 rfl ?_
 refine Run.sr (X.bx ?_)
 refine X.bx ?_
 refine X.an ?_
 refine Run.seq (Run.sr (X.fl C1h ?_))
 refine X.ld shp4 ?_
 refine X.nil ?_
 refine R.cd (fun hc1=>?_) (fun hc1=>?_)
 ·replace h:=condT hc1 h
  refine Run.seq (Run.draw (B0m [(1,([256],[],[],[])),(3,([192],[],[],[])),(5,([256],[],[],[]))]) mixed (by kernel_rfl) (by kernel_rfl) ?_)
  refine X.fl T0l ?_
  refine X.ld shp3 ?_
  refine X.fl B0l ?_
  refine X.ld shp30 ?_
  refine X.fl J0y ?_
  refine X.ld shp3 ?_
  obtain ⟨v2,hv2,h⟩:=bindE h
  refine X.ix elt30 (A0a hv2).1 (A0c A0d hv2) ?_
  refine X.lc shp67 ?_
  refine X.mv ?_
  obtain ⟨v3,hv3,h⟩:=bindE h
  refine X.cp (P0x _ _ _ hv3) ?_
  refine X.addW (h:=?_)
  refine X.an ?_
  cases h
  refine R.f1 Tryz.results152 ?_
  rfl
 replace h:=condF hc1 h
 refine Run.skip (Run.sr (X.fl T0l ?_))
 refine X.ld shp3 ?_
 refine X.an ?_
 cases h
 refine R.f1 Tryz.results152 ?_
 rfl
theorem L0s (b0:A0b)(b1:TLink)(r:Int)(h:D0h b0 b1=some r):PC Tryz.prog 131 [A0n b0,A0l b1] (int r):=by
 unfold D0h at h
 refine PC.start Tryz.func131 Tryz.ntmps131 rfl ok131 rfl ?_
 refine Run.sr (X.bx ?_)
 refine X.bx ?_
 refine X.an ?_
 refine Run.seq (Run.draw (B0m [(0,([128],[],[],[])),(1,([192],[],[],[])),(3,([128],[],[],[])),(5,([192],[],[],[])),(8,([],[832],[],[])),(9,([832],[],[],[]))]) mixed (by kernel_rfl) (by kernel_rfl) ?_)
 refine X.ld shp34 ?_
 refine X.ld shp75 ?_
 refine X.fl B0l ?_
 refine X.ld shp30 ?_
 refine X.fl J0y ?_
 refine X.ld shp3 ?_
 obtain ⟨v1,hv1,h⟩:=bindE h
 refine X.ix elt30 (A0a hv1).1 (A0c A0d hv1) ?_
 refine X.lc shp67 ?_
 obtain ⟨v2,hv2,h⟩:=bindE h
 refine X.callF (K0d _ _ hv2) (by rfl) (by rfl) (by rfl) (by trivial) (by rfl) (by rfl) (by rfl) (by rfl) ?_
 obtain ⟨v3,hv3,h⟩:=bindE h
 refine X.cp (C1a _ _ _ _ hv3) ?_
 refine X.an ?_
 cases h
 refine R.f1 Tryz.results131 ?_
 rfl
theorem M0j (b0:List Int)(r:List Int)(h:G0a b0=some r):PC Tryz.prog 166 [.slice (b0.map int)] (.fresh false 3 1 (r.map int)):=by
 unfold G0a at h
 refine PC.split (fun hl ad cap=>?_) (fun hl=>?_)
 ·refine PC.start Tryz.func166 Tryz.ntmps166 rfl ok166 rfl ?_
  refine Run.sr (X.an ?_)
  refine Run.seq (Run.sr (X.mv ?_))
  refine X.eqlNilL elt25 (by rfl) (by rfl) (by rfl) ?_
  refine X.nil ?_
  refine R.cd (fun hc=>?_) (fun hc=>?_)
  ·refine Run.sr (X.an ?_)
   refine R.fin1n (x:=false) (e:=3) (sz:=1) Tryz.results166 (by rfl) (by decide) ?_
   obtain ⟨q,hq,h⟩:=bindE h
   have hqr:=Option.some.inj h
   have hz:r=[]:=by rw [← hqr,(D1t hq).2,List.map_eq_nil_iff.1 hl];rfl
   rw [hz];rfl
  refine Run.skip (R.slice0 (t:=0) (l:=b0.map int) hl (by rfl) ?_)
  refine Run.sr ?_
  refine X.buildSlice false elt25 zer3 (by rfl) (by rfl) (by rfl) (by rfl) (by rfl) (by rfl) (by repeat (first | trivial | refine ⟨by first | rfl | simp [setL],?_⟩)) (A0o (by rfl)) (by rfl) (by rfl) (by rfl) ?_
  refine X.mv ?_
  obtain ⟨v1,hv1,h⟩:=bindE h
  refine X.append elt25 zer3 (by rfl) (by rfl) (by first | rfl | simp [setL] | omega) (by rfl) (.pure _) (by exact A0j (f:=int) (fun _=>rfl)) (E0l int hv1) (E0k int hv1) (by rfl) (by rfl) (by rfl) (by rfl) ?_
  refine X.an ?_
  cases h
  refine R.fin1o Tryz.results166 (by rfl) (by rfl) (by first | rfl | simp [setL] | omega) ?_
  rfl
 refine PC.start Tryz.func166 Tryz.ntmps166 rfl ok166 rfl ?_
 refine Run.sr (X.an ?_)
 refine Run.seq (Run.sr (X.mv ?_))
 refine X.eqlNilS elt25 (by rfl) (.pure _) (.inl hl) (by rfl) (by rfl) ?_
 refine X.nil (R.condF (b:=(b0.map int).isEmpty) (by simpa using hl) (by rfl) ?_)
 refine Run.skip (Run.sr ?_)
 refine X.buildSlice false elt25 zer3 (by rfl) (by rfl) (by rfl) (by rfl) (by rfl) (by rfl) (by repeat (first | trivial | refine ⟨by first | rfl | simp [setL],?_⟩)) (A0o (by rfl)) (by rfl) (by rfl) (by rfl) ?_
 refine X.mv ?_
 obtain ⟨v1,hv1,h⟩:=bindE h
 refine X.append elt25 zer3 (by rfl) (by rfl) (by first | rfl | simp [setL] | omega) (by rfl) (.pure _) (by exact A0j (f:=int) (fun _=>rfl)) (E0l int hv1) (E0k int hv1) (by rfl) (by rfl) (by rfl) (by rfl) ?_
 refine X.an ?_
 cases h
 refine R.fin1o Tryz.results166 (by rfl) (by rfl) (by first | rfl | simp [setL] | omega) ?_
 rfl
theorem W0c (rec:A0b→(List Int)→(List Int)→Int→Int→Option (List Int))(hrec:∀(b0:A0b) (b1:List Int) (b2:List Int) (b3:Int) (b4:Int) (r:List Int),rec b0 b1 b2 b3 b4=some r→PC Tryz.prog 151 [A0n b0,.slice (b1.map int),.slice (b2.map int),int b3,int b4] (nilsV (r.map int)))(b0:A0b)(b1:List Int)(b2:List Int)(b3:Int)(b4:Int)(r:List Int)(h:J0k rec b0 b1 b2 b3 b4=some r):PC Tryz.prog 151 [A0n b0,.slice (b1.map int),.slice (b2.map int),int b3,int b4] (nilsV (r.map int)):=by
 unfold J0k at h
 refine PC.start Tryz.func151 Tryz.ntmps151 rfl ok151 rfl ?_
 refine Run.sr (X.bx ?_)
 refine X.an ?_
 refine Run.seq (Run.draw2 (B0m [(1,([320],[],[],[])),(8,([320],[],[],[])),(17,([704],[704],[],[])),(18,([768],[768],[],[])),(19,([704],[704],[],[])),(20,([768],[768],[],[]))]) mixed (by kernel_rfl) (by kernel_rfl) ?_)
 refine X.fl J0h ?_
 refine X.ld shp31 ?_
 refine X.mv ?_
 obtain ⟨v1,hv1,h⟩:=bindE h
 refine X.ix elt25 (A0a hv1).1 (A0c int hv1) ?_
 refine X.lc shp3 ?_
 obtain ⟨v2,hv2,h⟩:=bindE h
 refine X.ix elt31 (A0a hv2).1 (A0c A0l hv2) ?_
 refine X.lc shp75 ?_
 refine X.fl J0h ?_
 refine X.ld shp31 ?_
 refine X.mv ?_
 refine X.mv ?_
 refine X.ls elt25 ?_
 refine X.subW (h:=?_)
 obtain ⟨v3,hv3,h⟩:=bindE h
 refine X.ix elt25 (A0a hv3).1 (A0c int hv3) ?_
 refine X.lc shp3 ?_
 obtain ⟨v4,hv4,h⟩:=bindE h
 refine X.ix elt31 (A0a hv4).1 (A0c A0l hv4) ?_
 refine X.lc shp75 ?_
 refine X.alloc zer75 (h:=?_)
 refine X.alloc zer75 (h:=?_)
 refine X.sl shp75 ?_
 refine X.sl shp75 ?_
 refine X.nil (Run.seq (Run.sr (X.mv ?_)))
 refine X.ls elt25 ?_
 refine X.mv ?_
 refine X.bi ?_
 refine X.nil ?_
 refine R.cd (fun hc5=>?_) (fun hc5=>?_)
 ·replace h:=condT hc5 h
  refine Run.seq (Run.seq ?_)
  obtain ⟨e6,he6,h2⟩:=bindE h
  refine R.regG [(1,.slice (b1.map int)),(45,bool e6)] [] ?_ ?_
  ·clear h;have h:=he6;clear he6 h2
   refine X.fl L0o ?_
   refine X.ld shp3 ?_
   refine X.fl J0y ?_
   refine X.ld shp3 ?_
   refine X.bi ?_
   refine X.mv ?_
   refine X.iG (fun hb7=>?_) (fun hb7=>?_)
   ·replace h:=condT hb7 h
    refine X.mv ?_
    refine X.gy (X.bi ?_)
    refine X.pT ?_
    cases h
    exact X.eG
   replace h:=condF hb7 h
   refine X.gn (X.pF ?_)
   cases h
   exact X.eG
  replace h:=h2;clear h2
  refine R.cd (fun hc8=>?_) (fun hc8=>?_)
  ·replace h:=condT hc8 h
   refine Run.sr (X.mv ?_)
   obtain ⟨v9,hv9,h⟩:=bindE h
   refine X.callF (M0j _ _ hv9) (by rfl) (by rfl) (by rfl) (by trivial) (by rfl) (by rfl) (by rfl) (by rfl) ?_
   refine X.an ?_
   obtain ⟨v10,hv10,h⟩:=bindE h
   cases h
   refine R.castS (t:=10) _ (by rfl) (.inr (.inr ⟨_,_,_,_,_,rfl,(by rfl),(by first | rfl | simp [setL] | omega),rfl⟩)) ?_
   refine R.f1 Tryz.results151 ?_
   exact T1f int hv10
  replace h:=condF hc8 h
  refine Run.skip (Run.sr (X.an ?_))
  cases h
  refine R.f1 Tryz.results151 ?_
  rfl
 replace h:=condF hc5 h
 refine Run.skip (Run.seq (Run.sr (X.mv ?_)))
 refine X.fl L0o ?_
 refine X.ld shp3 ?_
 obtain ⟨v11,hv11,h⟩:=bindE h
 refine X.cp (N0p _ _ _ hv11) ?_
 refine X.nil ?_
 refine R.cd (fun hc12=>?_) (fun hc12=>?_)
 ·replace h:=condT hc12 h
  refine Run.sr (X.an ?_)
  cases h
  refine R.f1 Tryz.results151 ?_
  rfl
 replace h:=condF hc12 h
 refine Run.skip (Run.seq (Run.sr (X.fl J0h ?_)))
 refine X.ld shp31 ?_
 refine X.ls elt31 ?_
 refine X.mn ?_
 obtain ⟨o13,ho13,h⟩:=bindE h
 refine R.join2 (β:=Unit) [] [] (fun p34 S=>S) (fun p34 M=>M) (fun p34=>(Sum.inl p34)=o13) ?_ ?_
 ·intro JJ16 hmeet15
  have hup14:=h;clear h;have h:=ho13;clear ho13
  refine Run.block ?_
  refine R.bndS (t:=17) (by rfl) (fun hbd19=>?_)
  replace hbd19:b0.Links.length≤9223372036854775807:=by first | (rw [List.length_map] at hbd19;exact hbd19) | simp
  refine R.lp (β:=Int) [(1,.slice (b1.map int)),(2,.slice (b2.map int)),(3,int b3),(4,int b4),(5,.lptr 320 0),(12,.lptr 768 0),(53,.slice (b0.Links.map A0l)),(54,int (b0.Links.length:Int))] [(320,.blk true [int b0.Deadline,.slice (b0.Activities.map A0d),.slice (b0.Links.map A0l),.slice (b0.Resources.map A0e),.slice (b0.Stocks.map int)]),(768,.blk true [int v4.From,int v4.To,bool v4.FromEnd,int v4.Lag])] (fun bb S=>(55,int bb)::S) (fun bb M=>M) (fun n bb=>0≤bb∧bb+n=(b0.Links.length:Int)∧C0z b0 b1 b2 b3 b4 rec v1 v4 (b0.Links.drop bb.toNat) bb=some o13) b0.Links.length (0:Int) ⟨Int.le_refl _,by simp,h⟩ ?_
  clear h
  rintro JJ19 n19 z20 hag19 ⟨hza19,hzb19,h⟩
  refine Run.sr (X.bi ?_)
  refine X.nil (Run.seq ?_)
  refine R.cd (fun hc23=>?_) (fun hc23=>?_)
  ·obtain ⟨x21,xs22,hd19,hx19,hds19,hlt19⟩:=A0k hza19 hc23
   rw [hd19] at h
   rw [C0z] at h
   refine Run.skip (Run.seq (Run.block (Run.sr (X.mv ?_))))
   refine X.ix elt31 (A0a hx19).1 (A0c A0l hx19) ?_
   refine X.lc shp75 ?_
   refine X.alloc zer75 (h:=?_)
   refine X.as ?_
   refine X.sl shp75 ?_
   refine X.nil (Run.seq ?_)
   obtain ⟨e24,he24,h2⟩:=bindE h
   refine R.regG [(1,.slice (b1.map int)),(2,.slice (b2.map int)),(3,int b3),(4,int b4),(5,.lptr 320 0),(12,.lptr 768 0),(13,int z20),(14,.lptr 896 0),(53,.slice (b0.Links.map A0l)),(54,int (b0.Links.length:Int)),(55,int z20),(71,bool e24)] [(320,.blk true [int b0.Deadline,.slice (b0.Activities.map A0d),.slice (b0.Links.map A0l),.slice (b0.Resources.map A0e),.slice (b0.Stocks.map int)]),(768,.blk true [int v4.From,int v4.To,bool v4.FromEnd,int v4.Lag]),(896,.blk true [int x21.From,int x21.To,bool x21.FromEnd,int x21.Lag])] ?_ ?_
   ·clear h;have h:=he24;clear he24 h2
    refine X.mv ?_
    refine X.mv ?_
    refine X.ix elt25 (A0a hv1).1 (A0c int hv1) ?_
    refine X.lc shp3 ?_
    refine X.bi ?_
    refine X.mv ?_
    refine X.iG (fun hb25=>?_) (fun hb25=>?_)
    ·replace h:=condT hb25 h
     refine X.fl J0y ?_
     refine X.gy (X.ld shp3 ?_)
     refine X.gy (X.fl L0o ?_)
     refine X.gy (X.ld shp3 ?_)
     refine X.gy (X.bi ?_)
     refine X.pT ?_
     cases h
     exact X.eG
    replace h:=condF hb25 h
    refine X.gn (X.gn (X.gn (X.gn (X.pF ?_))))
    cases h
    exact X.eG
   replace h:=h2;clear h2
   refine R.cd (fun hc26=>?_) (fun hc26=>?_)
   ·replace h:=condT hc26 h
    refine Run.seq (Run.draw2 (B0m [(0,([320],[],[],[])),(2,([],[4736],[],[])),(4,([4864],[4864],[],[])),(5,([4736,4864],[4736],[],[])),(7,([],[5056],[],[])),(9,([768],[],[],[])),(10,([5248],[5248],[],[])),(11,([5056,5248],[5056],[],[])),(13,([320],[],[],[])),(14,([896],[],[],[])),(18,([4736,5056],[],[],[]))]) mixed (by kernel_rfl) (by kernel_rfl) ?_)
    refine X.ld shp34 ?_
    refine X.mv ?_
    obtain ⟨v27,hv27,h⟩:=bindE h
    refine X.callF (M0j _ _ hv27) (by rfl) (by rfl) (by rfl) (by trivial) (by rfl) (by rfl) (by rfl) (by rfl) ?_
    refine X.mv ?_
    refine X.buildSlice false elt25 zer3 (by rfl) (by rfl) (by rfl) (by rfl) (by rfl) (by rfl) (by repeat (first | trivial | refine ⟨by first | rfl | simp [setL],?_⟩)) (A0o (by rfl)) (by rfl) (by rfl) (by rfl) ?_
    obtain ⟨v28,hv28,h⟩:=bindE h
    refine X.append elt25 zer3 (by rfl) (by rfl) (by first | rfl | simp [setL] | omega) (by rfl) (.own _ _ _ _ _ _ (A0g (by rfl)) (by first | rfl | simp [setL] | omega)) (A0o (by rfl)) (E0l int hv28) (E0k int hv28) (by rfl) (by rfl) (by rfl) (by rfl) ?_
    refine X.mv ?_
    obtain ⟨v29,hv29,h⟩:=bindE h
    refine X.callF (M0j _ _ hv29) (by rfl) (by rfl) (by rfl) (by trivial) (by rfl) (by rfl) (by rfl) (by rfl) ?_
    refine X.fl L0o ?_
    refine X.ld shp3 ?_
    refine X.buildSlice false elt25 zer3 (by rfl) (by rfl) (by rfl) (by rfl) (by rfl) (by rfl) (by repeat (first | trivial | refine ⟨by first | rfl | simp [setL],?_⟩)) (A0o (by rfl)) (by rfl) (by rfl) (by rfl) ?_
    obtain ⟨v30,hv30,h⟩:=bindE h
    refine X.append elt25 zer3 (by rfl) (by rfl) (by first | rfl | simp [setL] | omega) (by rfl) (.own _ _ _ _ _ _ (A0g (by rfl)) (by first | rfl | simp [setL] | omega)) (A0o (by rfl)) (E0l int hv30) (E0k int hv30) (by rfl) (by rfl) (by rfl) (by rfl) ?_
    refine X.mv ?_
    refine X.ld shp34 ?_
    refine X.ld shp75 ?_
    obtain ⟨v31,hv31,h⟩:=bindE h
    refine X.cp (L0s _ _ _ hv31) ?_
    refine X.addW (h:=?_)
    refine X.mv ?_
    obtain ⟨v32,hv32,h⟩:=bindE h
    refine X.callN (hrec _ _ _ _ _ _ hv32) (by rfl) (by rfl) (by rfl) (by repeat (first | trivial | refine ⟨by first | rfl | simp [setL],?_⟩)) (by rfl) (by rfl) (by rfl) ?_
    refine X.an ?_
    refine Run.sr (X.mv ?_)
    refine X.neqN (z:=(!(v32.isEmpty))) elt25 (by rfl) (by simp) (by rfl) (by rfl) ?_
    refine X.nil ?_
    refine R.cd (fun hc33=>?_) (fun hc33=>?_)
    ·replace h:=condT hc33 h
     refine Run.sr (X.mv ?_)
     refine X.an ?_
     cases h
     have h:=hup14
     replace h:=elimR h
     cases h
     refine R.fin1 Tryz.results151 (by rfl) (W0u _) ?_
     rfl
    replace h:=condF hc33 h
    refine Run.skip (Run.blk (Run.reg (X.ad ?_)))
    refine X.mn ?_
    exact R.ag hag19 (n19 - 1) (z20+1) (R.n3 (by first | (rw [hds19];exact h) | (dsimp only;rw [hds19];exact h)))
   replace h:=condF hc26 h
   refine Run.skip (Run.blk (Run.reg (X.ad ?_)))
   refine X.mn ?_
   exact R.ag hag19 (n19 - 1) (z20+1) (R.n3 (by first | (rw [hds19];exact h) | (dsimp only;rw [hds19];exact h)))
  rw [A0h hza19 hc23] at h
  rw [C0z] at h
  refine Run.exit (by rfl) ?_
  exact R.mt hmeet15 () (Option.some.inj h)
 rintro p34 rfl
 replace h:=elimL h
 refine Run.sr (X.an ?_)
 cases h
 refine R.f1 Tryz.results151 ?_
 rfl
theorem Y0s (b0:A0b)(b1:List Int)(b2:List Int)(b3:Int)(b4:Int)(r:List Int)(h:R0w b0 b1 b2 b3 b4=some r):PC Tryz.prog 151 [A0n b0,.slice (b1.map int),.slice (b2.map int),int b3,int b4] (nilsV (r.map int)):=by
 have key:∀(n:Nat)(b0:A0b)(b1:List Int)(b2:List Int)(b3:Int)(b4:Int)(r:List Int),E0w n b0 b1 b2 b3 b4=some r→PC Tryz.prog 151 [A0n b0,.slice (b1.map int),.slice (b2.map int),int b3,int b4] (nilsV (r.map int)):=by
  intro n
  induction n with
  | zero=>intro b0 b1 b2 b3 b4 r h;cases h
  | succ n ih=>intro b0 b1 b2 b3 b4 r h;exact W0c (E0w n) ih b0 b1 b2 b3 b4 r h
 exact key F0 b0 b1 b2 b3 b4 r h
theorem Y0o (b0:A0b)(r:List Int)(h:J0g b0=some r):PC Tryz.prog 129 [A0n b0] (nilsV (r.map int)):=by
 unfold J0g at h
 refine PC.start Tryz.func129 Tryz.ntmps129 rfl ok129 rfl ?_
 refine Run.sr (X.bx ?_)
 refine X.an ?_
 refine Run.seq (Run.sr (X.ld shp34 ?_))
 obtain ⟨v1,hv1,h⟩:=bindE h
 refine X.cp (F0d _ _ hv1) ?_
 refine X.un (h:=?_)
 refine X.nil ?_
 refine R.cd (fun hc2=>?_) (fun hc2=>?_)
 ·replace h:=condT hc2 h
  refine Run.sr (X.an ?_)
  cases h
  refine R.f1 Tryz.results129 ?_
  rfl
 replace h:=condF hc2 h
 refine Run.skip (Run.seq (Run.sr (X.an ?_)))
 obtain ⟨o3,ho3,h⟩:=bindE h
 refine R.join2 (β:=Unit) [] [] (fun p28 S=>S) (fun p28 M=>M) (fun p28=>(Sum.inl p28)=o3) ?_ ?_
 ·intro JJ6 hmeet5
  have hup4:=h;clear h;have h:=ho3;clear ho3
  refine Run.block ?_
  refine R.lp (β:=Int) [(1,.lptr 64 0)] [(64,.blk true [int b0.Deadline,.slice (b0.Activities.map A0d),.slice (b0.Links.map A0l),.slice (b0.Resources.map A0e),.slice (b0.Stocks.map int)])] (fun bb S=>(3,int bb)::S) (fun bb M=>M) (fun n bb=>C0m b0 n bb=some o3) F0 2 h ?_
  clear h
  rintro JJ6 n6 a8 hag6 h
  obtain _ | n6:=n6
  ·exact absurd h (by simp [C0m])
  rw [C0m] at h
  refine Run.seq (Run.sr (X.mv ?_))
  refine X.fl B0l ?_
  refine X.ld shp30 ?_
  refine X.ls elt30 ?_
  refine X.bi ?_
  refine X.nil ?_
  refine R.cd (fun hc11=>?_) (fun hc11=>?_)
  ·replace h:=condT hc11 h
   refine Run.skip (Run.seq (Run.block (Run.sr (X.fl J0h ?_))))
   refine X.ld shp31 ?_
   refine X.ls elt31 ?_
   refine X.mn ?_
   obtain ⟨o12,ho12,h⟩:=bindE h
   refine R.join2 (β:=Unit) [(1,.lptr 64 0),(3,int a8)] [(64,.blk true [int b0.Deadline,.slice (b0.Activities.map A0d),.slice (b0.Links.map A0l),.slice (b0.Resources.map A0e),.slice (b0.Stocks.map int)])] (fun p26 S=>S) (fun p26 M=>M) (fun p26=>(Sum.inl p26)=o12) ?_ ?_
   ·intro JJ15 hmeet14
    have hup13:=h;clear h;have h:=ho12;clear ho12
    refine Run.block ?_
    refine R.bndS (t:=18) (by rfl) (fun hbd18=>?_)
    replace hbd18:b0.Links.length≤9223372036854775807:=by first | (rw [List.length_map] at hbd18;exact hbd18) | simp
    refine R.lp (β:=Int) [(1,.lptr 64 0),(3,int a8),(18,.slice (b0.Links.map A0l)),(19,int (b0.Links.length:Int))] [(64,.blk true [int b0.Deadline,.slice (b0.Activities.map A0d),.slice (b0.Links.map A0l),.slice (b0.Resources.map A0e),.slice (b0.Stocks.map int)])] (fun bb S=>(20,int bb)::S) (fun bb M=>M) (fun n bb=>0≤bb∧bb+n=(b0.Links.length:Int)∧E0b b0 a8 (b0.Links.drop bb.toNat) bb=some o12) b0.Links.length (0:Int) ⟨Int.le_refl _,by simp,h⟩ ?_
    clear h
    rintro JJ18 n18 z19 hag18 ⟨hza18,hzb18,h⟩
    refine Run.sr (X.bi ?_)
    refine X.nil (Run.seq ?_)
    refine R.cd (fun hc22=>?_) (fun hc22=>?_)
    ·obtain ⟨x20,xs21,hd18,hx18,hds18,hlt18⟩:=A0k hza18 hc22
     rw [hd18] at h
     rw [E0b] at h
     refine Run.skip (Run.seq (Run.block (Run.sr (X.mv ?_))))
     refine X.ix elt31 (A0a hx18).1 (A0c A0l hx18) ?_
     refine X.lc shp75 ?_
     refine X.alloc zer75 (h:=?_)
     refine X.as ?_
     refine X.sl shp75 ?_
     refine X.nil (Run.seq (Run.draw (B0m [(0,([64],[],[],[])),(2,([1728],[1728],[],[])),(4,([320],[],[],[])),(5,([1920],[1920],[],[])),(6,([64],[],[],[])),(7,([320],[],[],[])),(10,([1728,1920],[],[],[]))]) mixed (by kernel_rfl) (by kernel_rfl) ?_))
     refine X.ld shp34 ?_
     refine X.mv ?_
     refine X.buildSlice false elt25 zer3 (by rfl) (by rfl) (by rfl) (by rfl) (by rfl) (by rfl) (by repeat (first | trivial | refine ⟨by first | rfl | simp [setL],?_⟩)) (A0o (by rfl)) (by rfl) (by rfl) (by rfl) ?_
     refine X.fl J0y ?_
     refine X.ld shp3 ?_
     refine X.buildSlice false elt25 zer3 (by rfl) (by rfl) (by rfl) (by rfl) (by rfl) (by rfl) (by repeat (first | trivial | refine ⟨by first | rfl | simp [setL],?_⟩)) (A0o (by rfl)) (by rfl) (by rfl) (by rfl) ?_
     refine X.ld shp34 ?_
     refine X.ld shp75 ?_
     obtain ⟨v23,hv23,h⟩:=bindE h
     refine X.cp (L0s _ _ _ hv23) ?_
     refine X.mv ?_
     obtain ⟨v24,hv24,h⟩:=bindE h
     refine X.callN (Y0s _ _ _ _ _ _ hv24) (by rfl) (by rfl) (by rfl) (by repeat (first | trivial | refine ⟨by first | rfl | simp [setL],?_⟩)) (by rfl) (by rfl) (by rfl) ?_
     refine X.an ?_
     refine Run.sr (X.mv ?_)
     refine X.neqN (z:=(!(v24.isEmpty))) elt25 (by rfl) (by simp) (by rfl) (by rfl) ?_
     refine X.nil ?_
     refine R.cd (fun hc25=>?_) (fun hc25=>?_)
     ·replace h:=condT hc25 h
      refine Run.sr (X.mv ?_)
      refine X.an ?_
      cases h
      have h:=hup13
      replace h:=elimR h
      cases h
      have h:=hup4
      replace h:=elimR h
      cases h
      refine R.fin1 Tryz.results129 (by rfl) (W0u _) ?_
      rfl
     replace h:=condF hc25 h
     refine Run.skip (Run.blk (Run.reg (X.ad ?_)))
     refine X.mn ?_
     exact R.ag hag18 (n18 - 1) (z19+1) (R.n3 (by first | (rw [hds18];exact h) | (dsimp only;rw [hds18];exact h)))
    rw [A0h hza18 hc22] at h
    rw [E0b] at h
    refine Run.exit (by rfl) ?_
    exact R.mt hmeet14 () (Option.some.inj h)
   rintro p26 rfl
   replace h:=elimL h
   refine Run.blk (Run.reg (X.mv ?_))
   refine X.addW (h:=?_)
   refine X.an ?_
   exact hag6 n6 (W (a8+1)) _ _ (by omega) h (by trivial) (by trivial) (by rfl) (by rfl)
  replace h:=condF hc11 h
  refine Run.exit (by rfl) ?_
  exact R.mt hmeet5 () (Option.some.inj h)
 rintro p28 rfl
 replace h:=elimL h
 refine Run.sr (X.an ?_)
 cases h
 refine R.f1 Tryz.results129 ?_
 rfl
theorem T0c (b0:Int)(b1:Int)(b2:Int)(c3:List (List Bool))(c4:List (List Int))(r:(List (List Bool))×(List (List Int)))(h:D0y b0 b1 b2 c3 c4=some r):PCM Tryz.prog 130 [int b0,int b1,int b2,.lptr 63 0,.lptr 127 0] (clo2 151 1 25 1 (c3.map (fun r=>rowN 4 1 (List.map bool r))) (c4.map (fun r=>rowN 3 1 (List.map int r))) (c3.map (fun r=>rowN 4 1 (List.map bool r))).length (c4.map (fun r=>rowN 3 1 (List.map int r))).length) (.tuple []) (clo2 151 1 25 1 (r.1.map (fun r=>rowN 4 1 (List.map bool r))) (r.2.map (fun r=>rowN 3 1 (List.map int r))) (r.1.map (fun r=>rowN 4 1 (List.map bool r))).length (r.2.map (fun r=>rowN 3 1 (List.map int r))).length):=by
 unfold D0y at h
 refine PCM.startClo Tryz.func130 Tryz.ntmps130 rfl ok130 (by rfl) ?_
 refine Run.seq ?_
 obtain ⟨v1,hv1,h⟩:=bindE h
 obtain ⟨v2,hv2,h⟩:=bindE h
 obtain ⟨v3,hv3,h⟩:=bindE h
 obtain ⟨e4,he4,h2⟩:=bindE h
 refine R.regG [(0,int b0),(1,int b1),(2,int b2),(3,.lptr 63 0),(4,.lptr 127 0),(26,bool e4)] [(63,.blk true [.tref 191 (c3.map (fun r=>rowN 4 1 (List.map bool r))).length .out]),(127,.blk true [.tref 255 (c4.map (fun r=>rowN 3 1 (List.map int r))).length .out]),(191,.tre 151 1 (c3.map (fun r=>rowN 4 1 (List.map bool r)))),(255,.tre 25 1 (c4.map (fun r=>rowN 3 1 (List.map int r))))] ?_ ?_
 ·clear h;have h:=he4;clear he4 h2
  refine X.ld B1c ?_
  refine X.mv ?_
  refine X.idxT2 (l:=c3.map (fun r=>rowN 4 1 (List.map bool r))) A1t (by rfl) (by rfl) (by rfl) ⟨(A0a hv1).1,by have h0:=(A0a hv1).1;have h1:=A0t hv1;rw [List.length_map];(try dsimp only);omega⟩ (by first | rfl | simp [setL] | omega) (by rfl) (by rfl) ?_
  refine X.ldRow2 (sz:=1) C1k (by rfl) (by rfl) (C0y (f:=bool) (e:=4) (sz:=1) hv1 (E0g hv2)) (by first | rfl | simp [setL] | omega) (by rfl) (by rfl) ?_
  refine X.mv ?_
  refine X.idxR2 (l:=c3.map (fun r=>rowN 4 1 (List.map bool r))) (rl:=v1.map bool) D1h (by rfl) (by rfl) (by rfl) (C0y (f:=bool) (e:=4) (sz:=1) hv1 (E0g hv2)) ⟨(A0a hv3).1,by have h0:=(A0a hv3).1;have h1:=A0t hv3;rw [List.length_map];(try dsimp only);omega⟩ (by first | rfl | simp [setL] | omega) (by rfl) (by rfl) ?_
  refine X.ldE2 (sz2:=1) shp4 (by rfl) (by rfl) (C0y (f:=bool) (e:=4) (sz:=1) hv1 (E0g hv2)) (A0x (off:=0) (by exact A0j (f:=bool) (fun _=>rfl)) (A0c bool hv3) (by rfl)) (by first | rfl | simp [setL] | omega) (by rfl) (by rfl) ?_
  refine X.un (h:=?_)
  refine X.mv ?_
  refine X.iG (fun hb5=>?_) (fun hb5=>?_)
  ·replace h:=condF hb5 h
   refine X.mv ?_
   refine X.gy (X.ld shp61 ?_)
   refine X.gy (X.mv ?_)
   refine X.gy ?_
   obtain ⟨v6,hv6,h⟩:=bindE h
   refine X.idxT2 (l:=c4.map (fun r=>rowN 3 1 (List.map int r))) elt61 (by rfl) (by rfl) (by rfl) ⟨(A0a hv6).1,by have h0:=(A0a hv6).1;have h1:=A0t hv6;rw [List.length_map];(try dsimp only);omega⟩ (by first | rfl | simp [setL] | omega) (by rfl) (by rfl) ?_
   refine X.gy ?_
   obtain ⟨v7,hv7,h⟩:=bindE h
   refine X.ldRow2 (sz:=1) shp25 (by rfl) (by rfl) (C0y (f:=int) (e:=3) (sz:=1) hv6 (E0g hv7)) (by first | rfl | simp [setL] | omega) (by rfl) (by rfl) ?_
   refine X.gy (X.mv ?_)
   refine X.gy ?_
   obtain ⟨v8,hv8,h⟩:=bindE h
   refine X.idxR2 (l:=c4.map (fun r=>rowN 3 1 (List.map int r))) (rl:=v6.map int) elt25 (by rfl) (by rfl) (by rfl) (C0y (f:=int) (e:=3) (sz:=1) hv6 (E0g hv7)) ⟨(A0a hv8).1,by have h0:=(A0a hv8).1;have h1:=A0t hv8;rw [List.length_map];(try dsimp only);omega⟩ (by first | rfl | simp [setL] | omega) (by rfl) (by rfl) ?_
   refine X.gy ?_
   refine X.ldE2 (sz2:=1) shp3 (by rfl) (by rfl) (C0y (f:=int) (e:=3) (sz:=1) hv6 (E0g hv7)) (A0x (off:=0) (by exact A0j (f:=int) (fun _=>rfl)) (A0c int hv8) (by rfl)) (by first | rfl | simp [setL] | omega) (by rfl) (by rfl) ?_
   refine X.gy (X.bi ?_)
   refine X.pF ?_
   cases h
   exact X.eG
  replace h:=condT hb5 h
  refine X.gn (X.gn (X.gn (X.gn (X.gn (X.gn (X.gn (X.gn ?_)))))))
  refine X.pT ?_
  cases h
  exact X.eG
 replace h:=h2;clear h2
 refine R.cd (fun hc9=>?_) (fun hc9=>?_)
 ·replace h:=condT hc9 h
  refine Run.draw2 (B0m [(0,([127],[],[],[])),(2,([255],[],[],[])),(3,([255],[],[],[])),(5,([63],[],[],[])),(7,([191],[],[],[])),(8,([191],[],[],[])),(11,([255],[],[],[])),(12,([255],[255],[],[])),(13,([191],[],[],[])),(14,([191],[191],[],[]))]) mixed (by kernel_rfl) (by kernel_rfl) ?_
  refine X.ld shp61 ?_
  refine X.mv ?_
  obtain ⟨v10,hv10,h⟩:=bindE h
  refine X.idxT2 (l:=c4.map (fun r=>rowN 3 1 (List.map int r))) elt61 (by rfl) (by rfl) (by rfl) ⟨(A0a hv10).1,by have h0:=(A0a hv10).1;have h1:=A0t hv10;rw [List.length_map];(try dsimp only);omega⟩ (by first | rfl | simp [setL] | omega) (by rfl) (by rfl) ?_
  obtain ⟨v11,hv11,h⟩:=bindE h
  refine X.ldRow2 (sz:=1) shp25 (by rfl) (by rfl) (C0y (f:=int) (e:=3) (sz:=1) hv10 (E0g hv11)) (by first | rfl | simp [setL] | omega) (by rfl) (by rfl) ?_
  refine X.mv ?_
  refine X.ld B1c ?_
  refine X.mv ?_
  refine X.idxT2 (l:=c3.map (fun r=>rowN 4 1 (List.map bool r))) A1t (by rfl) (by rfl) (by rfl) ⟨(A0a hv1).1,by have h0:=(A0a hv1).1;have h1:=A0t hv1;rw [List.length_map];(try dsimp only);omega⟩ (by first | rfl | simp [setL] | omega) (by rfl) (by rfl) ?_
  refine X.ldRow2 (sz:=1) C1k (by rfl) (by rfl) (C0y (f:=bool) (e:=4) (sz:=1) hv1 (E0g hv2)) (by first | rfl | simp [setL] | omega) (by rfl) (by rfl) ?_
  refine X.mv ?_
  refine X.mv ?_
  obtain ⟨v12,hv12,h⟩:=bindE h
  refine X.idxR2 (l:=c4.map (fun r=>rowN 3 1 (List.map int r))) (rl:=v10.map int) elt25 (by rfl) (by rfl) (by rfl) (C0y (f:=int) (e:=3) (sz:=1) hv10 (E0g hv11)) ⟨(A0a hv12).1,by have h0:=(A0a hv12).1;have h1:=A0t hv12;rw [List.length_map];(try dsimp only);omega⟩ (by first | rfl | simp [setL] | omega) (by rfl) (by rfl) ?_
  refine X.stE2 (l2:=(setL c4 b0 (setL v10 b1 b2)).map (fun r=>rowN 3 1 (List.map int r))) (rl2:=(setL v10 b1 b2).map int) (sz2:=1) (sz:=1) shp3 (by rfl) (by rfl) (by rfl) (C0y (f:=int) (e:=3) (sz:=1) hv10 (E0g hv11)) (A0x (off:=0) (by exact A0j (f:=int) (fun _=>rfl)) (A0c int hv12) (by rfl)) (by simp [setL]) (by exact A0j (f:=int) (fun _=>rfl)) (by rw [← D0e];exact L0y (by exact A0j (f:=int) (fun _=>rfl)) (A0c int hv12) (by rfl) (by decide)) (by simp [setL]) (V0r _) (V0z (f:=int) (e:=3) (sz:=1) hv10 (G1s _ _ (E0g hv11))) (by first | rfl | simp [setL] | omega) (by rfl) ?_
  refine X.idxR2 (l:=c3.map (fun r=>rowN 4 1 (List.map bool r))) (rl:=v1.map bool) D1h (by rfl) (by rfl) (by rfl) (C0y (f:=bool) (e:=4) (sz:=1) hv1 (E0g hv2)) ⟨(A0a hv3).1,by have h0:=(A0a hv3).1;have h1:=A0t hv3;rw [List.length_map];(try dsimp only);omega⟩ (by first | rfl | simp [setL] | omega) (by rfl) (by rfl) ?_
  refine X.stE2 (l2:=(setL c3 b0 (setL v1 b1 true)).map (fun r=>rowN 4 1 (List.map bool r))) (rl2:=(setL v1 b1 true).map bool) (sz2:=1) (sz:=1) shp4 (by rfl) (by rfl) (by rfl) (C0y (f:=bool) (e:=4) (sz:=1) hv1 (E0g hv2)) (A0x (off:=0) (by exact A0j (f:=bool) (fun _=>rfl)) (A0c bool hv3) (by rfl)) (by simp [setL]) (by exact A0j (f:=bool) (fun _=>rfl)) (by rw [← D0e];exact L0y (by exact A0j (f:=bool) (fun _=>rfl)) (A0c bool hv3) (by rfl) (by decide)) (by simp [setL]) (V0r _) (V0z (f:=bool) (e:=4) (sz:=1) hv1 (G1s _ _ (E0g hv2))) (by first | rfl | simp [setL] | omega) (by rfl) ?_
  refine X.nil ?_
  cases h
  refine R.tell (n:=63) (p':=.blk true [.tref 191 ((setL c3 b0 (setL v1 b1 true)).map (fun r=>rowN 4 1 (List.map bool r))).length .out]) (by rfl) (by first | rfl | simp [setL]) ?_
  refine R.tell (n:=127) (p':=.blk true [.tref 255 ((setL c4 b0 (setL v10 b1 b2)).map (fun r=>rowN 3 1 (List.map int r))).length .out]) (by rfl) (by first | rfl | simp [setL]) ?_
  exact R.endM0 Tryz.results130 (show BackL _ [(63,_),(127,_),(191,_),(255,_)] from ⟨by rfl,by rfl,by rfl,by rfl,trivial⟩) rfl
 replace h:=condF hc9 h
 refine Run.skip ?_
 cases h
 refine R.tell (n:=63) (p':=.blk true [.tref 191 (c3.map (fun r=>rowN 4 1 (List.map bool r))).length .out]) (by rfl) (by first | rfl | simp [setL]) ?_
 refine R.tell (n:=127) (p':=.blk true [.tref 255 (c4.map (fun r=>rowN 3 1 (List.map int r))).length .out]) (by rfl) (by first | rfl | simp [setL]) ?_
 exact R.endM0 Tryz.results130 (show BackL _ [(63,_),(127,_),(191,_),(255,_)] from ⟨by rfl,by rfl,by rfl,by rfl,trivial⟩) rfl
theorem E1w (b0:A0b)(r:List (List Int))(h:J0t b0=some r):PC Tryz.prog 97 [A0n b0] (.tre 25 1 (r.map t_int)):=by
 unfold J0t at h
 refine PC.start Tryz.func97 Tryz.ntmps97 rfl ok97 rfl ?_
 refine Run.sr (X.bx ?_)
 refine X.an ?_
 refine Run.seq (Run.seq ?_)
 obtain ⟨v1,hv1,h⟩:=bindE h
 obtain ⟨e2,he2,h2⟩:=bindE h
 refine R.regG [(1,.lptr 64 0),(23,bool e2)] [(64,.blk true [int b0.Deadline,.slice (b0.Activities.map A0d),.slice (b0.Links.map A0l),.slice (b0.Resources.map A0e),.slice (b0.Stocks.map int)])] ?_ ?_
 ·clear h;have h:=he2;clear he2 h2
  refine X.ld shp34 ?_
  refine X.cp (F0d _ _ hv1) ?_
  refine X.un (h:=?_)
  refine X.mv ?_
  refine X.iG (fun hb3=>?_) (fun hb3=>?_)
  ·replace h:=condF hb3 h
   refine X.ld shp34 ?_
   refine X.gy ?_
   obtain ⟨v4,hv4,h⟩:=bindE h
   refine X.callN (Y0o _ _ hv4) (by rfl) (by rfl) (by rfl) (by trivial) (by rfl) (by rfl) (by rfl) ?_
   refine X.gy (X.lenN (z:=(v4.length:Int)) elt25 (by rfl) (by simp) (by rfl) (by rfl) ?_)
   refine X.gy (X.bi ?_)
   refine X.pF ?_
   cases h
   exact X.eG
  replace h:=condT hb3 h
  refine X.gn (X.gn (X.gn (X.pT ?_)))
  cases h
  exact X.eG
 replace h:=h2;clear h2
 refine R.cd (fun hc5=>?_) (fun hc5=>?_)
 ·replace h:=condT hc5 h
  refine Run.sr (X.an ?_)
  cases h
  refine R.fin1tn (e:=25) (sz:=1) Tryz.results97 (by rfl) (by decide) ?_
  rfl
 replace h:=condF hc5 h
 refine Run.skip (Run.sr (X.fl B0l ?_))
 refine X.ld shp30 ?_
 refine X.ls elt30 ?_
 refine X.an ?_
 refine Run.seq (Run.draw2 (B0m [(1,([1792],[1792],[],[])),(3,([1920],[1920],[],[])),(4,([256],[256],[],[])),(5,([320],[320],[],[])),(6,([256,1792],[256],[],[])),(7,([320,1920],[320],[],[]))]) mixed (by kernel_rfl) (by kernel_rfl) ?_)
 refine X.mv ?_
 obtain ⟨v6,hv6,h⟩:=bindE h
 refine X.makeT (f:=int) (e2:=3) (sz2:=1) hv6 elt61 zer25 (by rfl) (by rfl) (by rfl) (by rfl) (by rfl) (by rfl) ?_
 refine X.mv ?_
 obtain ⟨v7,hv7,h⟩:=bindE h
 refine X.makeT (f:=bool) (e2:=4) (sz2:=1) hv7 A1t T1t (by rfl) (by rfl) (by rfl) (by rfl) (by rfl) (by rfl) ?_
 refine X.alloc zer61 (h:=?_)
 refine X.alloc T1s (h:=?_)
 refine X.storeT shp61 (by rfl) (by rfl) (by rfl) (by rfl) (by first | rfl | simp [setL] | omega) (by rfl) (by rfl) ?_
 refine X.storeT B1c (by rfl) (by rfl) (by rfl) (by rfl) (by first | rfl | simp [setL] | omega) (by rfl) (by rfl) ?_
 refine X.nil (Run.seq (Run.sr (X.mv ?_)))
 refine X.mn ?_
 obtain ⟨o8,ho8,h⟩:=bindE h
 refine R.join2 (β:=(List (List Int))×(List (List Bool))) [(1,.lptr 64 0),(3,int (b0.Activities.length:Int)),(4,.lptr 256 0),(5,.lptr 320 0)] [(64,.blk true [int b0.Deadline,.slice (b0.Activities.map A0d),.slice (b0.Links.map A0l),.slice (b0.Resources.map A0e),.slice (b0.Stocks.map int)])] (fun p32 S=>S) (fun p32 M=>(256,.blk true [.tref 1792 (p32.1.map (fun r=>rowN 3 1 (List.map int r))).length .out])::(1792,.tre 25 1 (p32.1.map (fun r=>rowN 3 1 (List.map int r))))::(320,.blk true [.tref 1920 (p32.2.map (fun r=>rowN 4 1 (List.map bool r))).length .out])::(1920,.tre 151 1 (p32.2.map (fun r=>rowN 4 1 (List.map bool r))))::M) (fun p32=>p32=o8) ?_ ?_
 ·intro JJ11 hmeet10
  have hup9:=h;clear h;have h:=ho8;clear ho8
  refine Run.block ?_
  refine R.bndS (t:=25) (by rfl) (fun hbd14=>?_)
  replace hbd14:b0.Activities.length≤9223372036854775807:=by first | (rw [List.length_map] at hbd14;exact hbd14) | simp
  refine R.lp (β:=Int×(List (List Int))×(List (List Bool))) [(1,.lptr 64 0),(3,int (b0.Activities.length:Int)),(4,.lptr 256 0),(5,.lptr 320 0),(31,int (b0.Activities.length:Int))] [(64,.blk true [int b0.Deadline,.slice (b0.Activities.map A0d),.slice (b0.Links.map A0l),.slice (b0.Resources.map A0e),.slice (b0.Stocks.map int)])] (fun bb S=>(32,int bb.1)::S) (fun bb M=>(256,.blk true [.tref 1792 (bb.2.1.map (fun r=>rowN 3 1 (List.map int r))).length .out])::(1792,.tre 25 1 (bb.2.1.map (fun r=>rowN 3 1 (List.map int r))))::(320,.blk true [.tref 1920 (bb.2.2.map (fun r=>rowN 4 1 (List.map bool r))).length .out])::(1920,.tre 151 1 (bb.2.2.map (fun r=>rowN 4 1 (List.map bool r))))::M) (fun n bb=>0≤bb.1∧bb.1+n=(b0.Activities.length:Int)∧G0n b0 (b0.Activities.drop bb.1.toNat) bb.1 bb.2.1 bb.2.2=some o8) b0.Activities.length (0,v6,v7) ⟨Int.le_refl _,by simp,h⟩ ?_
  clear h
  rintro JJ14 n14 ⟨z15,a16,a17⟩ hag14 ⟨hza14,hzb14,h⟩
  dsimp only at hza14 hzb14 h
  refine Run.sr (X.bi ?_)
  refine X.nil (Run.seq ?_)
  refine R.cd (fun hc20=>?_) (fun hc20=>?_)
  ·obtain ⟨x18,xs19,hd14,hx14,hds14,hlt14⟩:=A0k hza14 hc20
   rw [hd14] at h
   rw [G0n] at h
   refine Run.skip (Run.seq (Run.block (Run.sr (X.mv ?_))))
   refine X.an ?_
   refine Run.seq (Run.draw2 (B0m [(0,([256],[],[],[])),(2,([320],[],[],[])),(5,([2560],[2560],[],[])),(7,([2688],[2688],[],[])),(8,([1792],[],[],[])),(9,([1792,2560],[1792,2560],[],[])),(10,([1920],[],[],[])),(11,([1920,2688],[1920,2688],[],[]))]) mixed (by kernel_rfl) (by kernel_rfl) ?_)
   refine X.ld shp61 ?_
   refine X.mv ?_
   refine X.ld B1c ?_
   refine X.mv ?_
   refine X.mv ?_
   obtain ⟨v21,hv21,h⟩:=bindE h
   refine X.makeSlice2 int hv21 elt25 zer3 (by rfl) (by rfl) (by rfl) (by simp [PV.plain]) (by rfl) (by rfl) (by rfl) (by rfl) (by rfl) (by rfl) ?_
   refine X.mv ?_
   obtain ⟨v22,hv22,h⟩:=bindE h
   refine X.makeSlice2 bool hv22 D1h zer4 (by rfl) (by rfl) (by rfl) (by simp [PV.plain]) (by rfl) (by rfl) (by rfl) (by rfl) (by rfl) (by rfl) ?_
   obtain ⟨v23,hv23,h⟩:=bindE h
   refine X.idxT2 (l:=a16.map (fun r=>rowN 3 1 (List.map int r))) elt61 (by rfl) (by rfl) (by rfl) ⟨(A0a hv23).1,by have h0:=(A0a hv23).1;have h1:=A0t hv23;rw [List.length_map];(try dsimp only);omega⟩ (by first | rfl | simp [setL] | omega) (by rfl) (by rfl) ?_
   obtain ⟨v24,hv24,h⟩:=bindE h
   obtain ⟨v25,hv25,h⟩:=bindE h
   refine X.stRow (l2:=(setL a16 z15 v21).map (fun r=>rowN 3 1 (List.map int r))) (rl:=v21.map int) (sz:=1) shp25 (M1s (f:=int) (e:=3) (sz:=1) hv23 (J1z hv24)) (G1e _ (fun _=>(by repeat (first | exact trivial | refine ⟨trivial,?_⟩)))) (by simp [setL]) (V0r _) (V0z (f:=int) (e:=3) (sz:=1) hv23 (E0g hv25)) (by first | rfl | simp [setL] | omega) (by first | rfl | simp [setL] | omega) ?_
   obtain ⟨v26,hv26,h⟩:=bindE h
   refine X.idxT2 (l:=a17.map (fun r=>rowN 4 1 (List.map bool r))) A1t (by rfl) (by rfl) (by rfl) ⟨(A0a hv26).1,by have h0:=(A0a hv26).1;have h1:=A0t hv26;rw [List.length_map];(try dsimp only);omega⟩ (by first | rfl | simp [setL] | omega) (by rfl) (by rfl) ?_
   obtain ⟨v27,hv27,h⟩:=bindE h
   obtain ⟨v28,hv28,h⟩:=bindE h
   refine X.stRow (l2:=(setL a17 z15 v22).map (fun r=>rowN 4 1 (List.map bool r))) (rl:=v22.map bool) (sz:=1) C1k (M1s (f:=bool) (e:=4) (sz:=1) hv26 (J1z hv27)) (G1e _ (fun _=>(by repeat (first | exact trivial | refine ⟨trivial,?_⟩)))) (by simp [setL]) (V0r _) (V0z (f:=bool) (e:=4) (sz:=1) hv26 (E0g hv28)) (by first | rfl | simp [setL] | omega) (by first | rfl | simp [setL] | omega) ?_
   refine X.nil (Run.reg (X.ld B1c ?_))
   refine X.mv ?_
   obtain ⟨v29,hv29,h⟩:=bindE h
   refine X.idxT2 (l:=(setL a17 z15 v22).map (fun r=>rowN 4 1 (List.map bool r))) A1t (by rfl) (by rfl) (by rfl) ⟨(A0a hv29).1,by have h0:=(A0a hv29).1;have h1:=A0t hv29;rw [List.length_map];(try dsimp only);omega⟩ (by first | rfl | simp [setL] | omega) (by rfl) (by rfl) ?_
   obtain ⟨v30,hv30,h⟩:=bindE h
   refine X.ldRow2 (sz:=1) C1k (by rfl) (by rfl) (C0y (f:=bool) (e:=4) (sz:=1) hv29 (E0g hv30)) (by first | rfl | simp [setL] | omega) (by rfl) (by rfl) ?_
   refine X.mv ?_
   obtain ⟨v31,hv31,h⟩:=bindE h
   refine X.idxR2 (l:=(setL a17 z15 v22).map (fun r=>rowN 4 1 (List.map bool r))) (rl:=v29.map bool) D1h (by rfl) (by rfl) (by rfl) (C0y (f:=bool) (e:=4) (sz:=1) hv29 (E0g hv30)) ⟨(A0a hv31).1,by have h0:=(A0a hv31).1;have h1:=A0t hv31;rw [List.length_map];(try dsimp only);omega⟩ (by first | rfl | simp [setL] | omega) (by rfl) (by rfl) ?_
   refine X.stE2 (l2:=(setL (setL a17 z15 v22) z15 (setL v29 z15 true)).map (fun r=>rowN 4 1 (List.map bool r))) (rl2:=(setL v29 z15 true).map bool) (sz2:=1) (sz:=1) shp4 (by rfl) (by rfl) (by rfl) (C0y (f:=bool) (e:=4) (sz:=1) hv29 (E0g hv30)) (A0x (off:=0) (by exact A0j (f:=bool) (fun _=>rfl)) (A0c bool hv31) (by rfl)) (by simp [setL]) (by exact A0j (f:=bool) (fun _=>rfl)) (by rw [← D0e];exact L0y (by exact A0j (f:=bool) (fun _=>rfl)) (A0c bool hv31) (by rfl) (by decide)) (by simp [setL]) (V0r _) (V0z (f:=bool) (e:=4) (sz:=1) hv29 (G1s _ _ (E0g hv30))) (by first | rfl | simp [setL] | omega) (by rfl) ?_
   refine X.nil (Run.blk (Run.reg (X.ad ?_)))
   refine X.mn ?_
   refine R.tell (n:=256) (p':=.blk true [.tref 1792 ((setL a16 z15 v21).map (fun r=>rowN 3 1 (List.map int r))).length .out]) (by rfl) (by first | rfl | simp [setL]) ?_
   refine R.tell (n:=320) (p':=.blk true [.tref 1920 ((setL (setL a17 z15 v22) z15 (setL v29 z15 true)).map (fun r=>rowN 4 1 (List.map bool r))).length .out]) (by rfl) (by first | rfl | simp [setL]) ?_
   exact R.ag hag14 (n14 - 1) (z15+1,(setL a16 z15 v21),(setL (setL a17 z15 v22) z15 (setL v29 z15 true))) (R.n3 (by first | (rw [hds14];exact h) | (dsimp only;rw [hds14];exact h)))
  rw [A0h hza14 hc20] at h
  rw [G0n] at h
  refine Run.exit (by rfl) ?_
  exact R.mt hmeet10 (a16,a17) (Option.some.inj h)
 rintro p32 rfl
 refine Run.sr (X.makeClo (n:=320) (ns:=[256]) (by rfl) (by rfl) ?_)
 refine X.an ?_
 refine Run.seq (Run.sr (X.fl J0h ?_))
 refine X.ld shp31 ?_
 refine X.ls elt31 ?_
 refine X.mn ?_
 obtain ⟨o33,ho33,h⟩:=bindE h
 refine R.join2 (β:=(List (List Int))×(List (List Bool))) [(3,int (b0.Activities.length:Int)),(4,.lptr 256 0),(5,.lptr 320 0),(7,.tref 320 0 (.clo 130 [256]))] [] (fun p50 S=>S) (fun p50 M=>(256,.blk true [.tref 1792 (p50.1.map (fun r=>rowN 3 1 (List.map int r))).length .out])::(1792,.tre 25 1 (p50.1.map (fun r=>rowN 3 1 (List.map int r))))::(320,.blk true [.tref 1920 (p50.2.map (fun r=>rowN 4 1 (List.map bool r))).length .out])::(1920,.tre 151 1 (p50.2.map (fun r=>rowN 4 1 (List.map bool r))))::M) (fun p50=>p50=o33) ?_ ?_
 ·intro JJ36 hmeet35
  have hup34:=h;clear h;have h:=ho33;clear ho33
  refine Run.block ?_
  refine R.bndS (t:=54) (by rfl) (fun hbd39=>?_)
  replace hbd39:b0.Links.length≤9223372036854775807:=by first | (rw [List.length_map] at hbd39;exact hbd39) | simp
  refine R.lp (β:=Int×(List (List Int))×(List (List Bool))) [(1,.lptr 64 0),(3,int (b0.Activities.length:Int)),(4,.lptr 256 0),(5,.lptr 320 0),(7,.tref 320 0 (.clo 130 [256])),(54,.slice (b0.Links.map A0l)),(55,int (b0.Links.length:Int))] [(64,.blk true [int b0.Deadline,.slice (b0.Activities.map A0d),.slice (b0.Links.map A0l),.slice (b0.Resources.map A0e),.slice (b0.Stocks.map int)])] (fun bb S=>(56,int bb.1)::S) (fun bb M=>(256,.blk true [.tref 1792 (bb.2.1.map (fun r=>rowN 3 1 (List.map int r))).length .out])::(1792,.tre 25 1 (bb.2.1.map (fun r=>rowN 3 1 (List.map int r))))::(320,.blk true [.tref 1920 (bb.2.2.map (fun r=>rowN 4 1 (List.map bool r))).length .out])::(1920,.tre 151 1 (bb.2.2.map (fun r=>rowN 4 1 (List.map bool r))))::M) (fun n bb=>0≤bb.1∧bb.1+n=(b0.Links.length:Int)∧G0q b0 (b0.Links.drop bb.1.toNat) bb.1 bb.2.1 bb.2.2=some o33) b0.Links.length (0,p32.1,p32.2) ⟨Int.le_refl _,by simp,h⟩ ?_
  clear h
  rintro JJ39 n39 ⟨z40,a41,a42⟩ hag39 ⟨hza39,hzb39,h⟩
  dsimp only at hza39 hzb39 h
  refine Run.sr (X.bi ?_)
  refine X.nil (Run.seq ?_)
  refine R.cd (fun hc45=>?_) (fun hc45=>?_)
  ·obtain ⟨x43,xs44,hd39,hx39,hds39,hlt39⟩:=A0k hza39 hc45
   rw [hd39] at h
   rw [G0q] at h
   refine Run.skip (Run.seq (Run.block (Run.sr (X.ix elt31 (A0a hx39).1 (A0c A0l hx39) ?_))))
   refine X.lc shp75 ?_
   refine X.alloc zer75 (h:=?_)
   refine X.sl shp75 ?_
   refine X.nil (Run.draw2 (B0m [(2,([576],[],[],[])),(4,([576],[],[],[])),(5,([64],[],[],[])),(6,([576],[],[],[])),(8,([256,320,1792,1920],[1792,1920],[],[]))]) mixed (by kernel_rfl) (by kernel_rfl) ?_)
   refine X.mv ?_
   refine X.fl J0y ?_
   refine X.ld shp3 ?_
   refine X.fl L0o ?_
   refine X.ld shp3 ?_
   refine X.ld shp34 ?_
   refine X.ld shp75 ?_
   obtain ⟨v46,hv46,h⟩:=bindE h
   refine X.cp (L0s _ _ _ hv46) ?_
   obtain ⟨v47,hv47,h⟩:=bindE h
   obtain ⟨v48,hv48,h⟩:=bindE h
   obtain ⟨v49,hv49,h⟩:=bindE h
   refine X.callClo2 (xs:=[int x43.From,int x43.To,int v46]) (T0c _ _ _ _ _  _ hv47) (by rfl) (by rfl) (by rfl) (by rfl) (by rfl) (by rfl) (by rfl) (by first | rfl | simp [setL] | omega) (by first | rfl | simp [setL] | omega) (by rfl) (by rfl) (by simp [P0s hv48]) (by simp [P0s hv49]) (U0i hv48) (U0i hv49) (by rfl) (by rfl) ?_
   refine X.tell (n:=320) (p':=.blk true [.tref 1920 (v47.1.map (fun r=>rowN 4 1 (List.map bool r))).length .out]) (by rfl) (by simp [P0s hv48,setL]) ?_
   refine X.tell (n:=256) (p':=.blk true [.tref 1792 (v47.2.map (fun r=>rowN 3 1 (List.map int r))).length .out]) (by rfl) (by simp [P0s hv49,setL]) ?_
   refine X.nil (Run.blk (Run.reg (X.ad ?_)))
   refine X.mn ?_
   exact R.ag hag39 (n39 - 1) (z40+1,v47.2,v47.1) (R.n3 (by first | (rw [hds39];exact h) | (dsimp only;rw [hds39];exact h)))
  rw [A0h hza39 hc45] at h
  rw [G0q] at h
  refine Run.exit (by rfl) ?_
  exact R.mt hmeet35 (a41,a42) (Option.some.inj h)
 rintro p50 rfl
 refine Run.seq (Run.sr (X.mv ?_))
 refine X.mn ?_
 obtain ⟨o51,ho51,h⟩:=bindE h
 refine R.join2 (β:=(List (List Int))×(List (List Bool))) [(3,int (b0.Activities.length:Int)),(4,.lptr 256 0),(5,.lptr 320 0)] [] (fun p107 S=>S) (fun p107 M=>(256,.blk true [.tref 1792 (p107.1.map (fun r=>rowN 3 1 (List.map int r))).length .out])::(1792,.tre 25 1 (p107.1.map (fun r=>rowN 3 1 (List.map int r))))::(320,.blk true [.tref 1920 (p107.2.map (fun r=>rowN 4 1 (List.map bool r))).length .out])::(1920,.tre 151 1 (p107.2.map (fun r=>rowN 4 1 (List.map bool r))))::M) (fun p107=>p107=o51) ?_ ?_
 ·intro JJ54 hmeet53
  have hup52:=h;clear h;have h:=ho51;clear ho51
  refine Run.block ?_
  refine R.lp (β:=Int×(List (List Int))×(List (List Bool))) [(3,int (b0.Activities.length:Int)),(4,.lptr 256 0),(5,.lptr 320 0),(7,.tref 320 0 (.clo 130 [256])),(70,int (b0.Activities.length:Int))] [] (fun bb S=>(71,int bb.1)::S) (fun bb M=>(256,.blk true [.tref 1792 (bb.2.1.map (fun r=>rowN 3 1 (List.map int r))).length .out])::(1792,.tre 25 1 (bb.2.1.map (fun r=>rowN 3 1 (List.map int r))))::(320,.blk true [.tref 1920 (bb.2.2.map (fun r=>rowN 4 1 (List.map bool r))).length .out])::(1920,.tre 151 1 (bb.2.2.map (fun r=>rowN 4 1 (List.map bool r))))::M) (fun n bb=>F0j b0 n bb.1 bb.2.1 bb.2.2=some o51) F0 (0,p50.1,p50.2) h ?_
  clear h
  rintro JJ55 n55 ⟨a57,a58,a59⟩ hag55 h
  dsimp only at h
  obtain _ | n55:=n55
  ·exact absurd h (by simp [F0j])
  rw [F0j] at h
  refine Run.sr (X.bi ?_)
  refine X.nil (Run.seq ?_)
  refine R.cd (fun hc62=>?_) (fun hc62=>?_)
  ·replace h:=condT hc62 h
   refine Run.skip (Run.seq (Run.block (Run.sr (X.mv ?_))))
   refine X.an ?_
   refine Run.sr (X.mv ?_)
   refine X.mn ?_
   obtain ⟨o63,ho63,h⟩:=bindE h
   refine R.join2 (β:=(List (List Int))×(List (List Bool))) [(3,int (b0.Activities.length:Int)),(4,.lptr 256 0),(5,.lptr 320 0),(7,.tref 320 0 (.clo 130 [256])),(70,int (b0.Activities.length:Int)),(71,int a57)] [] (fun p106 S=>S) (fun p106 M=>(256,.blk true [.tref 1792 (p106.1.map (fun r=>rowN 3 1 (List.map int r))).length .out])::(1792,.tre 25 1 (p106.1.map (fun r=>rowN 3 1 (List.map int r))))::(320,.blk true [.tref 1920 (p106.2.map (fun r=>rowN 4 1 (List.map bool r))).length .out])::(1920,.tre 151 1 (p106.2.map (fun r=>rowN 4 1 (List.map bool r))))::M) (fun p106=>p106=o63) ?_ ?_
   ·intro JJ66 hmeet65
    have hup64:=h;clear h;have h:=ho63;clear ho63
    refine Run.block ?_
    refine R.lp (β:=Int×(List (List Int))×(List (List Bool))) [(3,int (b0.Activities.length:Int)),(4,.lptr 256 0),(5,.lptr 320 0),(7,.tref 320 0 (.clo 130 [256])),(10,int a57),(70,int (b0.Activities.length:Int)),(71,int a57),(74,int (b0.Activities.length:Int))] [] (fun bb S=>(75,int bb.1)::S) (fun bb M=>(256,.blk true [.tref 1792 (bb.2.1.map (fun r=>rowN 3 1 (List.map int r))).length .out])::(1792,.tre 25 1 (bb.2.1.map (fun r=>rowN 3 1 (List.map int r))))::(320,.blk true [.tref 1920 (bb.2.2.map (fun r=>rowN 4 1 (List.map bool r))).length .out])::(1920,.tre 151 1 (bb.2.2.map (fun r=>rowN 4 1 (List.map bool r))))::M) (fun n bb=>F0g b0 a57 n bb.1 bb.2.1 bb.2.2=some o63) F0 (0,a58,a59) h ?_
    clear h
    rintro JJ67 n67 ⟨a69,a70,a71⟩ hag67 h
    dsimp only at h
    obtain _ | n67:=n67
    ·exact absurd h (by simp [F0g])
    rw [F0g] at h
    refine Run.sr (X.bi ?_)
    refine X.nil (Run.seq ?_)
    refine R.cd (fun hc74=>?_) (fun hc74=>?_)
    ·replace h:=condT hc74 h
     refine Run.skip (Run.seq (Run.block (Run.sr (X.mv ?_))))
     refine X.an ?_
     refine Run.sr (X.mv ?_)
     refine X.mn ?_
     obtain ⟨o75,ho75,h⟩:=bindE h
     refine R.join2 (β:=(List (List Int))×(List (List Bool))) [(3,int (b0.Activities.length:Int)),(4,.lptr 256 0),(5,.lptr 320 0),(7,.tref 320 0 (.clo 130 [256])),(10,int a57),(70,int (b0.Activities.length:Int)),(71,int a57),(74,int (b0.Activities.length:Int)),(75,int a69)] [] (fun p105 S=>S) (fun p105 M=>(256,.blk true [.tref 1792 (p105.1.map (fun r=>rowN 3 1 (List.map int r))).length .out])::(1792,.tre 25 1 (p105.1.map (fun r=>rowN 3 1 (List.map int r))))::(320,.blk true [.tref 1920 (p105.2.map (fun r=>rowN 4 1 (List.map bool r))).length .out])::(1920,.tre 151 1 (p105.2.map (fun r=>rowN 4 1 (List.map bool r))))::M) (fun p105=>p105=o75) ?_ ?_
     ·intro JJ78 hmeet77
      have hup76:=h;clear h;have h:=ho75;clear ho75
      refine Run.block ?_
      refine R.lp (β:=Int×(List (List Int))×(List (List Bool))) [(3,int (b0.Activities.length:Int)),(4,.lptr 256 0),(5,.lptr 320 0),(7,.tref 320 0 (.clo 130 [256])),(10,int a57),(11,int a69),(70,int (b0.Activities.length:Int)),(71,int a57),(74,int (b0.Activities.length:Int)),(75,int a69),(78,int (b0.Activities.length:Int))] [] (fun bb S=>(79,int bb.1)::S) (fun bb M=>(256,.blk true [.tref 1792 (bb.2.1.map (fun r=>rowN 3 1 (List.map int r))).length .out])::(1792,.tre 25 1 (bb.2.1.map (fun r=>rowN 3 1 (List.map int r))))::(320,.blk true [.tref 1920 (bb.2.2.map (fun r=>rowN 4 1 (List.map bool r))).length .out])::(1920,.tre 151 1 (bb.2.2.map (fun r=>rowN 4 1 (List.map bool r))))::M) (fun n bb=>D0x b0 a57 a69 n bb.1 bb.2.1 bb.2.2=some o75) F0 (0,a70,a71) h ?_
      clear h
      rintro JJ79 n79 ⟨a81,a82,a83⟩ hag79 h
      dsimp only at h
      obtain _ | n79:=n79
      ·exact absurd h (by simp [D0x])
      rw [D0x] at h
      refine Run.sr (X.bi ?_)
      refine X.nil (Run.seq ?_)
      refine R.cd (fun hc86=>?_) (fun hc86=>?_)
      ·replace h:=condT hc86 h
       refine Run.skip (Run.seq (Run.block (Run.sr (X.mv ?_))))
       refine X.an ?_
       refine Run.seq ?_
       obtain ⟨v87,hv87,h⟩:=bindE h
       obtain ⟨v88,hv88,h⟩:=bindE h
       obtain ⟨v89,hv89,h⟩:=bindE h
       obtain ⟨e90,he90,h2⟩:=bindE h
       refine R.regG [(3,int (b0.Activities.length:Int)),(4,.lptr 256 0),(5,.lptr 320 0),(7,.tref 320 0 (.clo 130 [256])),(10,int a57),(11,int a69),(12,int a81),(70,int (b0.Activities.length:Int)),(71,int a57),(74,int (b0.Activities.length:Int)),(75,int a69),(78,int (b0.Activities.length:Int)),(79,int a81),(97,bool e90)] [(256,.blk true [.tref 1792 (a82.map (fun r=>rowN 3 1 (List.map int r))).length .out]),(1792,.tre 25 1 (a82.map (fun r=>rowN 3 1 (List.map int r)))),(320,.blk true [.tref 1920 (a83.map (fun r=>rowN 4 1 (List.map bool r))).length .out]),(1920,.tre 151 1 (a83.map (fun r=>rowN 4 1 (List.map bool r))))] ?_ ?_
       ·clear h;have h:=he90;clear he90 h2
        refine X.ld B1c ?_
        refine X.mv ?_
        refine X.idxT2 (l:=a83.map (fun r=>rowN 4 1 (List.map bool r))) A1t (by rfl) (by rfl) (by rfl) ⟨(A0a hv87).1,by have h0:=(A0a hv87).1;have h1:=A0t hv87;rw [List.length_map];(try dsimp only);omega⟩ (by first | rfl | simp [setL] | omega) (by rfl) (by rfl) ?_
        refine X.ldRow2 (sz:=1) C1k (by rfl) (by rfl) (C0y (f:=bool) (e:=4) (sz:=1) hv87 (E0g hv88)) (by first | rfl | simp [setL] | omega) (by rfl) (by rfl) ?_
        refine X.mv ?_
        refine X.idxR2 (l:=a83.map (fun r=>rowN 4 1 (List.map bool r))) (rl:=v87.map bool) D1h (by rfl) (by rfl) (by rfl) (C0y (f:=bool) (e:=4) (sz:=1) hv87 (E0g hv88)) ⟨(A0a hv89).1,by have h0:=(A0a hv89).1;have h1:=A0t hv89;rw [List.length_map];(try dsimp only);omega⟩ (by first | rfl | simp [setL] | omega) (by rfl) (by rfl) ?_
        refine X.ldE2 (sz2:=1) shp4 (by rfl) (by rfl) (C0y (f:=bool) (e:=4) (sz:=1) hv87 (E0g hv88)) (A0x (off:=0) (by exact A0j (f:=bool) (fun _=>rfl)) (A0c bool hv89) (by rfl)) (by first | rfl | simp [setL] | omega) (by rfl) (by rfl) ?_
        refine X.mv ?_
        refine X.iG (fun hb91=>?_) (fun hb91=>?_)
        ·replace h:=condT hb91 h
         refine X.ld B1c ?_
         refine X.gy (X.mv ?_)
         refine X.gy ?_
         obtain ⟨v92,hv92,h⟩:=bindE h
         refine X.idxT2 (l:=a83.map (fun r=>rowN 4 1 (List.map bool r))) A1t (by rfl) (by rfl) (by rfl) ⟨(A0a hv92).1,by have h0:=(A0a hv92).1;have h1:=A0t hv92;rw [List.length_map];(try dsimp only);omega⟩ (by first | rfl | simp [setL] | omega) (by rfl) (by rfl) ?_
         refine X.gy ?_
         obtain ⟨v93,hv93,h⟩:=bindE h
         refine X.ldRow2 (sz:=1) C1k (by rfl) (by rfl) (C0y (f:=bool) (e:=4) (sz:=1) hv92 (E0g hv93)) (by first | rfl | simp [setL] | omega) (by rfl) (by rfl) ?_
         refine X.gy (X.mv ?_)
         refine X.gy ?_
         obtain ⟨v94,hv94,h⟩:=bindE h
         refine X.idxR2 (l:=a83.map (fun r=>rowN 4 1 (List.map bool r))) (rl:=v92.map bool) D1h (by rfl) (by rfl) (by rfl) (C0y (f:=bool) (e:=4) (sz:=1) hv92 (E0g hv93)) ⟨(A0a hv94).1,by have h0:=(A0a hv94).1;have h1:=A0t hv94;rw [List.length_map];(try dsimp only);omega⟩ (by first | rfl | simp [setL] | omega) (by rfl) (by rfl) ?_
         refine X.gy ?_
         refine X.ldE2 (sz2:=1) shp4 (by rfl) (by rfl) (C0y (f:=bool) (e:=4) (sz:=1) hv92 (E0g hv93)) (A0x (off:=0) (by exact A0j (f:=bool) (fun _=>rfl)) (A0c bool hv94) (by rfl)) (by first | rfl | simp [setL] | omega) (by rfl) (by rfl) ?_
         refine X.pT ?_
         cases h
         exact X.eG
        replace h:=condF hb91 h
        refine X.gn (X.gn (X.gn (X.gn (X.gn (X.gn (X.pF ?_))))))
        cases h
        exact X.eG
       replace h:=h2;clear h2
       refine R.cd (fun hc95=>?_) (fun hc95=>?_)
       ·replace h:=condT hc95 h
        refine Run.draw2 (B0m [(3,([256],[],[],[])),(5,([1792],[],[],[])),(6,([1792],[],[],[])),(8,([1792],[],[],[])),(9,([1792],[],[],[])),(10,([256],[],[],[])),(12,([1792],[],[],[])),(13,([1792],[],[],[])),(15,([1792],[],[],[])),(16,([1792],[],[],[])),(18,([256,320,1792,1920],[1792,1920],[],[]))]) mixed (by kernel_rfl) (by kernel_rfl) ?_
        refine X.mv ?_
        refine X.mv ?_
        refine X.mv ?_
        refine X.ld shp61 ?_
        refine X.mv ?_
        obtain ⟨v96,hv96,h⟩:=bindE h
        refine X.idxT2 (l:=a82.map (fun r=>rowN 3 1 (List.map int r))) elt61 (by rfl) (by rfl) (by rfl) ⟨(A0a hv96).1,by have h0:=(A0a hv96).1;have h1:=A0t hv96;rw [List.length_map];(try dsimp only);omega⟩ (by first | rfl | simp [setL] | omega) (by rfl) (by rfl) ?_
        obtain ⟨v97,hv97,h⟩:=bindE h
        refine X.ldRow2 (sz:=1) shp25 (by rfl) (by rfl) (C0y (f:=int) (e:=3) (sz:=1) hv96 (E0g hv97)) (by first | rfl | simp [setL] | omega) (by rfl) (by rfl) ?_
        refine X.mv ?_
        obtain ⟨v98,hv98,h⟩:=bindE h
        refine X.idxR2 (l:=a82.map (fun r=>rowN 3 1 (List.map int r))) (rl:=v96.map int) elt25 (by rfl) (by rfl) (by rfl) (C0y (f:=int) (e:=3) (sz:=1) hv96 (E0g hv97)) ⟨(A0a hv98).1,by have h0:=(A0a hv98).1;have h1:=A0t hv98;rw [List.length_map];(try dsimp only);omega⟩ (by first | rfl | simp [setL] | omega) (by rfl) (by rfl) ?_
        refine X.ldE2 (sz2:=1) shp3 (by rfl) (by rfl) (C0y (f:=int) (e:=3) (sz:=1) hv96 (E0g hv97)) (A0x (off:=0) (by exact A0j (f:=int) (fun _=>rfl)) (A0c int hv98) (by rfl)) (by first | rfl | simp [setL] | omega) (by rfl) (by rfl) ?_
        refine X.ld shp61 ?_
        refine X.mv ?_
        obtain ⟨v99,hv99,h⟩:=bindE h
        refine X.idxT2 (l:=a82.map (fun r=>rowN 3 1 (List.map int r))) elt61 (by rfl) (by rfl) (by rfl) ⟨(A0a hv99).1,by have h0:=(A0a hv99).1;have h1:=A0t hv99;rw [List.length_map];(try dsimp only);omega⟩ (by first | rfl | simp [setL] | omega) (by rfl) (by rfl) ?_
        obtain ⟨v100,hv100,h⟩:=bindE h
        refine X.ldRow2 (sz:=1) shp25 (by rfl) (by rfl) (C0y (f:=int) (e:=3) (sz:=1) hv99 (E0g hv100)) (by first | rfl | simp [setL] | omega) (by rfl) (by rfl) ?_
        refine X.mv ?_
        obtain ⟨v101,hv101,h⟩:=bindE h
        refine X.idxR2 (l:=a82.map (fun r=>rowN 3 1 (List.map int r))) (rl:=v99.map int) elt25 (by rfl) (by rfl) (by rfl) (C0y (f:=int) (e:=3) (sz:=1) hv99 (E0g hv100)) ⟨(A0a hv101).1,by have h0:=(A0a hv101).1;have h1:=A0t hv101;rw [List.length_map];(try dsimp only);omega⟩ (by first | rfl | simp [setL] | omega) (by rfl) (by rfl) ?_
        refine X.ldE2 (sz2:=1) shp3 (by rfl) (by rfl) (C0y (f:=int) (e:=3) (sz:=1) hv99 (E0g hv100)) (A0x (off:=0) (by exact A0j (f:=int) (fun _=>rfl)) (A0c int hv101) (by rfl)) (by first | rfl | simp [setL] | omega) (by rfl) (by rfl) ?_
        refine X.addW (h:=?_)
        obtain ⟨v102,hv102,h⟩:=bindE h
        obtain ⟨v103,hv103,h⟩:=bindE h
        obtain ⟨v104,hv104,h⟩:=bindE h
        refine X.callClo2 (xs:=[int a69,int a81,int (W (v98+v101))]) (T0c _ _ _ _ _  _ hv102) (by rfl) (by rfl) (by rfl) (by rfl) (by rfl) (by rfl) (by rfl) (by first | rfl | simp [setL] | omega) (by first | rfl | simp [setL] | omega) (by rfl) (by rfl) (by simp [P0s hv103]) (by simp [P0s hv104]) (U0i hv103) (U0i hv104) (by rfl) (by rfl) ?_
        refine X.tell (n:=320) (p':=.blk true [.tref 1920 (v102.1.map (fun r=>rowN 4 1 (List.map bool r))).length .out]) (by rfl) (by simp [P0s hv103,setL]) ?_
        refine X.tell (n:=256) (p':=.blk true [.tref 1792 (v102.2.map (fun r=>rowN 3 1 (List.map int r))).length .out]) (by rfl) (by simp [P0s hv104,setL]) ?_
        refine X.nil (Run.blk (Run.reg (X.addW (h:=?_))))
        refine X.mn ?_
        exact hag79 n79 ((W (a81+1)),v102.2,v102.1) _ _ (by omega) h (by repeat (first | trivial | refine ⟨by first | rfl | simp [setL],?_⟩)) (by repeat (first | trivial | refine ⟨by first | rfl | simp [setL],?_⟩)) (by rfl) (by rfl)
       replace h:=condF hc95 h
       refine Run.skip (Run.blk (Run.reg (X.addW (h:=?_))))
       refine X.mn ?_
       exact hag79 n79 ((W (a81+1)),a82,a83) _ _ (by omega) h (by repeat (first | trivial | refine ⟨by first | rfl | simp [setL],?_⟩)) (by repeat (first | trivial | refine ⟨by first | rfl | simp [setL],?_⟩)) (by rfl) (by rfl)
      replace h:=condF hc86 h
      refine Run.exit (by rfl) ?_
      exact R.mt hmeet77 (a82,a83) (Option.some.inj h)
     rintro p105 rfl
     refine Run.blk (Run.reg (X.addW (h:=?_)))
     refine X.mn ?_
     exact hag67 n67 ((W (a69+1)),p105.1,p105.2) _ _ (by omega) h (by repeat (first | trivial | refine ⟨by first | rfl | simp [setL],?_⟩)) (by repeat (first | trivial | refine ⟨by first | rfl | simp [setL],?_⟩)) (by rfl) (by rfl)
    replace h:=condF hc74 h
    refine Run.exit (by rfl) ?_
    exact R.mt hmeet65 (a70,a71) (Option.some.inj h)
   rintro p106 rfl
   refine Run.blk (Run.reg (X.addW (h:=?_)))
   refine X.mn ?_
   exact hag55 n55 ((W (a57+1)),p106.1,p106.2) _ _ (by omega) h (by repeat (first | trivial | refine ⟨by first | rfl | simp [setL],?_⟩)) (by repeat (first | trivial | refine ⟨by first | rfl | simp [setL],?_⟩)) (by rfl) (by rfl)
  replace h:=condF hc62 h
  refine Run.exit (by rfl) ?_
  exact R.mt hmeet53 (a58,a59) (Option.some.inj h)
 rintro p107 rfl
 refine Run.seq (Run.sr (X.mv ?_))
 refine X.mn ?_
 obtain ⟨o108,ho108,h⟩:=bindE h
 refine R.join2 (β:=(List (List Int))) [(4,.lptr 256 0)] [] (fun p138 S=>S) (fun p138 M=>(256,.blk true [.tref 1792 (p138.map (fun r=>rowN 3 1 (List.map int r))).length .out])::(1792,.tre 25 1 (p138.map (fun r=>rowN 3 1 (List.map int r))))::M) (fun p138=>p138=o108) ?_ ?_
 ·intro JJ111 hmeet110
  have hup109:=h;clear h;have h:=ho108;clear ho108
  refine Run.block ?_
  refine R.lp (β:=Int×(List (List Int))) [(3,int (b0.Activities.length:Int)),(4,.lptr 256 0),(5,.lptr 320 0),(120,int (b0.Activities.length:Int))] [(1920,.tre 151 1 (p107.2.map (fun r=>rowN 4 1 (List.map bool r))))] (fun bb S=>(121,int bb.1)::S) (fun bb M=>(256,.blk true [.tref 1792 (bb.2.map (fun r=>rowN 3 1 (List.map int r))).length .out])::(1792,.tre 25 1 (bb.2.map (fun r=>rowN 3 1 (List.map int r))))::(320,.blk true [.tref 1920 (p107.2.map (fun r=>rowN 4 1 (List.map bool r))).length .out])::M) (fun n bb=>F0f b0 p107 n bb.1 bb.2=some o108) F0 (0,p107.1) h ?_
  clear h
  rintro JJ112 n112 ⟨a114,a115⟩ hag112 h
  dsimp only at h
  obtain _ | n112:=n112
  ·exact absurd h (by simp [F0f])
  rw [F0f] at h
  refine Run.sr (X.bi ?_)
  refine X.nil (Run.seq ?_)
  refine R.cd (fun hc118=>?_) (fun hc118=>?_)
  ·replace h:=condT hc118 h
   refine Run.skip (Run.seq (Run.block (Run.sr (X.mv ?_))))
   refine X.an ?_
   refine Run.sr (X.mv ?_)
   refine X.mn ?_
   obtain ⟨o119,ho119,h⟩:=bindE h
   refine R.join2 (β:=(List (List Int))) [(3,int (b0.Activities.length:Int)),(4,.lptr 256 0),(5,.lptr 320 0),(120,int (b0.Activities.length:Int)),(121,int a114)] [(1920,.tre 151 1 (p107.2.map (fun r=>rowN 4 1 (List.map bool r))))] (fun p137 S=>S) (fun p137 M=>(256,.blk true [.tref 1792 (p137.map (fun r=>rowN 3 1 (List.map int r))).length .out])::(1792,.tre 25 1 (p137.map (fun r=>rowN 3 1 (List.map int r))))::(320,.blk true [.tref 1920 (p107.2.map (fun r=>rowN 4 1 (List.map bool r))).length .out])::M) (fun p137=>p137=o119) ?_ ?_
   ·intro JJ122 hmeet121
    have hup120:=h;clear h;have h:=ho119;clear ho119
    refine Run.block ?_
    refine R.lp (β:=Int×(List (List Int))) [(3,int (b0.Activities.length:Int)),(4,.lptr 256 0),(5,.lptr 320 0),(13,int a114),(120,int (b0.Activities.length:Int)),(121,int a114),(124,int (b0.Activities.length:Int))] [(1920,.tre 151 1 (p107.2.map (fun r=>rowN 4 1 (List.map bool r))))] (fun bb S=>(125,int bb.1)::S) (fun bb M=>(256,.blk true [.tref 1792 (bb.2.map (fun r=>rowN 3 1 (List.map int r))).length .out])::(1792,.tre 25 1 (bb.2.map (fun r=>rowN 3 1 (List.map int r))))::(320,.blk true [.tref 1920 (p107.2.map (fun r=>rowN 4 1 (List.map bool r))).length .out])::M) (fun n bb=>D0w b0 p107 a114 n bb.1 bb.2=some o119) F0 (0,a115) h ?_
    clear h
    rintro JJ123 n123 ⟨a125,a126⟩ hag123 h
    dsimp only at h
    obtain _ | n123:=n123
    ·exact absurd h (by simp [D0w])
    rw [D0w] at h
    refine Run.sr (X.bi ?_)
    refine X.nil (Run.seq ?_)
    refine R.cd (fun hc129=>?_) (fun hc129=>?_)
    ·replace h:=condT hc129 h
     refine Run.skip (Run.seq (Run.block (Run.sr (X.mv ?_))))
     refine X.an ?_
     refine Run.sr (X.ld B1c ?_)
     refine X.mv ?_
     obtain ⟨v130,hv130,h⟩:=bindE h
     refine X.idxT2 (l:=p107.2.map (fun r=>rowN 4 1 (List.map bool r))) A1t (by rfl) (by rfl) (by rfl) ⟨(A0a hv130).1,by have h0:=(A0a hv130).1;have h1:=A0t hv130;rw [List.length_map];(try dsimp only);omega⟩ (by first | rfl | simp [setL] | omega) (by rfl) (by rfl) ?_
     obtain ⟨v131,hv131,h⟩:=bindE h
     refine X.ldRow2 (sz:=1) C1k (by rfl) (by rfl) (C0y (f:=bool) (e:=4) (sz:=1) hv130 (E0g hv131)) (by first | rfl | simp [setL] | omega) (by rfl) (by rfl) ?_
     refine X.mv ?_
     obtain ⟨v132,hv132,h⟩:=bindE h
     refine X.idxR2 (l:=p107.2.map (fun r=>rowN 4 1 (List.map bool r))) (rl:=v130.map bool) D1h (by rfl) (by rfl) (by rfl) (C0y (f:=bool) (e:=4) (sz:=1) hv130 (E0g hv131)) ⟨(A0a hv132).1,by have h0:=(A0a hv132).1;have h1:=A0t hv132;rw [List.length_map];(try dsimp only);omega⟩ (by first | rfl | simp [setL] | omega) (by rfl) (by rfl) ?_
     refine X.ldE2 (sz2:=1) shp4 (by rfl) (by rfl) (C0y (f:=bool) (e:=4) (sz:=1) hv130 (E0g hv131)) (A0x (off:=0) (by exact A0j (f:=bool) (fun _=>rfl)) (A0c bool hv132) (by rfl)) (by first | rfl | simp [setL] | omega) (by rfl) (by rfl) ?_
     refine X.un (h:=?_)
     refine X.nil ?_
     refine R.cd (fun hc133=>?_) (fun hc133=>?_)
     ·replace h:=condT hc133 h
      refine Run.reg (X.ld shp61 ?_)
      refine X.mv ?_
      obtain ⟨v134,hv134,h⟩:=bindE h
      refine X.idxT2 (l:=a126.map (fun r=>rowN 3 1 (List.map int r))) elt61 (by rfl) (by rfl) (by rfl) ⟨(A0a hv134).1,by have h0:=(A0a hv134).1;have h1:=A0t hv134;rw [List.length_map];(try dsimp only);omega⟩ (by first | rfl | simp [setL] | omega) (by rfl) (by rfl) ?_
      obtain ⟨v135,hv135,h⟩:=bindE h
      refine X.ldRow2 (sz:=1) shp25 (by rfl) (by rfl) (C0y (f:=int) (e:=3) (sz:=1) hv134 (E0g hv135)) (by first | rfl | simp [setL] | omega) (by rfl) (by rfl) ?_
      refine X.mv ?_
      obtain ⟨v136,hv136,h⟩:=bindE h
      refine X.idxR2 (l:=a126.map (fun r=>rowN 3 1 (List.map int r))) (rl:=v134.map int) elt25 (by rfl) (by rfl) (by rfl) (C0y (f:=int) (e:=3) (sz:=1) hv134 (E0g hv135)) ⟨(A0a hv136).1,by have h0:=(A0a hv136).1;have h1:=A0t hv136;rw [List.length_map];(try dsimp only);omega⟩ (by first | rfl | simp [setL] | omega) (by rfl) (by rfl) ?_
      refine X.stE2 (l2:=(setL a126 a114 (setL v134 a125 (-1000))).map (fun r=>rowN 3 1 (List.map int r))) (rl2:=(setL v134 a125 (-1000)).map int) (sz2:=1) (sz:=1) shp3 (by rfl) (by rfl) (by rfl) (C0y (f:=int) (e:=3) (sz:=1) hv134 (E0g hv135)) (A0x (off:=0) (by exact A0j (f:=int) (fun _=>rfl)) (A0c int hv136) (by rfl)) (by simp [setL]) (by exact A0j (f:=int) (fun _=>rfl)) (by rw [← D0e];exact L0y (by exact A0j (f:=int) (fun _=>rfl)) (A0c int hv136) (by rfl) (by decide)) (by simp [setL]) (V0r _) (V0z (f:=int) (e:=3) (sz:=1) hv134 (G1s _ _ (E0g hv135))) (by first | rfl | simp [setL] | omega) (by rfl) ?_
      refine X.nil (Run.blk (Run.reg (X.addW (h:=?_))))
      refine X.mn ?_
      refine R.tell (n:=256) (p':=.blk true [.tref 1792 ((setL a126 a114 (setL v134 a125 (-1000))).map (fun r=>rowN 3 1 (List.map int r))).length .out]) (by rfl) (by first | rfl | simp [setL]) ?_
      exact hag123 n123 ((W (a125+1)),(setL a126 a114 (setL v134 a125 (-1000)))) _ _ (by omega) h (by repeat (first | trivial | refine ⟨by first | rfl | simp [setL],?_⟩)) (by repeat (first | trivial | refine ⟨by first | rfl | simp [setL],?_⟩)) (by rfl) (by rfl)
     replace h:=condF hc133 h
     refine Run.skip (Run.blk (Run.reg (X.addW (h:=?_))))
     refine X.mn ?_
     exact hag123 n123 ((W (a125+1)),a126) _ _ (by omega) h (by repeat (first | trivial | refine ⟨by first | rfl | simp [setL],?_⟩)) (by repeat (first | trivial | refine ⟨by first | rfl | simp [setL],?_⟩)) (by rfl) (by rfl)
    replace h:=condF hc129 h
    refine Run.exit (by rfl) ?_
    exact R.mt hmeet121 a126 (Option.some.inj h)
   rintro p137 rfl
   refine Run.blk (Run.reg (X.addW (h:=?_)))
   refine X.mn ?_
   exact hag112 n112 ((W (a114+1)),p137) _ _ (by omega) h (by repeat (first | trivial | refine ⟨by first | rfl | simp [setL],?_⟩)) (by repeat (first | trivial | refine ⟨by first | rfl | simp [setL],?_⟩)) (by rfl) (by rfl)
  replace h:=condF hc118 h
  refine Run.exit (by rfl) ?_
  exact R.mt hmeet110 a115 (Option.some.inj h)
 rintro p138 rfl
 refine Run.sr (X.ld shp61 ?_)
 refine X.an ?_
 obtain ⟨v139,hv139,h⟩:=bindE h
 cases h
 refine R.fin1t Tryz.results97 (by rfl) (by rfl) (by first | rfl | simp [setL] | omega) ?_
 exact congrArg (PV.tre _ _) (P1h hv139)
theorem W0q (b0:A0b)(r:List Int)(h:K0c b0=some r):PC Tryz.prog 59 [A0n b0] (.fresh false 3 1 (r.map int)):=by
 unfold K0c at h
 refine PC.start Tryz.func59 Tryz.ntmps59 rfl ok59 rfl ?_
 refine Run.sr (X.bx ?_)
 refine X.an ?_
 refine Run.sr (X.ld shp34 ?_)
 obtain ⟨v1,hv1,h⟩:=bindE h
 refine X.callTr (E1w _ _ hv1) (by rfl) (by rfl) (by rfl) (by trivial) (by rfl) (by rfl) (by rfl) (by rfl) ?_
 refine X.an ?_
 refine Run.sr (X.mv ?_)
 refine X.lenT (z:=(v1.length:Int)) elt61 (by rfl) (by rfl) (by first | rfl | simp [setL] | omega) (by simp) (by rfl) (by rfl) ?_
 obtain ⟨v2,hv2,h⟩:=bindE h
 refine X.makeSlice2 int hv2 elt25 zer3 (by rfl) (by rfl) (by rfl) (by simp [PV.plain]) (by rfl) (by rfl) (by rfl) (by rfl) (by rfl) (by rfl) ?_
 refine X.an ?_
 refine Run.seq (Run.sr (X.mv ?_))
 refine X.lenT (z:=(v1.length:Int)) elt61 (by rfl) (by rfl) (by first | rfl | simp [setL] | omega) (by simp) (by rfl) (by rfl) ?_
 refine X.mn ?_
 obtain ⟨o3,ho3,h⟩:=bindE h
 refine R.join2 (β:=(List Int)) [] [] (fun p29 S=>(4,.own 832 (p29.map int).length)::S) (fun p29 M=>(832,.obj true 3 1 (p29.map int))::M) (fun p29=>p29=o3) ?_ ?_
 ·intro JJ6 hmeet5
  have hup4:=h;clear h;have h:=ho3;clear ho3
  refine Run.block ?_
  refine R.lp (β:=Int×(List Int)) [(15,int (v1.length:Int))] [(640,.tre 25 1 (v1.map t_int))] (fun bb S=>(4,.own 832 (bb.2.map int).length)::(14,.tref 640 (v1.map t_int).length .out)::(16,int bb.1)::S) (fun bb M=>(832,.obj true 3 1 (bb.2.map int))::M) (fun n bb=>C0a v1 n bb.1 bb.2=some o3) F0 (0,v2) h ?_
  clear h
  rintro JJ7 n7 ⟨a9,a10⟩ hag7 h
  dsimp only at h
  obtain _ | n7:=n7
  ·exact absurd h (by simp [C0a])
  rw [C0a] at h
  refine Run.sr (X.bi ?_)
  refine X.nil (Run.seq ?_)
  refine R.cd (fun hc13=>?_) (fun hc13=>?_)
  ·replace h:=condT hc13 h
   refine Run.skip (Run.seq (Run.block (Run.sr ?_)))
   obtain ⟨v14,hv14,h⟩:=bindE h
   refine X.idxT (l:=v1.map t_int) elt61 ⟨(A0a hv14).1,by have h0:=(A0a hv14).1;have h1:=A0t hv14;rw [List.length_map];(try dsimp only);omega⟩ (by first | rfl | simp [setL] | omega) ?_
   refine X.ldRow (sz:=1) shp25 (A0x (off:=0) (by exact A0j (f:=t_int) (fun _=>rfl)) (A0c t_int hv14) (by rfl)) (by first | rfl | simp [setL] | omega) ?_
   refine X.an ?_
   refine Run.sr (X.mv ?_)
   refine X.lenR (l:=v1.map t_int) (rl:=v14.map int) (z:=(v14.length:Int)) elt25 (A0x (off:=0) (by exact A0j (f:=t_int) (fun _=>rfl)) (A0c t_int hv14) (by rfl)) (by simp) (by first | rfl | simp [setL] | omega) ?_
   refine X.mn ?_
   obtain ⟨o15,ho15,h⟩:=bindE h
   refine R.join2 (β:=(List Int)) [(15,int (v1.length:Int)),(16,int a9)] [(640,.tre 25 1 (v1.map t_int))] (fun p28 S=>(4,.own 832 (p28.map int).length)::(14,.tref 640 (v1.map t_int).length .out)::S) (fun p28 M=>(832,.obj true 3 1 (p28.map int))::M) (fun p28=>p28=o15) ?_ ?_
   ·intro JJ18 hmeet17
    have hup16:=h;clear h;have h:=ho15;clear ho15
    refine Run.block ?_
    refine R.lp (β:=Int×(List Int)) [(15,int (v1.length:Int)),(16,int a9),(20,.tref 640 (v1.map t_int).length (.row ((a9).toNat*1+0))),(21,int (v14.length:Int))] [(640,.tre 25 1 (v1.map t_int))] (fun bb S=>(4,.own 832 (bb.2.map int).length)::(14,.tref 640 (v1.map t_int).length .out)::(22,int bb.1)::S) (fun bb M=>(832,.obj true 3 1 (bb.2.map int))::M) (fun n bb=>C0e v14 n bb.1 bb.2=some o15) F0 (0,a10) h ?_
    clear h
    rintro JJ19 n19 ⟨a21,a22⟩ hag19 h
    dsimp only at h
    obtain _ | n19:=n19
    ·exact absurd h (by simp [C0e])
    rw [C0e] at h
    refine Run.sr (X.bi ?_)
    refine X.nil (Run.seq ?_)
    refine R.cd (fun hc25=>?_) (fun hc25=>?_)
    ·replace h:=condT hc25 h
     refine Run.skip (Run.seq (Run.block (Run.sr (X.mv ?_))))
     obtain ⟨v26,hv26,h⟩:=bindE h
     refine X.idxR (l:=v1.map t_int) (rl:=v14.map int) elt25 (A0x (off:=0) (by exact A0j (f:=t_int) (fun _=>rfl)) (A0c t_int hv14) (by rfl)) ⟨(A0a hv26).1,by have h0:=(A0a hv26).1;have h1:=A0t hv26;rw [List.length_map];(try dsimp only);omega⟩ (by first | rfl | simp [setL] | omega) ?_
     refine X.ldE (sz2:=1) shp3 (A0x (off:=0) (by exact A0j (f:=t_int) (fun _=>rfl)) (A0c t_int hv14) (by rfl)) (A0x (off:=0) (by exact A0j (f:=int) (fun _=>rfl)) (A0c int hv26) (by rfl)) (by first | rfl | simp [setL] | omega) ?_
     refine X.as ?_
     refine X.an ?_
     refine Run.reg (X.mv ?_)
     refine X.mv ?_
     refine X.mv ?_
     refine X.mv ?_
     obtain ⟨v27,hv27,h⟩:=bindE h
     refine X.index_xs elt25 (by rfl) (by rfl) (by first | rfl | simp [setL] | omega) (by rfl) (by exact (Int.toNat_of_nonneg (A0a hv27).1).symm) (by have:=A0t hv27;first | exact this | (rw [List.length_map];exact this)) (by rfl) (by rfl) ?_
     refine X.load_e shp3 (by rfl) (by rfl) (by rfl) (by first | rfl | simp [setL] | omega) (A0c _ hv27) (by rfl) (by rfl) (by rfl) ?_
     refine X.mv ?_
     refine X.max2 (by rfl) (by rfl) (by rfl) ?_
     refine X.index_xs elt25 (by rfl) (by rfl) (by first | rfl | simp [setL] | omega) (by rfl) (by exact (Int.toNat_of_nonneg (A0a hv27).1).symm) (by have:=A0t hv27;first | exact this | (rw [List.length_map];exact this)) (by rfl) (by rfl) ?_
     refine X.store_es shp3 (by rfl) (by rfl) (by first | rfl | simp [setL] | omega) (A0c _ hv27) (by rfl) (by rfl) (by repeat (first | trivial | refine ⟨by first | rfl | simp [setL],?_⟩)) (by rfl) (by rfl) (by rfl) (by rfl) (by exact D0e _ _ _ (max v27 v26)) ?_
     refine X.nil (Run.blk (Run.reg (X.addW (h:=?_))))
     refine X.mn ?_
     refine R.castS (t:=4) (.own 832 ((setL a22 a21 (max v27 v26)).map int).length) (by rfl) (.inl (by first | rfl | simp [setL])) ?_
     exact hag19 n19 ((W (a21+1)),(setL a22 a21 (max v27 v26))) _ _ (by omega) h (by repeat (first | trivial | refine ⟨by first | rfl | simp [setL],?_⟩)) (by repeat (first | trivial | refine ⟨by first | rfl | simp [setL],?_⟩)) (by rfl) (by rfl)
    replace h:=condF hc25 h
    refine Run.exit (by rfl) ?_
    exact R.mt hmeet17 a22 (Option.some.inj h)
   rintro p28 rfl
   refine Run.blk (Run.reg (X.addW (h:=?_)))
   refine X.mn ?_
   exact hag7 n7 ((W (a9+1)),p28) _ _ (by omega) h (by repeat (first | trivial | refine ⟨by first | rfl | simp [setL],?_⟩)) (by repeat (first | trivial | refine ⟨by first | rfl | simp [setL],?_⟩)) (by rfl) (by rfl)
  replace h:=condF hc13 h
  refine Run.exit (by rfl) ?_
  exact R.mt hmeet5 a10 (Option.some.inj h)
 rintro p29 rfl
 refine Run.sr (X.mv ?_)
 refine X.an ?_
 cases h
 refine R.pubObj (n:=832) (by rfl) ?_
 refine R.fin1o Tryz.results59 (by rfl) (by rfl) (by first | rfl | simp [setL] | omega) ?_
 rfl
theorem V0p (b0:A0b)(b1:Int)(r:Int)(h:H0n b0 b1=some r):PC Tryz.prog 60 [A0n b0,int b1] (int r):=by
 unfold H0n at h
 refine PC.start Tryz.func60 Tryz.ntmps60 rfl ok60 rfl ?_
 refine Run.sr (X.bx ?_)
 refine X.an ?_
 refine Run.seq (Run.draw (B0m [(1,([128],[],[],[])),(6,([128],[],[],[])),(10,([],[960],[],[])),(11,([960],[],[],[]))]) mixed (by kernel_rfl) (by kernel_rfl) ?_)
 refine X.fl B0l ?_
 refine X.ld shp30 ?_
 refine X.mv ?_
 obtain ⟨v1,hv1,h⟩:=bindE h
 refine X.ix elt30 (A0a hv1).1 (A0c A0d hv1) ?_
 refine X.lc shp67 ?_
 refine X.fl B0l ?_
 refine X.ld shp30 ?_
 refine X.mv ?_
 refine X.ix elt30 (A0a hv1).1 (A0c A0d hv1) ?_
 refine X.lc shp67 ?_
 obtain ⟨v2,hv2,h⟩:=bindE h
 refine X.callF (K0d _ _ hv2) (by rfl) (by rfl) (by rfl) (by trivial) (by rfl) (by rfl) (by rfl) (by rfl) ?_
 obtain ⟨v3,hv3,h⟩:=bindE h
 refine X.cp (P0x _ _ _ hv3) ?_
 refine X.an ?_
 cases h
 refine R.f1 Tryz.results60 ?_
 rfl
theorem S0m (b0:A0b)(r:Int)(h:K0z b0=some r):PC Tryz.prog 25 [A0n b0] (int r):=by
 unfold K0z at h
 refine PC.start Tryz.func25 Tryz.ntmps25 rfl ok25 rfl ?_
 refine Run.sr (X.bx ?_)
 refine X.an ?_
 refine Run.sr (X.an ?_)
 refine Run.seq (Run.sr (X.ld shp34 ?_))
 obtain ⟨v1,hv1,h⟩:=bindE h
 refine X.callF (W0q _ _ hv1) (by rfl) (by rfl) (by rfl) (by trivial) (by rfl) (by rfl) (by rfl) (by rfl) ?_
 refine X.len_o elt25 (by rfl) (by rfl) (by first | rfl | simp [setL] | omega) (by first | exact List.length_map .. | rfl) (by rfl) (by rfl) ?_
 refine X.mn ?_
 obtain ⟨o2,ho2,h⟩:=bindE h
 refine R.join2 (β:=Int) [] [] (fun p15 S=>(3,int p15)::S) (fun p15 M=>M) (fun p15=>p15=o2) ?_ ?_
 ·intro JJ5 hmeet4
  have hup3:=h;clear h;have h:=ho2;clear ho2
  refine Run.block ?_
  refine R.bndO (n:=448) (by rfl) (fun hbd8=>?_)
  replace hbd8:v1.length≤9223372036854775807:=by first | (rw [List.length_map] at hbd8;exact hbd8) | simp
  refine R.lp (β:=Int×Int) [(1,.lptr 64 0),(8,int (v1.length:Int))] [(64,.blk true [int b0.Deadline,.slice (b0.Activities.map A0d),.slice (b0.Links.map A0l),.slice (b0.Resources.map A0e),.slice (b0.Stocks.map int)]),(448,.obj false 3 1 (v1.map int))] (fun bb S=>(3,int bb.2)::(7,.own 448 (v1.map int).length)::(9,int bb.1)::S) (fun bb M=>M) (fun n bb=>0≤bb.1∧bb.1+n=(v1.length:Int)∧J0b b0 (v1.drop bb.1.toNat) bb.1 bb.2=some o2) v1.length (0,0) ⟨Int.le_refl _,by simp,h⟩ ?_
  clear h
  rintro JJ8 n8 ⟨z9,a10⟩ hag8 ⟨hza8,hzb8,h⟩
  dsimp only at hza8 hzb8 h
  refine Run.sr (X.bi ?_)
  refine X.nil (Run.seq ?_)
  refine R.cd (fun hc13=>?_) (fun hc13=>?_)
  ·obtain ⟨x11,xs12,hd8,hx8,hds8,hlt8⟩:=A0k hza8 hc13
   rw [hd8] at h
   rw [J0b] at h
   refine Run.skip (Run.seq (Run.block (Run.sr (X.mv ?_))))
   refine X.index_o elt25 (by rfl) (by rfl) (by first | rfl | simp [setL] | omega) (by rfl) (A0a hx8).1 (A0c int hx8) (by rfl) (by rfl) (by rfl) ?_
   refine X.lc shp3 ?_
   refine X.as ?_
   refine X.an ?_
   refine Run.reg (X.mv ?_)
   refine X.mv ?_
   refine X.ld shp34 ?_
   refine X.mv ?_
   obtain ⟨v14,hv14,h⟩:=bindE h
   refine X.cp (V0p _ _ _ hv14) ?_
   refine X.addW (h:=?_)
   refine X.max2 (by rfl) (by rfl) (by rfl) ?_
   refine X.an ?_
   refine Run.blk (Run.reg (X.ad ?_))
   refine X.mn ?_
   exact R.ag hag8 (n8 - 1) (z9+1,(max a10 (W (x11+v14)))) (R.n3 (by first | (rw [hds8];exact h) | (dsimp only;rw [hds8];exact h)))
  rw [A0h hza8 hc13] at h
  rw [J0b] at h
  refine Run.exit (by rfl) ?_
  exact R.mt hmeet4 a10 (Option.some.inj h)
 rintro p15 rfl
 refine Run.sr (X.mv ?_)
 refine X.an ?_
 cases h
 refine R.f1 Tryz.results25 ?_
 rfl
theorem A1r (b0:List Int)(b1:Int)(r:Int×Bool)(h:S0u b0 b1=some r):PC Tryz.prog 102 [.slice (b0.map int),int b1] (.tuple [int r.1,bool r.2]):=by
 unfold S0u at h
 refine PC.start Tryz.func102 Tryz.ntmps102 rfl ok102 rfl ?_
 refine Run.sr (X.as ?_)
 refine X.an ?_
 refine Run.seq (Run.sr (X.mv ?_))
 refine X.mv ?_
 refine X.ls elt25 ?_
 refine X.subW (h:=?_)
 obtain ⟨v1,hv1,h⟩:=bindE h
 refine X.cp (C0j _ _ _ _ hv1) ?_
 refine X.un (h:=?_)
 refine X.nil ?_
 refine R.cd (fun hc2=>?_) (fun hc2=>?_)
 ·replace h:=condT hc2 h
  refine Run.sr (X.as ?_)
  refine X.an ?_
  cases h
  refine R.fin2 Tryz.results102 (by rfl) (by rfl) (by rfl) (by repeat (first | trivial | refine ⟨by first | rfl | simp [setL],?_⟩)) ?_
  rfl
 replace h:=condF hc2 h
 refine Run.skip (Run.sr (X.mv ?_))
 refine X.mv ?_
 obtain ⟨v3,hv3,h⟩:=bindE h
 refine X.ix elt25 (A0a hv3).1 (A0c int hv3) ?_
 refine X.lc shp3 ?_
 refine X.as ?_
 refine X.an ?_
 cases h
 refine R.fin2 Tryz.results102 (by rfl) (by rfl) (by rfl) (by repeat (first | trivial | refine ⟨by first | rfl | simp [setL],?_⟩)) ?_
 rfl
theorem D1i (b0:TMode)(c1:Int)(r:Int×Bool)(h:P0h b0 c1=some r):PC Tryz.prog 101 [B0f b0,.cptr (int c1:PV).cells 0] (.tuple [int r.1,bool r.2]):=by
 unfold P0h at h
 refine PC.start Tryz.func101 Tryz.ntmps101 rfl ok101 rfl ?_
 refine Run.sr (X.bx ?_)
 refine X.as ?_
 refine X.an ?_
 refine Run.sr (X.fl S0d ?_)
 refine X.ld shp25 ?_
 refine X.lc shp3 ?_
 obtain ⟨v1,hv1,h⟩:=bindE h
 refine X.callT (A1r _ _ _ hv1) (by rfl) (by rfl) (by rfl) (by trivial) (by rfl) (by rfl) (by rfl) (by rfl) (by rfl) (by rfl) ?_
 refine X.mv ?_
 refine X.extract (h:=?_)
 refine X.extract (h:=?_)
 refine X.as ?_
 refine X.an ?_
 refine Run.sr (X.fl N0k ?_)
 refine X.ld shp3 ?_
 refine X.mv ?_
 refine X.mulW (by rfl) (by rfl) (by rfl) ?_
 refine X.mv ?_
 refine X.as ?_
 refine X.an ?_
 cases h
 refine R.fin2 Tryz.results101 (by rfl) (by rfl) (by rfl) (by repeat (first | trivial | refine ⟨by first | rfl | simp [setL],?_⟩)) ?_
 rfl
theorem A1u (b0:List TMode)(g1:TMode→Option (Int×Bool))(g1id:Nat)(g1c:List PV)(hg1:∀(x0:TMode) v,g1 x0=some v→PC Tryz.prog g1id ([B0f x0] ++ g1c) (.tuple [int v.1,bool v.2]))(r:Int)(h:S0y b0 g1=some r):PC Tryz.prog 99 [.slice (b0.map B0f),.fn g1id g1c] (int r):=by
 unfold S0y at h
 refine PC.start Tryz.func99 Tryz.ntmps99 rfl ok99 rfl ?_
 refine Run.sr (X.an ?_)
 refine Run.sr (X.an ?_)
 refine Run.seq (Run.sr (X.mv ?_))
 refine X.ls elt65 ?_
 refine X.mn ?_
 obtain ⟨o1,ho1,h⟩:=bindE h
 refine R.join2 (β:=Int) [] [] (fun p18 S=>(5,int p18)::S) (fun p18 M=>M) (fun p18=>(Sum.inl p18)=o1) ?_ ?_
 ·intro JJ4 hmeet3
  have hup2:=h;clear h;have h:=ho1;clear ho1
  refine Run.block ?_
  refine R.bndS (t:=0) (by rfl) (fun hbd7=>?_)
  replace hbd7:b0.length≤9223372036854775807:=by first | (rw [List.length_map] at hbd7;exact hbd7) | simp
  refine R.lp (β:=Int×Int) [(1,.fn g1id g1c),(10,.slice (b0.map B0f)),(11,int (b0.length:Int))] [] (fun bb S=>(5,int bb.2)::(12,int bb.1)::S) (fun bb M=>M) (fun n bb=>0≤bb.1∧bb.1+n=(b0.length:Int)∧J0l g1 (b0.drop bb.1.toNat) bb.1 bb.2=some o1) b0.length (0,0) ⟨Int.le_refl _,by simp,h⟩ ?_
  clear h
  rintro JJ7 n7 ⟨z8,a9⟩ hag7 ⟨hza7,hzb7,h⟩
  dsimp only at hza7 hzb7 h
  refine Run.sr (X.bi ?_)
  refine X.nil (Run.seq ?_)
  refine R.cd (fun hc12=>?_) (fun hc12=>?_)
  ·obtain ⟨x10,xs11,hd7,hx7,hds7,hlt7⟩:=A0k hza7 hc12
   rw [hd7] at h
   rw [J0l] at h
   refine Run.skip (Run.seq (Run.block (Run.sr (X.mv ?_))))
   refine X.ix elt65 (A0a hx7).1 (A0c B0f hx7) ?_
   refine X.lc K0p ?_
   refine X.alloc S0x (h:=?_)
   refine X.as ?_
   refine X.sl K0p ?_
   refine X.nil (Run.sr (X.mv ?_))
   refine X.ld K0p ?_
   obtain ⟨v13,hv13,h⟩:=bindE h
   refine X.callT (hg1 _ _ hv13) (by rfl) (by rfl) (by rfl) (by trivial) (by rfl) (by rfl) (by rfl) (by rfl) (by rfl) (by rfl) ?_
   refine X.mv ?_
   refine X.extract (h:=?_)
   refine X.extract (h:=?_)
   refine X.as ?_
   refine X.an ?_
   refine Run.seq (Run.sr (X.mv ?_))
   refine X.un (h:=?_)
   refine X.nil ?_
   refine R.cd (fun hc14=>?_) (fun hc14=>?_)
   ·replace h:=condT hc14 h
    refine Run.sr (X.an ?_)
    cases h
    have h:=hup2
    replace h:=elimR h
    cases h
    refine R.f1 Tryz.results99 ?_
    rfl
   replace h:=condF hc14 h
   refine Run.skip (Run.seq ?_)
   obtain ⟨e15,he15,h2⟩:=bindE h
   refine R.regG [(1,.fn g1id g1c),(5,int a9),(8,int v13.1),(10,.slice (b0.map B0f)),(11,int (b0.length:Int)),(12,int z8),(31,bool e15)] [] ?_ ?_
   ·clear h;have h:=he15;clear he15 h2
    refine X.mv ?_
    refine X.bi ?_
    refine X.mv ?_
    refine X.iG (fun hb16=>?_) (fun hb16=>?_)
    ·replace h:=condF hb16 h
     refine X.mv ?_
     refine X.gy (X.mv ?_)
     refine X.gy (X.bi ?_)
     refine X.pF ?_
     cases h
     exact X.eG
    replace h:=condT hb16 h
    refine X.gn (X.gn (X.pT ?_))
    cases h
    exact X.eG
   replace h:=h2;clear h2
   refine R.cd (fun hc17=>?_) (fun hc17=>?_)
   ·replace h:=condT hc17 h
    refine Run.reg (X.mv ?_)
    refine X.an ?_
    refine Run.blk (Run.reg (X.ad ?_))
    refine X.mn ?_
    exact R.ag hag7 (n7 - 1) (z8+1,v13.1) (R.n3 (by first | (rw [hds7];exact h) | (dsimp only;rw [hds7];exact h)))
   replace h:=condF hc17 h
   refine Run.skip (Run.blk (Run.reg (X.ad ?_)))
   refine X.mn ?_
   exact R.ag hag7 (n7 - 1) (z8+1,a9) (R.n3 (by first | (rw [hds7];exact h) | (dsimp only;rw [hds7];exact h)))
  rw [A0h hza7 hc12] at h
  rw [J0l] at h
  refine Run.exit (by rfl) ?_
  exact R.mt hmeet3 a9 (Option.some.inj h)
 rintro p18 rfl
 replace h:=elimL h
 refine Run.sr (X.mv ?_)
 refine X.an ?_
 cases h
 refine R.f1 Tryz.results99 ?_
 rfl
theorem J1t (b0:A0f)(b1:List Int)(b2:Int)(r:Int)(h:V0c b0 b1 b2=some r):PC Tryz.prog 61 [A0d b0,.slice (b1.map int),int b2] (int r):=by
 unfold V0c at h
 refine PC.start Tryz.func61 Tryz.ntmps61 rfl ok61 rfl ?_
 refine Run.sr (X.bx ?_)
 refine X.bx ?_
 refine X.an ?_
 refine Run.seq ?_
 refine R.pubBlk (n:=320) (by rfl) (by rfl) (by repeat (first | trivial | refine ⟨by first | rfl | simp [setL],?_⟩)) ?_
 refine Run.reg (X.ld shp67 ?_)
 refine X.mv ?_
 obtain ⟨v1,hv1,h⟩:=bindE h
 refine X.callF (X0i _ _ _ hv1) (by rfl) (by rfl) (by rfl) (by trivial) (by rfl) (by rfl) (by rfl) (by rfl) ?_
 refine X.makeFunc (by rfl) (by rfl) (by repeat (first | trivial | refine ⟨by first | rfl | simp [setL],?_⟩)) (by rfl) (by rfl) ?_
 obtain ⟨v2,hv2,h⟩:=bindE h
 refine X.cp (A1u _ (fun x0=>P0h x0 b2) _ _ (fun x0 v hv=>D1i _ _ _ hv) _ hv2) ?_
 refine X.an ?_
 cases h
 refine R.f1 Tryz.results61 ?_
 rfl
theorem D1e (b0:List TStep)(b1:Int)(r:Int)(h:P0f b0 b1=some r):PC Tryz.prog 105 [.slice (b0.map B0e),int b1] (int r):=by
 unfold P0f at h
 refine PC.start Tryz.func105 Tryz.ntmps105 rfl ok105 rfl ?_
 refine Run.sr (X.an ?_)
 refine Run.sr (X.an ?_)
 refine Run.seq (Run.sr (X.mv ?_))
 refine X.ls elt70 ?_
 refine X.mn ?_
 obtain ⟨o1,ho1,h⟩:=bindE h
 refine R.join2 (β:=Int) [] [] (fun p14 S=>(5,int p14)::S) (fun p14 M=>M) (fun p14=>p14=o1) ?_ ?_
 ·intro JJ4 hmeet3
  have hup2:=h;clear h;have h:=ho1;clear ho1
  refine Run.block ?_
  refine R.bndS (t:=0) (by rfl) (fun hbd7=>?_)
  replace hbd7:b0.length≤9223372036854775807:=by first | (rw [List.length_map] at hbd7;exact hbd7) | simp
  refine R.lp (β:=Int×Int) [(1,int b1),(8,.slice (b0.map B0e)),(9,int (b0.length:Int))] [] (fun bb S=>(5,int bb.2)::(10,int bb.1)::S) (fun bb M=>M) (fun n bb=>0≤bb.1∧bb.1+n=(b0.length:Int)∧F0o b1 (b0.drop bb.1.toNat) bb.1 bb.2=some o1) b0.length (0,0) ⟨Int.le_refl _,by simp,h⟩ ?_
  clear h
  rintro JJ7 n7 ⟨z8,a9⟩ hag7 ⟨hza7,hzb7,h⟩
  dsimp only at hza7 hzb7 h
  refine Run.sr (X.bi ?_)
  refine X.nil (Run.seq ?_)
  refine R.cd (fun hc12=>?_) (fun hc12=>?_)
  ·obtain ⟨x10,xs11,hd7,hx7,hds7,hlt7⟩:=A0k hza7 hc12
   rw [hd7] at h
   rw [F0o] at h
   refine Run.skip (Run.seq (Run.block (Run.sr (X.ix elt70 (A0a hx7).1 (A0c B0e hx7) ?_))))
   refine X.lc S0e ?_
   refine X.alloc D1x (h:=?_)
   refine X.sl S0e ?_
   refine X.nil (Run.sr (X.fl J0w ?_))
   refine X.ld shp3 ?_
   refine X.mv ?_
   refine X.bi ?_
   refine X.nil ?_
   refine R.cd (fun hc13=>?_) (fun hc13=>?_)
   ·replace h:=condT hc13 h
    refine Run.reg (X.fl T0w ?_)
    refine X.ld shp3 ?_
    refine X.an ?_
    refine Run.blk (Run.reg (X.ad ?_))
    refine X.mn ?_
    exact R.ag hag7 (n7 - 1) (z8+1,x10.Capacity) (R.n3 (by first | (rw [hds7];exact h) | (dsimp only;rw [hds7];exact h)))
   replace h:=condF hc13 h
   refine Run.skip (Run.blk (Run.reg (X.ad ?_)))
   refine X.mn ?_
   exact R.ag hag7 (n7 - 1) (z8+1,a9) (R.n3 (by first | (rw [hds7];exact h) | (dsimp only;rw [hds7];exact h)))
  rw [A0h hza7 hc12] at h
  rw [F0o] at h
  refine Run.exit (by rfl) ?_
  exact R.mt hmeet3 a9 (Option.some.inj h)
 rintro p14 rfl
 refine Run.sr (X.mv ?_)
 refine X.an ?_
 cases h
 refine R.f1 Tryz.results105 ?_
 rfl
theorem Z0s (b0:List TStep)(b1:Int)(b2:Int)(r:Int)(h:K0w b0 b1 b2=some r):PC Tryz.prog 63 [.slice (b0.map B0e),int b1,int b2] (int r):=by
 unfold K0w at h
 refine PC.start Tryz.func63 Tryz.ntmps63 rfl ok63 rfl ?_
 refine Run.sr (X.an ?_)
 refine Run.seq (Run.seq ?_)
 obtain ⟨v1,hv1,h⟩:=bindE h
 obtain ⟨e2,he2,h2⟩:=bindE h
 refine R.regG [(0,.slice (b0.map B0e)),(1,int b1),(2,int b2),(21,bool e2)] [] ?_ ?_
 ·clear h;have h:=he2;clear he2 h2
  refine X.mv ?_
  refine X.cp (A1v _ _ hv1) ?_
  refine X.un (h:=?_)
  refine X.mv ?_
  refine X.iG (fun hb3=>?_) (fun hb3=>?_)
  ·replace h:=condF hb3 h
   refine X.mv ?_
   refine X.gy ?_
   obtain ⟨v4,hv4,h⟩:=bindE h
   refine X.cp (W0v _ _ hv4) ?_
   refine X.gy (X.un (h:=?_))
   refine X.pF ?_
   refine X.mv ?_
   refine X.iG (fun hb5=>?_) (fun hb5=>?_)
   ·replace h:=condF hb5 h
    refine X.mv ?_
    refine X.gy ?_
    obtain ⟨v6,hv6,h⟩:=bindE h
    refine X.cp (W0v _ _ hv6) ?_
    refine X.gy (X.un (h:=?_))
    refine X.pF ?_
    cases h
    exact X.eG
   replace h:=condT hb5 h
   refine X.gn (X.gn (X.pT ?_))
   cases h
   exact X.eG
  replace h:=condT hb3 h
  refine X.gn (X.gn (X.pT ?_))
  refine X.mv ?_
  refine X.gn (X.gn (X.gn (X.pT ?_)))
  cases h
  exact X.eG
 replace h:=h2;clear h2
 refine R.cd (fun hc7=>?_) (fun hc7=>?_)
 ·replace h:=condT hc7 h
  refine Run.sr (X.an ?_)
  cases h
  refine R.f1 Tryz.results63 ?_
  rfl
 replace h:=condF hc7 h
 refine Run.skip (Run.sr (X.an ?_))
 refine Run.seq (Run.sr (X.mv ?_))
 refine X.an ?_
 obtain ⟨o8,ho8,h⟩:=bindE h
 refine R.join2 (β:=Int) [] [] (fun p19 S=>(7,int p19)::S) (fun p19 M=>M) (fun p19=>p19=o8) ?_ ?_
 ·intro JJ11 hmeet10
  have hup9:=h;clear h;have h:=ho8;clear ho8
  refine Run.block ?_
  refine R.lp (β:=Int×Int) [(0,.slice (b0.map B0e)),(2,int b2)] [] (fun bb S=>(7,int bb.1)::(8,int bb.2)::S) (fun bb M=>M) (fun n bb=>E0e b0 b2 n bb.1 bb.2=some o8) F0 (0,b1) h ?_
  clear h
  rintro JJ11 n11 ⟨a13,a14⟩ hag11 h
  dsimp only at h
  obtain _ | n11:=n11
  ·exact absurd h (by simp [E0e])
  rw [E0e] at h
  refine Run.seq (Run.sr (X.mv ?_))
  refine X.mv ?_
  refine X.bi ?_
  refine X.nil ?_
  refine R.cd (fun hc17=>?_) (fun hc17=>?_)
  ·replace h:=condT hc17 h
   refine Run.skip (Run.seq (Run.block (Run.reg (X.mv ?_))))
   refine X.mv ?_
   refine X.mv ?_
   obtain ⟨v18,hv18,h⟩:=bindE h
   refine X.cp (D1e _ _ _ hv18) ?_
   refine X.addW (h:=?_)
   refine X.an ?_
   refine Run.blk (Run.reg (X.mv ?_))
   refine X.addW (h:=?_)
   refine X.an ?_
   exact hag11 n11 ((W (a13+v18)),(W (a14+1))) _ _ (by omega) h (by trivial) (by trivial) (by rfl) (by rfl)
  replace h:=condF hc17 h
  refine Run.exit (by rfl) ?_
  exact R.mt hmeet10 a13 (Option.some.inj h)
 rintro p19 rfl
 refine Run.sr (X.mv ?_)
 refine X.an ?_
 cases h
 refine R.f1 Tryz.results63 ?_
 rfl
theorem W0l (b0:A0b)(r:Int)(h:N0t b0=some r):PC Tryz.prog 26 [A0n b0] (int r):=by
 unfold N0t at h
 refine PC.start Tryz.func26 Tryz.ntmps26 rfl ok26 rfl ?_
 refine Run.sr (X.bx ?_)
 refine X.an ?_
 refine Run.seq (Run.sr (X.ld shp34 ?_))
 obtain ⟨v1,hv1,h⟩:=bindE h
 refine X.cp (F0d _ _ hv1) ?_
 refine X.un (h:=?_)
 refine X.nil ?_
 refine R.cd (fun hc2=>?_) (fun hc2=>?_)
 ·replace h:=condT hc2 h
  refine Run.sr (X.an ?_)
  cases h
  refine R.f1 Tryz.results26 ?_
  rfl
 replace h:=condF hc2 h
 refine Run.skip (Run.seq (Run.sr (X.ld shp34 ?_)))
 obtain ⟨v3,hv3,h⟩:=bindE h
 refine X.cp (S0m _ _ hv3) ?_
 refine X.max2 (by rfl) (by rfl) (by rfl) ?_
 refine X.an ?_
 obtain ⟨o4,ho4,h⟩:=bindE h
 refine R.join2 (β:=Unit) [] [] (fun p45 S=>S) (fun p45 M=>M) (fun p45=>(Sum.inl p45)=o4) ?_ ?_
 ·intro JJ7 hmeet6
  have hup5:=h;clear h;have h:=ho4;clear ho4
  refine Run.block ?_
  refine R.lp (β:=Int) [(1,.lptr 64 0)] [(64,.blk true [int b0.Deadline,.slice (b0.Activities.map A0d),.slice (b0.Links.map A0l),.slice (b0.Resources.map A0e),.slice (b0.Stocks.map int)])] (fun bb S=>(3,int bb)::S) (fun bb M=>M) (fun n bb=>H0q b0 n bb=some o4) F0 (max v3 1) h ?_
  clear h
  rintro JJ7 n7 a9 hag7 h
  obtain _ | n7:=n7
  ·exact absurd h (by simp [H0q])
  rw [H0q] at h
  refine Run.seq (Run.sr (X.mv ?_))
  refine X.bi ?_
  refine X.nil ?_
  refine R.cd (fun hc12=>?_) (fun hc12=>?_)
  ·replace h:=condT hc12 h
   refine Run.skip (Run.seq (Run.block (Run.sr (X.an ?_))))
   refine Run.seq (Run.sr (X.fl H0o ?_))
   refine X.ld shp32 ?_
   refine X.ls elt32 ?_
   refine X.mn ?_
   obtain ⟨o13,ho13,h⟩:=bindE h
   refine R.join2 (β:=Bool) [(1,.lptr 64 0),(3,int a9)] [(64,.blk true [int b0.Deadline,.slice (b0.Activities.map A0d),.slice (b0.Links.map A0l),.slice (b0.Resources.map A0e),.slice (b0.Stocks.map int)])] (fun p43 S=>(4,bool p43)::S) (fun p43 M=>M) (fun p43=>p43=o13) ?_ ?_
   ·intro JJ16 hmeet15
    have hup14:=h;clear h;have h:=ho13;clear ho13
    refine Run.block ?_
    refine R.bndS (t:=21) (by rfl) (fun hbd19=>?_)
    replace hbd19:b0.Resources.length≤9223372036854775807:=by first | (rw [List.length_map] at hbd19;exact hbd19) | simp
    refine R.lp (β:=Int×Bool) [(1,.lptr 64 0),(3,int a9),(21,.slice (b0.Resources.map A0e)),(22,int (b0.Resources.length:Int))] [(64,.blk true [int b0.Deadline,.slice (b0.Activities.map A0d),.slice (b0.Links.map A0l),.slice (b0.Resources.map A0e),.slice (b0.Stocks.map int)])] (fun bb S=>(4,bool bb.2)::(23,int bb.1)::S) (fun bb M=>M) (fun n bb=>0≤bb.1∧bb.1+n=(b0.Resources.length:Int)∧H0p b0 a9 (b0.Resources.drop bb.1.toNat) bb.1 bb.2=some o13) b0.Resources.length (0,true) ⟨Int.le_refl _,by simp,h⟩ ?_
    clear h
    rintro JJ19 n19 ⟨z20,a21⟩ hag19 ⟨hza19,hzb19,h⟩
    dsimp only at hza19 hzb19 h
    refine Run.sr (X.bi ?_)
    refine X.nil (Run.seq ?_)
    refine R.cd (fun hc24=>?_) (fun hc24=>?_)
    ·obtain ⟨x22,xs23,hd19,hx19,hds19,hlt19⟩:=A0k hza19 hc24
     rw [hd19] at h
     rw [H0p] at h
     refine Run.skip (Run.seq (Run.block (Run.sr (X.mv ?_))))
     refine X.ix elt32 (A0a hx19).1 (A0c A0e hx19) ?_
     refine X.lc shp72 ?_
     refine X.alloc zer72 (h:=?_)
     refine X.as ?_
     refine X.sl shp72 ?_
     refine X.nil (Run.sr (X.an ?_))
     refine Run.seq (Run.sr (X.fl B0l ?_))
     refine X.ld shp30 ?_
     refine X.ls elt30 ?_
     refine X.mn ?_
     obtain ⟨o25,ho25,h⟩:=bindE h
     refine R.join2 (β:=Int) [(1,.lptr 64 0),(3,int a9),(4,bool a21),(6,.lptr 384 0),(21,.slice (b0.Resources.map A0e)),(22,int (b0.Resources.length:Int)),(23,int z20)] [(64,.blk true [int b0.Deadline,.slice (b0.Activities.map A0d),.slice (b0.Links.map A0l),.slice (b0.Resources.map A0e),.slice (b0.Stocks.map int)]),(384,.blk true [.slice (x22.Steps.map B0e),.slice (x22.Setup.map l_int)])] (fun p39 S=>(7,int p39)::S) (fun p39 M=>M) (fun p39=>p39=o25) ?_ ?_
     ·intro JJ28 hmeet27
      have hup26:=h;clear h;have h:=ho25;clear ho25
      refine Run.block ?_
      refine R.bndS (t:=29) (by rfl) (fun hbd31=>?_)
      replace hbd31:b0.Activities.length≤9223372036854775807:=by first | (rw [List.length_map] at hbd31;exact hbd31) | simp
      refine R.lp (β:=Int×Int) [(1,.lptr 64 0),(3,int a9),(4,bool a21),(5,int z20),(6,.lptr 384 0),(21,.slice (b0.Resources.map A0e)),(22,int (b0.Resources.length:Int)),(23,int z20),(29,.slice (b0.Activities.map A0d)),(30,int (b0.Activities.length:Int))] [(64,.blk true [int b0.Deadline,.slice (b0.Activities.map A0d),.slice (b0.Links.map A0l),.slice (b0.Resources.map A0e),.slice (b0.Stocks.map int)]),(384,.blk true [.slice (x22.Steps.map B0e),.slice (x22.Setup.map l_int)])] (fun bb S=>(7,int bb.2)::(31,int bb.1)::S) (fun bb M=>M) (fun n bb=>0≤bb.1∧bb.1+n=(b0.Activities.length:Int)∧H0z z20 (b0.Activities.drop bb.1.toNat) bb.1 bb.2=some o25) b0.Activities.length (0,0) ⟨Int.le_refl _,by simp,h⟩ ?_
      clear h
      rintro JJ31 n31 ⟨z32,a33⟩ hag31 ⟨hza31,hzb31,h⟩
      dsimp only at hza31 hzb31 h
      refine Run.sr (X.bi ?_)
      refine X.nil (Run.seq ?_)
      refine R.cd (fun hc36=>?_) (fun hc36=>?_)
      ·obtain ⟨x34,xs35,hd31,hx31,hds31,hlt31⟩:=A0k hza31 hc36
       rw [hd31] at h
       rw [H0z] at h
       refine Run.skip (Run.seq (Run.block (Run.sr (X.ix elt30 (A0a hx31).1 (A0c A0d hx31) ?_))))
       refine X.lc shp67 ?_
       refine X.alloc zer67 (h:=?_)
       refine X.sl shp67 ?_
       refine X.nil (Run.draw (B0m [(1,([576],[],[],[])),(2,([576],[],[],[])),(3,([],[2432],[],[])),(5,([2432],[],[],[]))]) mixed (by kernel_rfl) (by kernel_rfl) ?_)
       refine X.mv ?_
       refine X.ld shp67 ?_
       refine X.ld shp67 ?_
       obtain ⟨v37,hv37,h⟩:=bindE h
       refine X.callF (K0d _ _ hv37) (by rfl) (by rfl) (by rfl) (by trivial) (by rfl) (by rfl) (by rfl) (by rfl) ?_
       refine X.mv ?_
       obtain ⟨v38,hv38,h⟩:=bindE h
       refine X.cp (J1t _ _ _ _ hv38) ?_
       refine X.addW (h:=?_)
       refine X.an ?_
       refine Run.blk (Run.reg (X.ad ?_))
       refine X.mn ?_
       exact R.ag hag31 (n31 - 1) (z32+1,(W (a33+v38))) (R.n3 (by first | (rw [hds31];exact h) | (dsimp only;rw [hds31];exact h)))
      rw [A0h hza31 hc36] at h
      rw [H0z] at h
      refine Run.exit (by rfl) ?_
      exact R.mt hmeet27 a33 (Option.some.inj h)
     rintro p39 rfl
     obtain ⟨e40,he40,h2⟩:=bindE h
     refine R.regG [(1,.lptr 64 0),(3,int a9),(4,bool e40),(21,.slice (b0.Resources.map A0e)),(22,int (b0.Resources.length:Int)),(23,int z20)] [(64,.blk true [int b0.Deadline,.slice (b0.Activities.map A0d),.slice (b0.Links.map A0l),.slice (b0.Resources.map A0e),.slice (b0.Stocks.map int)])] ?_ ?_
     ·clear h;have h:=he40;clear he40 h2
      refine X.mv ?_
      refine X.mv ?_
      refine X.iG (fun hb41=>?_) (fun hb41=>?_)
      ·replace h:=condT hb41 h
       refine X.mv ?_
       refine X.gy (X.fl X0g ?_)
       refine X.gy (X.ld shp70 ?_)
       refine X.gy (X.mv ?_)
       refine X.gy ?_
       obtain ⟨v42,hv42,h⟩:=bindE h
       refine X.cp (Z0s _ _ _ _ hv42) ?_
       refine X.gy (X.bi ?_)
       refine X.pT ?_
       refine X.as ?_
       cases h
       exact X.eG
      replace h:=condF hb41 h
      refine X.gn (X.gn (X.gn (X.gn (X.gn (X.pF ?_)))))
      refine X.as ?_
      cases h
      exact X.eG
     replace h:=h2;clear h2
     refine Run.blk (Run.reg (X.ad ?_))
     refine X.mn ?_
     exact R.ag hag19 (n19 - 1) (z20+1,e40) (R.n3 (by first | (rw [hds19];exact h) | (dsimp only;rw [hds19];exact h)))
    rw [A0h hza19 hc24] at h
    rw [H0p] at h
    refine Run.exit (by rfl) ?_
    exact R.mt hmeet15 a21 (Option.some.inj h)
   rintro p43 rfl
   refine Run.sr (X.mn ?_)
   refine R.cd (fun hc44=>?_) (fun hc44=>?_)
   ·replace h:=condT hc44 h
    refine Run.sr (X.mv ?_)
    refine X.an ?_
    cases h
    have h:=hup5
    replace h:=elimR h
    cases h
    refine R.f1 Tryz.results26 ?_
    rfl
   replace h:=condF hc44 h
   refine Run.skip (Run.blk (Run.reg (X.mv ?_)))
   refine X.addW (h:=?_)
   refine X.an ?_
   exact hag7 n7 (W (a9+1)) _ _ (by omega) h (by trivial) (by trivial) (by rfl) (by rfl)
  replace h:=condF hc12 h
  refine Run.exit (by rfl) ?_
  exact R.mt hmeet6 () (Option.some.inj h)
 rintro p45 rfl
 replace h:=elimL h
 refine Run.sr (X.an ?_)
 cases h
 refine R.f1 Tryz.results26 ?_
 rfl
theorem X0y (b0:A0b)(r:A0r)(h:J0i b0=some r):PC Tryz.prog 65 [A0n b0] (.agg [.fresh false 3 1 (r.MinStart.map int),.fresh false 3 1 (r.MaxStart.map int),.fresh false 25 1 (r.Modes.map l_int)]):=by
 unfold J0i at h
 refine PC.start Tryz.func65 Tryz.ntmps65 rfl ok65 rfl ?_
 refine Run.sr (X.bx ?_)
 refine X.alloc zer85 (h:=?_)
 refine X.nil (Run.sr ?_)
 refine X.build zer85 pl85 (by rfl) (by rfl) (by repeat (first | trivial | refine ⟨by first | rfl | simp [setL],?_⟩)) (by rfl) (by rfl) (by rfl) ?_
 refine X.alloc zer85 (h:=?_)
 refine X.sl shp85 ?_
 refine X.nil (Run.seq (Run.sr (X.ld shp34 ?_)))
 obtain ⟨v1,hv1,h⟩:=bindE h
 refine X.cp (F0d _ _ hv1) ?_
 refine X.un (h:=?_)
 refine X.nil ?_
 refine R.cd (fun hc2=>?_) (fun hc2=>?_)
 ·replace h:=condT hc2 h
  refine Run.sr (X.ld shp85 ?_)
  refine X.sl shp85 ?_
  refine X.nil ?_
  cases h
  refine R.nilOwnB (m:=128) 0 168 false 3 1 (by rfl) (by rfl) (by rfl) (by rfl) (by rfl) ?_
  refine R.nilOwnB (m:=128) 1 169 false 3 1 (by rfl) (by rfl) (by rfl) (by rfl) (by rfl) ?_
  refine R.nilOwnB (m:=128) 2 170 false 25 1 (by rfl) (by rfl) (by rfl) (by rfl) (by rfl) ?_
  refine R.finC Tryz.results65 shp85 (by rfl) (by rfl) (by rfl) (by rfl) (by repeat (first | trivial | refine ⟨by first | rfl | simp [setL],?_⟩)) ?_
  rfl
 replace h:=condF hc2 h
 refine Run.skip (Run.seq (Run.sr (X.fl B0l ?_)))
 refine X.ld shp30 ?_
 refine X.ls elt30 ?_
 refine X.mn ?_
 obtain ⟨o3,ho3,h⟩:=bindE h
 refine R.join2 (β:=(List Int)×(List Int)×(List (List Int))) [(2,.lptr 128 0),(3,.lptr 192 0)] [(128,.blk true [.nils,.nils,.nils])] (fun p21 S=>S) (fun p21 M=>(192,.blk true [.own 1344 (p21.1.map int).length,.own 1792 (p21.2.1.map int).length,.own 2176 (p21.2.2.map l_int).length])::(1344,.obj false 3 1 (p21.1.map int))::(1792,.obj false 3 1 (p21.2.1.map int))::(2176,.obj false 25 1 (p21.2.2.map l_int))::M) (fun p21=>p21=o3) ?_ ?_
 ·intro JJ6 hmeet5
  have hup4:=h;clear h;have h:=ho3;clear ho3
  refine Run.block (R.nilOwnB (m:=192) 0 1344 false 3 1 (by rfl) (by rfl) (by rfl) (by rfl) (by rfl) ?_)
  refine R.nilOwnB (m:=192) 1 1792 false 3 1 (by rfl) (by rfl) (by rfl) (by rfl) (by rfl) ?_
  refine R.nilOwnB (m:=192) 2 2176 false 25 1 (by rfl) (by rfl) (by rfl) (by rfl) (by rfl) ?_
  refine R.bndS (t:=12) (by rfl) (fun hbd9=>?_)
  replace hbd9:b0.Activities.length≤9223372036854775807:=by first | (rw [List.length_map] at hbd9;exact hbd9) | simp
  refine R.lp (β:=Int×(List Int)×(List Int)×(List (List Int))) [(1,.lptr 64 0),(2,.lptr 128 0),(3,.lptr 192 0),(12,.slice (b0.Activities.map A0d)),(13,int (b0.Activities.length:Int))] [(64,.blk true [int b0.Deadline,.slice (b0.Activities.map A0d),.slice (b0.Links.map A0l),.slice (b0.Resources.map A0e),.slice (b0.Stocks.map int)]),(128,.blk true [.nils,.nils,.nils])] (fun bb S=>(14,int bb.1)::S) (fun bb M=>(192,.blk true [.own 1344 (bb.2.1.map int).length,.own 1792 (bb.2.2.1.map int).length,.own 2176 (bb.2.2.2.map l_int).length])::(1344,.obj false 3 1 (bb.2.1.map int))::(1792,.obj false 3 1 (bb.2.2.1.map int))::(2176,.obj false 25 1 (bb.2.2.2.map l_int))::M) (fun n bb=>0≤bb.1∧bb.1+n=(b0.Activities.length:Int)∧E0i b0 (b0.Activities.drop bb.1.toNat) bb.1 bb.2.1 bb.2.2.1 bb.2.2.2=some o3) b0.Activities.length (0,([]:List Int),([]:List Int),([]:List (List Int))) ⟨Int.le_refl _,by simp,h⟩ ?_
  clear h
  rintro JJ9 n9 ⟨z10,a11,a12,a13⟩ hag9 ⟨hza9,hzb9,h⟩
  dsimp only at hza9 hzb9 h
  refine Run.sr (X.bi ?_)
  refine X.nil (Run.seq ?_)
  refine R.cd (fun hc16=>?_) (fun hc16=>?_)
  ·obtain ⟨x14,xs15,hd9,hx9,hds9,hlt9⟩:=A0k hza9 hc16
   rw [hd9] at h
   rw [E0i] at h
   refine Run.skip (Run.seq (Run.block (Run.sr (X.ix elt30 (A0a hx9).1 (A0c A0d hx9) ?_))))
   refine X.lc shp67 ?_
   refine X.alloc zer67 (h:=?_)
   refine X.sl shp67 ?_
   refine X.nil (Run.draw2 (B0m [(1,([192],[],[],[])),(2,([1280],[1280],[],[])),(3,([1280,1344],[1344],[],[])),(5,([192],[],[],[])),(7,([64],[],[],[])),(9,([1728],[1728],[],[])),(10,([1728,1792],[1792],[],[])),(12,([192],[],[],[])),(13,([320],[],[],[])),(14,([],[2048],[],[])),(15,([2048,2112],[2112],[],[])),(16,([2112,2176],[2176],[],[])),(18,([192,1344],[192],[],[])),(20,([192,1792],[192],[],[])),(22,([192,2176],[192],[],[]))]) mixed (by kernel_rfl) (by kernel_rfl) ?_)
   refine X.fl L0p ?_
   refine X.ld shp25 ?_
   refine X.buildSlice false elt25 zer3 (by rfl) (by rfl) (by rfl) (by rfl) (by rfl) (by rfl) (by repeat (first | trivial | refine ⟨by first | rfl | simp [setL],?_⟩)) (A0o (by rfl)) (by rfl) (by rfl) (by rfl) ?_
   obtain ⟨v17,hv17,h⟩:=bindE h
   refine X.append elt25 zer3 (by rfl) (by rfl) (by first | rfl | simp [setL] | omega) (by rfl) (.own _ _ _ _ _ _ (A0g (by rfl)) (by first | rfl | simp [setL] | omega)) (A0o (by rfl)) (E0l int hv17) (E0k int hv17) (by rfl) (by rfl) (by rfl) (by rfl) ?_
   refine X.fl P0y ?_
   refine X.ld shp25 ?_
   refine X.fl W0y ?_
   refine X.ld shp3 ?_
   refine X.subW (h:=?_)
   refine X.buildSlice false elt25 zer3 (by rfl) (by rfl) (by rfl) (by rfl) (by rfl) (by rfl) (by repeat (first | trivial | refine ⟨by first | rfl | simp [setL],?_⟩)) (A0o (by rfl)) (by rfl) (by rfl) (by rfl) ?_
   obtain ⟨v18,hv18,h⟩:=bindE h
   refine X.append elt25 zer3 (by rfl) (by rfl) (by first | rfl | simp [setL] | omega) (by rfl) (.own _ _ _ _ _ _ (A0g (by rfl)) (by first | rfl | simp [setL] | omega)) (A0o (by rfl)) (E0l int hv18) (E0k int hv18) (by rfl) (by rfl) (by rfl) (by rfl) ?_
   refine X.fl M0o ?_
   refine X.ld shp61 ?_
   refine X.ld shp67 ?_
   obtain ⟨v19,hv19,h⟩:=bindE h
   refine X.callF (K0d _ _ hv19) (by rfl) (by rfl) (by rfl) (by trivial) (by rfl) (by rfl) (by rfl) (by rfl) ?_
   refine X.buildSlice false elt61 zer25 (by rfl) (by rfl) (by rfl) (by rfl) (by rfl) (by rfl) (by repeat (first | trivial | refine ⟨by first | rfl | simp [setL],?_⟩)) (A0o (by rfl)) (by rfl) (by rfl) (by rfl) ?_
   obtain ⟨v20,hv20,h⟩:=bindE h
   refine X.append elt61 zer25 (by rfl) (by rfl) (by first | rfl | simp [setL] | omega) (by rfl) (.own _ _ _ _ _ _ (A0g (by rfl)) (by first | rfl | simp [setL] | omega)) (A0o (by rfl)) (E0l l_int hv20) (E0k l_int hv20) (by rfl) (by rfl) (by rfl) (by rfl) ?_
   refine X.fl L0p ?_
   refine X.sl shp25 ?_
   refine X.fl P0y ?_
   refine X.sl shp25 ?_
   refine X.fl M0o ?_
   refine X.sl shp61 ?_
   refine X.nil (Run.blk (Run.reg (X.ad ?_)))
   refine X.mn ?_
   exact R.ag hag9 (n9 - 1) (z10+1,v17,v18,v20) (R.n3 (by first | (rw [hds9];exact h) | (dsimp only;rw [hds9];exact h)))
  rw [A0h hza9 hc16] at h
  rw [E0i] at h
  refine Run.exit (by rfl) ?_
  exact R.mt hmeet5 (a11,a12,a13) (Option.some.inj h)
 rintro p21 rfl
 refine Run.sr (X.ld shp85 ?_)
 refine X.sl shp85 ?_
 refine X.nil ?_
 cases h
 refine R.finC Tryz.results65 shp85 (by rfl) (by rfl) (by rfl) (by rfl) (by repeat (first | trivial | refine ⟨by first | rfl | simp [setL],?_⟩)) ?_
 rfl
theorem A1z (b0:Int)(r:Bool)(h:T0d b0=some r):PC Tryz.prog 178 [int b0] (bool r):=by
 unfold T0d at h
 refine PC.start Tryz.func178 Tryz.ntmps178 rfl ok178 rfl ?_
 refine Run.sr (X.an ?_)
 refine Run.sr (X.mv ?_)
 obtain ⟨v1,hv1,h⟩:=bindE h
 refine X.cp (C0j _ _ _ _ hv1) ?_
 refine X.an ?_
 cases h
 refine R.f1 Tryz.results178 ?_
 rfl
theorem N1m (b0:List Int)(r:Bool)(h:E1k b0=some r):PC Tryz.prog 179 [.slice (b0.map int)] (bool r):=by
 unfold E1k at h
 refine PC.start Tryz.func179 Tryz.ntmps179 rfl ok179 rfl ?_
 refine Run.sr (X.an ?_)
 refine Run.seq (Run.sr (X.an ?_))
 obtain ⟨o1,ho1,h⟩:=bindE h
 refine R.join2 (β:=Unit) [] [] (fun p13 S=>S) (fun p13 M=>M) (fun p13=>(Sum.inl p13)=o1) ?_ ?_
 ·intro JJ4 hmeet3
  have hup2:=h;clear h;have h:=ho1;clear ho1
  refine Run.block ?_
  refine R.lp (β:=Int) [(0,.slice (b0.map int))] [] (fun bb S=>(3,int bb)::S) (fun bb M=>M) (fun n bb=>M0u b0 n bb=some o1) F0 1 h ?_
  clear h
  rintro JJ4 n4 a6 hag4 h
  obtain _ | n4:=n4
  ·exact absurd h (by simp [M0u])
  rw [M0u] at h
  refine Run.seq (Run.sr (X.mv ?_))
  refine X.mv ?_
  refine X.ls elt25 ?_
  refine X.bi ?_
  refine X.nil ?_
  refine R.cd (fun hc9=>?_) (fun hc9=>?_)
  ·replace h:=condT hc9 h
   refine Run.skip (Run.seq (Run.block (Run.seq (Run.draw (B0m []) mixed (by kernel_rfl) (by kernel_rfl) ?_))))
   refine X.mv ?_
   refine X.mv ?_
   obtain ⟨v10,hv10,h⟩:=bindE h
   refine X.ix elt25 (A0a hv10).1 (A0c int hv10) ?_
   refine X.lc shp3 ?_
   refine X.mv ?_
   refine X.mv ?_
   refine X.subW (h:=?_)
   obtain ⟨v11,hv11,h⟩:=bindE h
   refine X.ix elt25 (A0a hv11).1 (A0c int hv11) ?_
   refine X.lc shp3 ?_
   refine X.bi ?_
   refine X.nil ?_
   refine R.cd (fun hc12=>?_) (fun hc12=>?_)
   ·replace h:=condT hc12 h
    refine Run.sr (X.an ?_)
    cases h
    have h:=hup2
    replace h:=elimR h
    cases h
    refine R.f1 Tryz.results179 ?_
    rfl
   replace h:=condF hc12 h
   refine Run.skip (Run.blk (Run.reg (X.mv ?_)))
   refine X.addW (h:=?_)
   refine X.an ?_
   exact hag4 n4 (W (a6+1)) _ _ (by omega) h (by trivial) (by trivial) (by rfl) (by rfl)
  replace h:=condF hc9 h
  refine Run.exit (by rfl) ?_
  exact R.mt hmeet3 () (Option.some.inj h)
 rintro p13 rfl
 replace h:=elimL h
 refine Run.sr (X.an ?_)
 cases h
 refine R.f1 Tryz.results179 ?_
 rfl
theorem F1d (b0:List Int)(b1:List Int)(r:Bool)(h:R0h b0 b1=some r):PC Tryz.prog 180 [.slice (b0.map int),.slice (b1.map int)] (bool r):=by
 unfold R0h at h
 refine PC.start Tryz.func180 Tryz.ntmps180 rfl ok180 rfl ?_
 refine Run.sr (X.an ?_)
 refine Run.seq (Run.sr (X.mv ?_))
 refine X.ls elt25 ?_
 refine X.mn ?_
 obtain ⟨o1,ho1,h⟩:=bindE h
 refine R.join2 (β:=Unit) [] [] (fun p14 S=>S) (fun p14 M=>M) (fun p14=>(Sum.inl p14)=o1) ?_ ?_
 ·intro JJ4 hmeet3
  have hup2:=h;clear h;have h:=ho1;clear ho1
  refine Run.block ?_
  refine R.bndS (t:=0) (by rfl) (fun hbd7=>?_)
  replace hbd7:b0.length≤9223372036854775807:=by first | (rw [List.length_map] at hbd7;exact hbd7) | simp
  refine R.lp (β:=Int) [(1,.slice (b1.map int)),(7,.slice (b0.map int)),(8,int (b0.length:Int))] [] (fun bb S=>(9,int bb)::S) (fun bb M=>M) (fun n bb=>0≤bb∧bb+n=(b0.length:Int)∧H0y b1 (b0.drop bb.toNat) bb=some o1) b0.length (0:Int) ⟨Int.le_refl _,by simp,h⟩ ?_
  clear h
  rintro JJ7 n7 z8 hag7 ⟨hza7,hzb7,h⟩
  refine Run.sr (X.bi ?_)
  refine X.nil (Run.seq ?_)
  refine R.cd (fun hc11=>?_) (fun hc11=>?_)
  ·obtain ⟨x9,xs10,hd7,hx7,hds7,hlt7⟩:=A0k hza7 hc11
   rw [hd7] at h
   rw [H0y] at h
   refine Run.skip (Run.seq (Run.block (Run.sr (X.ix elt25 (A0a hx7).1 (A0c int hx7) ?_))))
   refine X.lc shp3 ?_
   refine X.an ?_
   refine Run.sr (X.mv ?_)
   refine X.mv ?_
   obtain ⟨v12,hv12,h⟩:=bindE h
   refine X.cp (C1j _ _ _ hv12) ?_
   refine X.un (h:=?_)
   refine X.nil ?_
   refine R.cd (fun hc13=>?_) (fun hc13=>?_)
   ·replace h:=condT hc13 h
    refine Run.sr (X.an ?_)
    cases h
    have h:=hup2
    replace h:=elimR h
    cases h
    refine R.f1 Tryz.results180 ?_
    rfl
   replace h:=condF hc13 h
   refine Run.skip (Run.blk (Run.reg (X.ad ?_)))
   refine X.mn ?_
   exact R.ag hag7 (n7 - 1) (z8+1) (R.n3 (by first | (rw [hds7];exact h) | (dsimp only;rw [hds7];exact h)))
  rw [A0h hza7 hc11] at h
  rw [H0y] at h
  refine Run.exit (by rfl) ?_
  exact R.mt hmeet3 () (Option.some.inj h)
 rintro p14 rfl
 replace h:=elimL h
 refine Run.sr (X.an ?_)
 cases h
 refine R.f1 Tryz.results180 ?_
 rfl
theorem C1l (b0:A0b)(b1:A0r)(r:Bool)(h:P0q b0 b1=some r):PC Tryz.prog 168 [A0n b0,H0m b1] (bool r):=by
 unfold P0q at h
 refine PC.start Tryz.func168 Tryz.ntmps168 rfl ok168 rfl ?_
 refine Run.sr (X.bx ?_)
 refine X.bx ?_
 refine X.an ?_
 refine Run.sr (X.fl B0l ?_)
 refine X.ld shp30 ?_
 refine X.ls elt30 ?_
 refine X.an ?_
 refine Run.seq (Run.seq ?_)
 obtain ⟨v1,hv1,h⟩:=bindE h
 obtain ⟨e2,he2,h2⟩:=bindE h
 refine R.regG [(2,.lptr 128 0),(3,.lptr 192 0),(34,bool e2)] [(128,.blk true [int b0.Deadline,.slice (b0.Activities.map A0d),.slice (b0.Links.map A0l),.slice (b0.Resources.map A0e),.slice (b0.Stocks.map int)]),(192,.blk true [.slice (b1.MinStart.map int),.slice (b1.MaxStart.map int),.slice (b1.Modes.map l_int)])] ?_ ?_
 ·clear h;have h:=he2;clear he2 h2
  refine X.ld shp34 ?_
  refine X.cp (F0d _ _ hv1) ?_
  refine X.un (h:=?_)
  refine X.mv ?_
  refine X.iG (fun hb3=>?_) (fun hb3=>?_)
  ·replace h:=condF hb3 h
   refine X.fl L0p ?_
   refine X.gy (X.ld shp25 ?_)
   refine X.gy (X.ls elt25 ?_)
   refine X.gy (X.mv ?_)
   refine X.gy (X.bi ?_)
   refine X.pF ?_
   refine X.mv ?_
   refine X.iG (fun hb4=>?_) (fun hb4=>?_)
   ·replace h:=condF hb4 h
    refine X.fl P0y ?_
    refine X.gy (X.ld shp25 ?_)
    refine X.gy (X.ls elt25 ?_)
    refine X.gy (X.mv ?_)
    refine X.gy (X.bi ?_)
    refine X.pF ?_
    refine X.mv ?_
    refine X.iG (fun hb5=>?_) (fun hb5=>?_)
    ·replace h:=condF hb5 h
     refine X.fl M0o ?_
     refine X.gy (X.ld shp61 ?_)
     refine X.gy (X.ls elt61 ?_)
     refine X.gy (X.mv ?_)
     refine X.gy (X.bi ?_)
     refine X.pF ?_
     cases h
     exact X.eG
    replace h:=condT hb5 h
    refine X.gn (X.gn (X.gn (X.gn (X.pT ?_))))
    cases h
    exact X.eG
   replace h:=condT hb4 h
   refine X.gn (X.gn (X.gn (X.gn (X.pT ?_))))
   refine X.mv ?_
   refine X.gn (X.gn (X.gn (X.gn (X.gn (X.pT ?_)))))
   cases h
   exact X.eG
  replace h:=condT hb3 h
  refine X.gn (X.gn (X.gn (X.gn (X.pT ?_))))
  refine X.mv ?_
  refine X.gn (X.gn (X.gn (X.gn (X.gn (X.pT ?_)))))
  refine X.mv ?_
  refine X.gn (X.gn (X.gn (X.gn (X.gn (X.pT ?_)))))
  cases h
  exact X.eG
 replace h:=h2;clear h2
 refine R.cd (fun hc6=>?_) (fun hc6=>?_)
 ·replace h:=condT hc6 h
  refine Run.sr (X.an ?_)
  cases h
  refine R.f1 Tryz.results168 ?_
  rfl
 replace h:=condF hc6 h
 refine Run.skip (Run.seq (Run.sr (X.fl M0o ?_)))
 refine X.ld shp61 ?_
 refine X.ls elt61 ?_
 refine X.mn ?_
 obtain ⟨o7,ho7,h⟩:=bindE h
 refine R.join2 (β:=Unit) [] [] (fun p31 S=>S) (fun p31 M=>M) (fun p31=>(Sum.inl p31)=o7) ?_ ?_
 ·intro JJ10 hmeet9
  have hup8:=h;clear h;have h:=ho7;clear ho7
  refine Run.block ?_
  refine R.bndS (t:=36) (by rfl) (fun hbd13=>?_)
  replace hbd13:b1.Modes.length≤9223372036854775807:=by first | (rw [List.length_map] at hbd13;exact hbd13) | simp
  refine R.lp (β:=Int) [(2,.lptr 128 0),(3,.lptr 192 0),(36,.slice (b1.Modes.map l_int)),(37,int (b1.Modes.length:Int))] [(128,.blk true [int b0.Deadline,.slice (b0.Activities.map A0d),.slice (b0.Links.map A0l),.slice (b0.Resources.map A0e),.slice (b0.Stocks.map int)]),(192,.blk true [.slice (b1.MinStart.map int),.slice (b1.MaxStart.map int),.slice (b1.Modes.map l_int)])] (fun bb S=>(38,int bb)::S) (fun bb M=>M) (fun n bb=>0≤bb∧bb+n=(b1.Modes.length:Int)∧G0x b0 b1 (b1.Modes.drop bb.toNat) bb=some o7) b1.Modes.length (0:Int) ⟨Int.le_refl _,by simp,h⟩ ?_
  clear h
  rintro JJ13 n13 z14 hag13 ⟨hza13,hzb13,h⟩
  refine Run.sr (X.bi ?_)
  refine X.nil (Run.seq ?_)
  refine R.cd (fun hc17=>?_) (fun hc17=>?_)
  ·obtain ⟨x15,xs16,hd13,hx13,hds13,hlt13⟩:=A0k hza13 hc17
   rw [hd13] at h
   rw [G0x] at h
   refine Run.skip (Run.seq (Run.block (Run.sr (X.mv ?_))))
   refine X.ix elt61 (A0a hx13).1 (A0c l_int hx13) ?_
   refine X.lc shp25 ?_
   refine X.as ?_
   refine X.an ?_
   refine Run.seq ?_
   obtain ⟨v18,hv18,h⟩:=bindE h
   obtain ⟨v19,hv19,h⟩:=bindE h
   obtain ⟨e20,he20,h2⟩:=bindE h
   refine R.regG [(2,.lptr 128 0),(3,.lptr 192 0),(36,.slice (b1.Modes.map l_int)),(37,int (b1.Modes.length:Int)),(38,int z14),(74,bool e20)] [(128,.blk true [int b0.Deadline,.slice (b0.Activities.map A0d),.slice (b0.Links.map A0l),.slice (b0.Resources.map A0e),.slice (b0.Stocks.map int)]),(192,.blk true [.slice (b1.MinStart.map int),.slice (b1.MaxStart.map int),.slice (b1.Modes.map l_int)])] ?_ ?_
   ·clear h;have h:=he20;clear he20 h2
    refine X.fl L0p ?_
    refine X.ld shp25 ?_
    refine X.mv ?_
    refine X.ix elt25 (A0a hv18).1 (A0c int hv18) ?_
    refine X.lc shp3 ?_
    refine X.cp (A1z _ _ hv19) ?_
    refine X.un (h:=?_)
    refine X.mv ?_
    refine X.iG (fun hb21=>?_) (fun hb21=>?_)
    ·replace h:=condF hb21 h
     refine X.fl P0y ?_
     refine X.gy (X.ld shp25 ?_)
     refine X.gy (X.mv ?_)
     refine X.gy ?_
     obtain ⟨v22,hv22,h⟩:=bindE h
     refine X.ix elt25 (A0a hv22).1 (A0c int hv22) ?_
     refine X.gy (X.lc shp3 ?_)
     refine X.gy ?_
     obtain ⟨v23,hv23,h⟩:=bindE h
     refine X.cp (A1z _ _ hv23) ?_
     refine X.gy (X.un (h:=?_))
     refine X.pF ?_
     refine X.mv ?_
     refine X.iG (fun hb24=>?_) (fun hb24=>?_)
     ·replace h:=condF hb24 h
      refine X.mv ?_
      refine X.gy ?_
      obtain ⟨v25,hv25,h⟩:=bindE h
      refine X.cp (N1m _ _ hv25) ?_
      refine X.gy (X.un (h:=?_))
      refine X.pF ?_
      refine X.mv ?_
      refine X.iG (fun hb26=>?_) (fun hb26=>?_)
      ·replace h:=condF hb26 h
       refine X.mv ?_
       refine X.gy (X.fl B0l ?_)
       refine X.gy (X.ld shp30 ?_)
       refine X.gy (X.mv ?_)
       refine X.gy ?_
       obtain ⟨v27,hv27,h⟩:=bindE h
       refine X.ix elt30 (A0a hv27).1 (A0c A0d hv27) ?_
       refine X.gy (X.lc shp67 ?_)
       refine X.gy ?_
       obtain ⟨v28,hv28,h⟩:=bindE h
       refine X.callF (K0d _ _ hv28) (by rfl) (by rfl) (by rfl) (by trivial) (by rfl) (by rfl) (by rfl) (by rfl) ?_
       refine X.gy ?_
       obtain ⟨v29,hv29,h⟩:=bindE h
       refine X.cp (F1d _ _ _ hv29) ?_
       refine X.gy (X.un (h:=?_))
       refine X.pF ?_
       cases h
       exact X.eG
      replace h:=condT hb26 h
      refine X.gn (X.gn (X.gn (X.gn (X.gn (X.gn (X.gn (X.gn ?_)))))))
      refine X.pT ?_
      cases h
      exact X.eG
     replace h:=condT hb24 h
     refine X.gn (X.gn (X.pT ?_))
     refine X.mv ?_
     refine X.gn (X.gn (X.gn (X.gn (X.gn (X.gn (X.gn (X.gn ?_)))))))
     refine X.gn (X.pT ?_)
     cases h
     exact X.eG
    replace h:=condT hb21 h
    refine X.gn (X.gn (X.gn (X.gn (X.gn (X.gn (X.pT ?_))))))
    refine X.mv ?_
    refine X.gn (X.gn (X.gn (X.pT ?_)))
    refine X.mv ?_
    refine X.gn (X.gn (X.gn (X.gn (X.gn (X.gn (X.gn (X.gn ?_)))))))
    refine X.gn (X.pT ?_)
    cases h
    exact X.eG
   replace h:=h2;clear h2
   refine R.cd (fun hc30=>?_) (fun hc30=>?_)
   ·replace h:=condT hc30 h
    refine Run.sr (X.an ?_)
    cases h
    have h:=hup8
    replace h:=elimR h
    cases h
    refine R.f1 Tryz.results168 ?_
    rfl
   replace h:=condF hc30 h
   refine Run.skip (Run.blk (Run.reg (X.ad ?_)))
   refine X.mn ?_
   exact R.ag hag13 (n13 - 1) (z14+1) (R.n3 (by first | (rw [hds13];exact h) | (dsimp only;rw [hds13];exact h)))
  rw [A0h hza13 hc17] at h
  rw [G0x] at h
  refine Run.exit (by rfl) ?_
  exact R.mt hmeet9 () (Option.some.inj h)
 rintro p31 rfl
 replace h:=elimL h
 refine Run.sr (X.an ?_)
 cases h
 refine R.f1 Tryz.results168 ?_
 rfl
theorem T0a (b0:List (List Int))(g1:(List Int)→Option Bool)(g1id:Nat)(g1c:List PV)(hg1:∀(x0:List Int) v,g1 x0=some v→PC Tryz.prog g1id ([.slice (x0.map int)] ++ g1c) (bool v))(r:Int)(h:F0s b0 g1=some r):PC Tryz.prog 186 [.slice (b0.map l_int),.fn g1id g1c] (int r):=by
 unfold F0s at h
 refine PC.start Tryz.func186 Tryz.ntmps186 rfl ok186 rfl ?_
 refine Run.sr (X.an ?_)
 refine Run.seq (Run.sr (X.mv ?_))
 refine X.ls elt61 ?_
 refine X.mn ?_
 obtain ⟨o1,ho1,h⟩:=bindE h
 refine R.join2 (β:=Unit) [] [] (fun p14 S=>S) (fun p14 M=>M) (fun p14=>(Sum.inl p14)=o1) ?_ ?_
 ·intro JJ4 hmeet3
  have hup2:=h;clear h;have h:=ho1;clear ho1
  refine Run.block ?_
  refine R.bndS (t:=0) (by rfl) (fun hbd7=>?_)
  replace hbd7:b0.length≤9223372036854775807:=by first | (rw [List.length_map] at hbd7;exact hbd7) | simp
  refine R.lp (β:=Int) [(0,.slice (b0.map l_int)),(1,.fn g1id g1c),(7,int (b0.length:Int))] [] (fun bb S=>(8,int bb)::S) (fun bb M=>M) (fun n bb=>0≤bb∧bb+n=(b0.length:Int)∧B0d g1 (b0.drop bb.toNat) bb=some o1) b0.length (0:Int) ⟨Int.le_refl _,by simp,h⟩ ?_
  clear h
  rintro JJ7 n7 z8 hag7 ⟨hza7,hzb7,h⟩
  refine Run.sr (X.bi ?_)
  refine X.nil (Run.seq ?_)
  refine R.cd (fun hc11=>?_) (fun hc11=>?_)
  ·obtain ⟨x9,xs10,hd7,hx7,hds7,hlt7⟩:=A0k hza7 hc11
   rw [hd7] at h
   rw [B0d] at h
   refine Run.skip (Run.seq (Run.block (Run.sr (X.mv ?_))))
   refine X.an ?_
   refine Run.sr (X.mv ?_)
   refine X.mv ?_
   refine X.mv ?_
   refine X.ix elt61 (A0a hx7).1 (A0c l_int hx7) ?_
   refine X.lc shp25 ?_
   obtain ⟨v12,hv12,h⟩:=bindE h
   refine X.cp (hg1 _ _ hv12) ?_
   refine X.nil ?_
   refine R.cd (fun hc13=>?_) (fun hc13=>?_)
   ·replace h:=condT hc13 h
    refine Run.sr (X.mv ?_)
    refine X.an ?_
    cases h
    have h:=hup2
    replace h:=elimR h
    cases h
    refine R.f1 Tryz.results186 ?_
    rfl
   replace h:=condF hc13 h
   refine Run.skip (Run.blk (Run.reg (X.ad ?_)))
   refine X.mn ?_
   exact R.ag hag7 (n7 - 1) (z8+1) (R.n3 (by first | (rw [hds7];exact h) | (dsimp only;rw [hds7];exact h)))
  rw [A0h hza7 hc11] at h
  rw [B0d] at h
  refine Run.exit (by rfl) ?_
  exact R.mt hmeet3 () (Option.some.inj h)
 rintro p14 rfl
 replace h:=elimL h
 refine Run.sr (X.an ?_)
 cases h
 refine R.f1 Tryz.results186 ?_
 rfl
theorem R0f (b0:List (List Int))(g1:(List Int)→Option Bool)(g1id:Nat)(g1c:List PV)(hg1:∀(x0:List Int) v,g1 x0=some v→PC Tryz.prog g1id ([.slice (x0.map int)] ++ g1c) (bool v))(r:Bool)(h:D0q b0 g1=some r):PC Tryz.prog 181 [.slice (b0.map l_int),.fn g1id g1c] (bool r):=by
 unfold D0q at h
 refine PC.start Tryz.func181 Tryz.ntmps181 rfl ok181 rfl ?_
 refine Run.sr (X.an ?_)
 refine Run.sr (X.mv ?_)
 refine X.mv ?_
 obtain ⟨v1,hv1,h⟩:=bindE h
 refine X.cp (T0a _ g1 _ _ hg1 _ hv1) ?_
 refine X.bi ?_
 refine X.an ?_
 cases h
 refine R.f1 Tryz.results181 ?_
 rfl
theorem W0z (b0:List Int)(r:Bool)(h:E0o b0=some r):PC Tryz.prog 182 [.slice (b0.map int)] (bool r):=by
 unfold E0o at h
 refine PC.start Tryz.func182 Tryz.ntmps182 rfl ok182 rfl ?_
 refine Run.sr (X.an ?_)
 refine Run.sr (X.mv ?_)
 refine X.ls elt25 ?_
 refine X.bi ?_
 refine X.an ?_
 cases h
 refine R.f1 Tryz.results182 ?_
 rfl
theorem B1w (b0:A0r)(r:Bool)(h:N0i b0=some r):PC Tryz.prog 169 [H0m b0] (bool r):=by
 unfold N0i at h
 refine PC.start Tryz.func169 Tryz.ntmps169 rfl ok169 rfl ?_
 refine Run.sr (X.bx ?_)
 refine X.an ?_
 refine Run.seq (Run.sr (X.fl L0p ?_))
 refine X.ld shp25 ?_
 refine X.ls elt25 ?_
 refine X.mn ?_
 obtain ⟨o1,ho1,h⟩:=bindE h
 refine R.join2 (β:=Unit) [(1,.lptr 64 0)] [(64,.blk true [.slice (b0.MinStart.map int),.slice (b0.MaxStart.map int),.slice (b0.Modes.map l_int)])] (fun p16 S=>S) (fun p16 M=>M) (fun p16=>(Sum.inl p16)=o1) ?_ ?_
 ·intro JJ4 hmeet3
  have hup2:=h;clear h;have h:=ho1;clear ho1
  refine Run.block ?_
  refine R.bndS (t:=6) (by rfl) (fun hbd7=>?_)
  replace hbd7:b0.MinStart.length≤9223372036854775807:=by first | (rw [List.length_map] at hbd7;exact hbd7) | simp
  refine R.lp (β:=Int) [(1,.lptr 64 0),(6,.slice (b0.MinStart.map int)),(7,int (b0.MinStart.length:Int))] [(64,.blk true [.slice (b0.MinStart.map int),.slice (b0.MaxStart.map int),.slice (b0.Modes.map l_int)])] (fun bb S=>(8,int bb)::S) (fun bb M=>M) (fun n bb=>0≤bb∧bb+n=(b0.MinStart.length:Int)∧F0x b0 (b0.MinStart.drop bb.toNat) bb=some o1) b0.MinStart.length (0:Int) ⟨Int.le_refl _,by simp,h⟩ ?_
  clear h
  rintro JJ7 n7 z8 hag7 ⟨hza7,hzb7,h⟩
  refine Run.sr (X.bi ?_)
  refine X.nil (Run.seq ?_)
  refine R.cd (fun hc11=>?_) (fun hc11=>?_)
  ·obtain ⟨x9,xs10,hd7,hx7,hds7,hlt7⟩:=A0k hza7 hc11
   rw [hd7] at h
   rw [F0x] at h
   refine Run.skip (Run.seq (Run.block (Run.sr (X.mv ?_))))
   refine X.ix elt25 (A0a hx7).1 (A0c int hx7) ?_
   refine X.lc shp3 ?_
   refine X.as ?_
   refine X.an ?_
   refine Run.seq ?_
   obtain ⟨e12,he12,h2⟩:=bindE h
   refine R.regG [(1,.lptr 64 0),(6,.slice (b0.MinStart.map int)),(7,int (b0.MinStart.length:Int)),(8,int z8),(26,bool e12)] [(64,.blk true [.slice (b0.MinStart.map int),.slice (b0.MaxStart.map int),.slice (b0.Modes.map l_int)])] ?_ ?_
   ·clear h;have h:=he12;clear he12 h2
    refine X.mv ?_
    refine X.fl P0y ?_
    refine X.ld shp25 ?_
    refine X.ls elt25 ?_
    refine X.bi ?_
    refine X.mv ?_
    refine X.iG (fun hb13=>?_) (fun hb13=>?_)
    ·replace h:=condT hb13 h
     refine X.mv ?_
     refine X.gy (X.fl P0y ?_)
     refine X.gy (X.ld shp25 ?_)
     refine X.gy (X.mv ?_)
     refine X.gy ?_
     obtain ⟨v14,hv14,h⟩:=bindE h
     refine X.ix elt25 (A0a hv14).1 (A0c int hv14) ?_
     refine X.gy (X.lc shp3 ?_)
     refine X.gy (X.bi ?_)
     refine X.pT ?_
     cases h
     exact X.eG
    replace h:=condF hb13 h
    refine X.gn (X.gn (X.gn (X.gn (X.gn (X.gn (X.pF ?_))))))
    cases h
    exact X.eG
   replace h:=h2;clear h2
   refine R.cd (fun hc15=>?_) (fun hc15=>?_)
   ·replace h:=condT hc15 h
    refine Run.sr (X.an ?_)
    cases h
    have h:=hup2
    replace h:=elimR h
    cases h
    refine R.f1 Tryz.results169 ?_
    rfl
   replace h:=condF hc15 h
   refine Run.skip (Run.blk (Run.reg (X.ad ?_)))
   refine X.mn ?_
   exact R.ag hag7 (n7 - 1) (z8+1) (R.n3 (by first | (rw [hds7];exact h) | (dsimp only;rw [hds7];exact h)))
  rw [A0h hza7 hc11] at h
  rw [F0x] at h
  refine Run.exit (by rfl) ?_
  exact R.mt hmeet3 () (Option.some.inj h)
 rintro p16 rfl
 replace h:=elimL h
 refine Run.sr (X.fl M0o ?_)
 refine X.ld shp61 ?_
 obtain ⟨v18,hv18,h⟩:=bindE h
 refine X.cp (R0f _ (fun x0=>E0o x0) _ _ (fun x0 v hv=>W0z _ _ hv) _ hv18) ?_
 refine X.an ?_
 cases h
 refine R.f1 Tryz.results169 ?_
 rfl
theorem Y0m (b0:A0b)(b1:A0r)(r:Bool)(h:Q0y b0 b1=some r):PC Tryz.prog 154 [A0n b0,H0m b1] (bool r):=by
 unfold Q0y at h
 refine PC.start Tryz.func154 Tryz.ntmps154 rfl ok154 rfl ?_
 refine Run.sr (X.bx ?_)
 refine X.bx ?_
 refine X.an ?_
 refine Run.seq ?_
 obtain ⟨v1,hv1,h⟩:=bindE h
 obtain ⟨e2,he2,h2⟩:=bindE h
 refine R.regG [(4,bool e2)] [] ?_ ?_
 ·clear h;have h:=he2;clear he2 h2
  refine X.ld shp34 ?_
  refine X.ld shp85 ?_
  refine X.cp (C1l _ _ _ hv1) ?_
  refine X.mv ?_
  refine X.iG (fun hb3=>?_) (fun hb3=>?_)
  ·replace h:=condT hb3 h
   refine X.ld shp85 ?_
   refine X.gy ?_
   obtain ⟨v4,hv4,h⟩:=bindE h
   refine X.cp (B1w _ _ hv4) ?_
   refine X.gy (X.un (h:=?_))
   refine X.pT ?_
   refine X.as ?_
   cases h
   exact X.eG
  replace h:=condF hb3 h
  refine X.gn (X.gn (X.pF ?_))
  refine X.as ?_
  cases h
  exact X.eG
 replace h:=h2;clear h2
 cases h
 refine R.f1 Tryz.results154 ?_
 rfl
theorem N0a (b0:A0b)(b1:Int)(r:Bool)(h:D0s b0 b1=some r):PC Tryz.prog 155 [A0n b0,int b1] (bool r):=by
 unfold D0s at h
 refine PC.start Tryz.func155 Tryz.ntmps155 rfl ok155 rfl ?_
 refine Run.sr (X.bx ?_)
 refine X.an ?_
 refine Run.sr (X.mv ?_)
 refine X.fl H0o ?_
 refine X.ld shp32 ?_
 refine X.ls elt32 ?_
 refine X.subW (h:=?_)
 obtain ⟨v1,hv1,h⟩:=bindE h
 refine X.cp (C0j _ _ _ _ hv1) ?_
 refine X.an ?_
 cases h
 refine R.f1 Tryz.results155 ?_
 rfl
theorem W0f (b0:A0b)(b1:Int)(r:Bool)(h:N0x b0 b1=some r):PC Tryz.prog 140 [A0n b0,int b1] (bool r):=by
 unfold N0x at h
 refine PC.start Tryz.func140 Tryz.ntmps140 rfl ok140 rfl ?_
 refine Run.sr (X.bx ?_)
 refine X.an ?_
 refine Run.seq ?_
 obtain ⟨v1,hv1,h⟩:=bindE h
 obtain ⟨e2,he2,h2⟩:=bindE h
 refine R.regG [(4,bool e2)] [] ?_ ?_
 ·clear h;have h:=he2;clear he2 h2
  refine X.ld shp34 ?_
  refine X.mv ?_
  refine X.cp (N0a _ _ _ hv1) ?_
  refine X.mv ?_
  refine X.iG (fun hb3=>?_) (fun hb3=>?_)
  ·replace h:=condT hb3 h
   refine X.fl H0o ?_
   refine X.gy (X.ld shp32 ?_)
   refine X.gy (X.mv ?_)
   refine X.gy ?_
   obtain ⟨v4,hv4,h⟩:=bindE h
   refine X.ix elt32 (A0a hv4).1 (A0c A0e hv4) ?_
   refine X.gy (X.fieldAddr_c N0z (by rfl) (by rfl) ?_)
   refine X.gy (X.lc shp61 ?_)
   refine X.gy (X.ls elt61 ?_)
   refine X.gy (X.bi ?_)
   refine X.pT ?_
   refine X.as ?_
   cases h
   exact X.eG
  replace h:=condF hb3 h
  refine X.gn (X.gn (X.gn (X.gn (X.gn (X.gn (X.gn (X.pF ?_)))))))
  refine X.as ?_
  cases h
  exact X.eG
 replace h:=h2;clear h2
 cases h
 refine R.f1 Tryz.results140 ?_
 rfl
theorem F1i (b0:A0b)(b1:A0r)(b2:Int)(r:Bool)(h:T0z b0 b1 b2=some r):PC Tryz.prog 133 [A0n b0,H0m b1,int b2] (bool r):=by
 unfold T0z at h
 refine PC.start Tryz.func133 Tryz.ntmps133 rfl ok133 rfl ?_
 refine Run.sr (X.bx ?_)
 refine X.bx ?_
 refine X.an ?_
 refine Run.seq ?_
 obtain ⟨v1,hv1,h⟩:=bindE h
 obtain ⟨e2,he2,h2⟩:=bindE h
 refine R.regG [(6,bool e2)] [] ?_ ?_
 ·clear h;have h:=he2;clear he2 h2
  refine X.ld shp34 ?_
  refine X.ld shp85 ?_
  refine X.cp (Y0m _ _ _ hv1) ?_
  refine X.mv ?_
  refine X.iG (fun hb3=>?_) (fun hb3=>?_)
  ·replace h:=condT hb3 h
   refine X.ld shp34 ?_
   refine X.gy (X.mv ?_)
   refine X.gy ?_
   obtain ⟨v4,hv4,h⟩:=bindE h
   refine X.cp (W0f _ _ _ hv4) ?_
   refine X.pT ?_
   refine X.as ?_
   cases h
   exact X.eG
  replace h:=condF hb3 h
  refine X.gn (X.gn (X.pF ?_))
  refine X.as ?_
  cases h
  exact X.eG
 replace h:=h2;clear h2
 cases h
 refine R.f1 Tryz.results133 ?_
 rfl
theorem B1i (b0:TMode)(c1:Int)(r:Int×Bool)(h:N0g b0 c1=some r):PC Tryz.prog 170 [B0f b0,.cptr (int c1:PV).cells 0] (.tuple [int r.1,bool r.2]):=by
 unfold N0g at h
 refine PC.start Tryz.func170 Tryz.ntmps170 rfl ok170 rfl ?_
 refine Run.sr (X.bx ?_)
 refine X.as ?_
 refine X.an ?_
 refine Run.sr (X.fl S0d ?_)
 refine X.ld shp25 ?_
 refine X.lc shp3 ?_
 obtain ⟨v1,hv1,h⟩:=bindE h
 refine X.callT (A1r _ _ _ hv1) (by rfl) (by rfl) (by rfl) (by trivial) (by rfl) (by rfl) (by rfl) (by rfl) (by rfl) (by rfl) ?_
 refine X.extract (h:=?_)
 refine X.extract (h:=?_)
 refine X.as ?_
 refine X.an ?_
 cases h
 refine R.fin2 Tryz.results170 (by rfl) (by rfl) (by rfl) (by repeat (first | trivial | refine ⟨by first | rfl | simp [setL],?_⟩)) ?_
 rfl
theorem G1k (b0:A0f)(b1:List Int)(b2:Int)(r:Int)(h:Q0z b0 b1 b2=some r):PC Tryz.prog 156 [A0d b0,.slice (b1.map int),int b2] (int r):=by
 unfold Q0z at h
 refine PC.start Tryz.func156 Tryz.ntmps156 rfl ok156 rfl ?_
 refine Run.sr (X.bx ?_)
 refine X.bx ?_
 refine X.an ?_
 refine Run.seq ?_
 refine R.pubBlk (n:=320) (by rfl) (by rfl) (by repeat (first | trivial | refine ⟨by first | rfl | simp [setL],?_⟩)) ?_
 refine Run.reg (X.ld shp67 ?_)
 refine X.mv ?_
 obtain ⟨v1,hv1,h⟩:=bindE h
 refine X.callF (X0i _ _ _ hv1) (by rfl) (by rfl) (by rfl) (by trivial) (by rfl) (by rfl) (by rfl) (by rfl) ?_
 refine X.makeFunc (by rfl) (by rfl) (by repeat (first | trivial | refine ⟨by first | rfl | simp [setL],?_⟩)) (by rfl) (by rfl) ?_
 obtain ⟨v2,hv2,h⟩:=bindE h
 refine X.cp (A1u _ (fun x0=>N0g x0 b2) _ _ (fun x0 v hv=>B1i _ _ _ hv) _ hv2) ?_
 refine X.an ?_
 cases h
 refine R.f1 Tryz.results156 ?_
 rfl
theorem Y0q (b0:A0b)(b1:A0r)(b2:Int)(b3:Int)(r:Int)(h:J0f b0 b1 b2 b3=some r):PC Tryz.prog 136 [A0n b0,H0m b1,int b2,int b3] (int r):=by
 unfold J0f at h
 refine PC.start Tryz.func136 Tryz.ntmps136 rfl ok136 rfl ?_
 refine Run.sr (X.bx ?_)
 refine X.bx ?_
 refine X.an ?_
 refine Run.seq (Run.seq ?_)
 obtain ⟨v1,hv1,h⟩:=bindE h
 obtain ⟨e2,he2,h2⟩:=bindE h
 refine R.regG [(2,int b2),(3,int b3),(4,.lptr 256 0),(5,.lptr 320 0),(24,bool e2)] [(256,.blk true [int b0.Deadline,.slice (b0.Activities.map A0d),.slice (b0.Links.map A0l),.slice (b0.Resources.map A0e),.slice (b0.Stocks.map int)]),(320,.blk true [.slice (b1.MinStart.map int),.slice (b1.MaxStart.map int),.slice (b1.Modes.map l_int)])] ?_ ?_
 ·clear h;have h:=he2;clear he2 h2
  refine X.ld shp34 ?_
  refine X.ld shp85 ?_
  refine X.cp (Y0m _ _ _ hv1) ?_
  refine X.un (h:=?_)
  refine X.mv ?_
  refine X.iG (fun hb3=>?_) (fun hb3=>?_)
  ·replace h:=condF hb3 h
   refine X.ld shp34 ?_
   refine X.gy (X.mv ?_)
   refine X.gy ?_
   obtain ⟨v4,hv4,h⟩:=bindE h
   refine X.cp (D0p _ _ _ hv4) ?_
   refine X.gy (X.un (h:=?_))
   refine X.pF ?_
   refine X.mv ?_
   refine X.iG (fun hb5=>?_) (fun hb5=>?_)
   ·replace h:=condF hb5 h
    refine X.ld shp34 ?_
    refine X.gy (X.mv ?_)
    refine X.gy ?_
    obtain ⟨v6,hv6,h⟩:=bindE h
    refine X.cp (N0a _ _ _ hv6) ?_
    refine X.gy (X.un (h:=?_))
    refine X.pF ?_
    cases h
    exact X.eG
   replace h:=condT hb5 h
   refine X.gn (X.gn (X.gn (X.pT ?_)))
   cases h
   exact X.eG
  replace h:=condT hb3 h
  refine X.gn (X.gn (X.gn (X.pT ?_)))
  refine X.mv ?_
  refine X.gn (X.gn (X.gn (X.gn (X.pT ?_))))
  cases h
  exact X.eG
 replace h:=h2;clear h2
 refine R.cd (fun hc7=>?_) (fun hc7=>?_)
 ·replace h:=condT hc7 h
  refine Run.sr (X.an ?_)
  cases h
  refine R.f1 Tryz.results136 ?_
  rfl
 replace h:=condF hc7 h
 refine Run.skip (Run.seq (Run.draw (B0m [(1,([256],[],[],[])),(6,([320],[],[],[]))]) mixed (by kernel_rfl) (by kernel_rfl) ?_))
 refine X.fl B0l ?_
 refine X.ld shp30 ?_
 refine X.mv ?_
 obtain ⟨v8,hv8,h⟩:=bindE h
 refine X.ix elt30 (A0a hv8).1 (A0c A0d hv8) ?_
 refine X.lc shp67 ?_
 refine X.fl M0o ?_
 refine X.ld shp61 ?_
 refine X.mv ?_
 obtain ⟨v9,hv9,h⟩:=bindE h
 refine X.ix elt61 (A0a hv9).1 (A0c l_int hv9) ?_
 refine X.lc shp25 ?_
 refine X.mv ?_
 obtain ⟨v10,hv10,h⟩:=bindE h
 refine X.cp (G1k _ _ _ _ hv10) ?_
 refine X.an ?_
 cases h
 refine R.f1 Tryz.results136 ?_
 rfl
theorem W0a (b0:Int)(c1:A0b)(c2:A0r)(c3:Int)(r:Bool)(h:D0l b0 c1 c2 c3=some r):PC Tryz.prog 135 [int b0,.cptr (A0n c1:PV).cells 0,.cptr (H0m c2:PV).cells 0,.cptr (int c3:PV).cells 0] (bool r):=by
 unfold D0l at h
 refine PC.start Tryz.func135 Tryz.ntmps135 rfl ok135 rfl ?_
 refine Run.sr (X.an ?_)
 refine Run.sr (X.lc shp34 ?_)
 refine X.lc shp85 ?_
 refine X.lc shp3 ?_
 refine X.mv ?_
 obtain ⟨v1,hv1,h⟩:=bindE h
 refine X.cp (Y0q _ _ _ _ _ hv1) ?_
 refine X.bi ?_
 refine X.an ?_
 cases h
 refine R.f1 Tryz.results135 ?_
 rfl
theorem Q1u (b0:List Int)(g1:Int→Option Bool)(g1id:Nat)(g1c:List PV)(hg1:∀(x0:Int) v,g1 x0=some v→PC Tryz.prog g1id ([int x0] ++ g1c) (bool v))(r:List Int)(h:K1e b0 g1=some r):PC Tryz.prog 134 [.slice (b0.map int),.fn g1id g1c] (.fresh true 3 1 (r.map int)):=by
 unfold K1e at h
 refine PC.start Tryz.func134 Tryz.ntmps134 rfl ok134 rfl ?_
 refine Run.sr (X.an ?_)
 refine Run.sr ?_
 refine X.buildSlice true elt25 zer3 (by rfl) (by rfl) (by rfl) (by rfl) (by rfl) (by rfl) (by repeat (first | trivial | refine ⟨by first | rfl | simp [setL],?_⟩)) (A0o (by rfl)) (by rfl) (by rfl) (by rfl) ?_
 refine X.an ?_
 refine Run.seq (Run.sr (X.mv ?_))
 refine X.ls elt25 ?_
 refine X.mn ?_
 obtain ⟨o1,ho1,h⟩:=bindE h
 refine R.join2 (β:=(List Int)) [] [] (fun p16 S=>(5,.own 512 (p16.map int).length)::S) (fun p16 M=>(512,.obj true 3 1 (p16.map int))::M) (fun p16=>p16=o1) ?_ ?_
 ·intro JJ4 hmeet3
  have hup2:=h;clear h;have h:=ho1;clear ho1
  refine Run.block ?_
  refine R.bndS (t:=0) (by rfl) (fun hbd7=>?_)
  replace hbd7:b0.length≤9223372036854775807:=by first | (rw [List.length_map] at hbd7;exact hbd7) | simp
  refine R.lp (β:=Int×(List Int)) [(1,.fn g1id g1c),(9,.slice (b0.map int)),(10,int (b0.length:Int))] [] (fun bb S=>(5,.own 512 (bb.2.map int).length)::(11,int bb.1)::S) (fun bb M=>(512,.obj true 3 1 (bb.2.map int))::M) (fun n bb=>0≤bb.1∧bb.1+n=(b0.length:Int)∧N0l g1 (b0.drop bb.1.toNat) bb.1 bb.2=some o1) b0.length (0,([]:List Int)) ⟨Int.le_refl _,by simp,h⟩ ?_
  clear h
  rintro JJ7 n7 ⟨z8,a9⟩ hag7 ⟨hza7,hzb7,h⟩
  dsimp only at hza7 hzb7 h
  refine Run.sr (X.bi ?_)
  refine X.nil (Run.seq ?_)
  refine R.cd (fun hc12=>?_) (fun hc12=>?_)
  ·obtain ⟨x10,xs11,hd7,hx7,hds7,hlt7⟩:=A0k hza7 hc12
   rw [hd7] at h
   rw [N0l] at h
   refine Run.skip (Run.seq (Run.block (Run.sr (X.ix elt25 (A0a hx7).1 (A0c int hx7) ?_))))
   refine X.lc shp3 ?_
   refine X.an ?_
   refine Run.sr (X.mv ?_)
   refine X.mv ?_
   obtain ⟨v13,hv13,h⟩:=bindE h
   refine X.cp (hg1 _ _ hv13) ?_
   refine X.nil ?_
   refine R.cd (fun hc14=>?_) (fun hc14=>?_)
   ·replace h:=condT hc14 h
    refine Run.reg (X.mv ?_)
    refine X.mv ?_
    refine X.buildSlice true elt25 zer3 (by rfl) (by rfl) (by rfl) (by rfl) (by rfl) (by rfl) (by repeat (first | trivial | refine ⟨by first | rfl | simp [setL],?_⟩)) (A0o (by rfl)) (by rfl) (by rfl) (by rfl) ?_
    obtain ⟨v15,hv15,h⟩:=bindE h
    refine X.append elt25 zer3 (by rfl) (by rfl) (by first | rfl | simp [setL] | omega) (by rfl) (.own _ _ _ _ _ _ (A0g (by rfl)) (by first | rfl | simp [setL] | omega)) (A0o (by rfl)) (E0l int hv15) (E0k int hv15) (by rfl) (by rfl) (by rfl) (by rfl) ?_
    refine X.an ?_
    refine Run.blk (Run.reg (X.ad ?_))
    refine X.mn ?_
    exact R.ag hag7 (n7 - 1) (z8+1,v15) (R.n3 (by first | (rw [hds7];exact h) | (dsimp only;rw [hds7];exact h)))
   replace h:=condF hc14 h
   refine Run.skip (Run.blk (Run.reg (X.ad ?_)))
   refine X.mn ?_
   exact R.ag hag7 (n7 - 1) (z8+1,a9) (R.n3 (by first | (rw [hds7];exact h) | (dsimp only;rw [hds7];exact h)))
  rw [A0h hza7 hc12] at h
  rw [N0l] at h
  refine Run.exit (by rfl) ?_
  exact R.mt hmeet3 a9 (Option.some.inj h)
 rintro p16 rfl
 refine Run.sr (X.mv ?_)
 refine X.an ?_
 cases h
 refine R.fin1o Tryz.results134 (by rfl) (by rfl) (by first | rfl | simp [setL] | omega) ?_
 rfl
theorem U0n (b0:Int)(r:Bool)(h:N0e b0=some r):PC Tryz.prog 158 [int b0] (bool r):=by
 unfold N0e at h
 refine PC.start Tryz.func158 Tryz.ntmps158 rfl ok158 rfl ?_
 refine Run.sr (X.an ?_)
 refine Run.sr (X.mv ?_)
 refine X.mv ?_
 refine X.bi ?_
 refine X.an ?_
 cases h
 refine R.f1 Tryz.results158 ?_
 rfl
theorem X0n (b0:Int)(b1:Int)(r:Int)(h:L0e b0 b1=some r):PC Tryz.prog 139 [int b0,int b1] (int r):=by
 unfold L0e at h
 refine PC.start Tryz.func139 Tryz.ntmps139 rfl ok139 rfl ?_
 refine Run.sr (X.an ?_)
 refine Run.sr (X.mv ?_)
 obtain ⟨v1,hv1,h⟩:=bindE h
 refine X.cp (U0n _ _ hv1) ?_
 refine X.an ?_
 refine Run.sr (X.mv ?_)
 obtain ⟨v2,hv2,h⟩:=bindE h
 refine X.cp (U0n _ _ hv2) ?_
 refine X.an ?_
 refine Run.seq (Run.sr (X.mn ?_))
 refine R.cd (fun hc3=>?_) (fun hc3=>?_)
 ·replace h:=condT hc3 h
  refine Run.seq (Run.sr (X.mn ?_))
  refine R.cd (fun hc4=>?_) (fun hc4=>?_)
  ·replace h:=condT hc4 h
   refine Run.sr (X.an ?_)
   cases h
   refine R.f1 Tryz.results139 ?_
   rfl
  replace h:=condF hc4 h
  refine Run.skip (Run.sr (X.an ?_))
  cases h
  refine R.f1 Tryz.results139 ?_
  rfl
 replace h:=condF hc3 h
 refine Run.skip (Run.seq (Run.sr (X.mn ?_)))
 refine R.cd (fun hc5=>?_) (fun hc5=>?_)
 ·replace h:=condT hc5 h
  refine Run.sr (X.an ?_)
  cases h
  refine R.f1 Tryz.results139 ?_
  rfl
 replace h:=condF hc5 h
 refine Run.skip (Run.seq (Run.sr (X.mv ?_)))
 refine X.mv ?_
 refine X.bi ?_
 refine X.nil ?_
 refine R.cd (fun hc6=>?_) (fun hc6=>?_)
 ·replace h:=condT hc6 h
  refine Run.sr (X.an ?_)
  cases h
  refine R.f1 Tryz.results139 ?_
  rfl
 replace h:=condF hc6 h
 refine Run.skip (Run.seq (Run.sr (X.mv ?_)))
 refine X.mv ?_
 refine X.bi ?_
 refine X.nil ?_
 refine R.cd (fun hc7=>?_) (fun hc7=>?_)
 ·replace h:=condT hc7 h
  refine Run.sr (X.an ?_)
  cases h
  refine R.f1 Tryz.results139 ?_
  rfl
 replace h:=condF hc7 h
 refine Run.skip (Run.sr (X.an ?_))
 cases h
 refine R.f1 Tryz.results139 ?_
 rfl
theorem W0b (b0:Int)(b1:Int)(c2:A0r)(r:Int)(h:G0s b0 b1 c2=some r):PC Tryz.prog 138 [int b0,int b1,.cptr (H0m c2:PV).cells 0] (int r):=by
 unfold G0s at h
 refine PC.start Tryz.func138 Tryz.ntmps138 rfl ok138 rfl ?_
 refine Run.sr (X.an ?_)
 refine Run.seq (Run.draw (B0m []) mixed (by kernel_rfl) (by kernel_rfl) ?_)
 refine X.fieldAddr_c L0p (by rfl) (by rfl) ?_
 refine X.lc shp25 ?_
 refine X.mv ?_
 obtain ⟨v1,hv1,h⟩:=bindE h
 refine X.ix elt25 (A0a hv1).1 (A0c int hv1) ?_
 refine X.lc shp3 ?_
 refine X.fieldAddr_c L0p (by rfl) (by rfl) ?_
 refine X.lc shp25 ?_
 refine X.mv ?_
 obtain ⟨v2,hv2,h⟩:=bindE h
 refine X.ix elt25 (A0a hv2).1 (A0c int hv2) ?_
 refine X.lc shp3 ?_
 obtain ⟨v3,hv3,h⟩:=bindE h
 refine X.cp (X0n _ _ _ hv3) ?_
 refine X.an ?_
 cases h
 refine R.f1 Tryz.results138 ?_
 rfl
end Go.Px.YthmahbejodhanaaGreatDoor
