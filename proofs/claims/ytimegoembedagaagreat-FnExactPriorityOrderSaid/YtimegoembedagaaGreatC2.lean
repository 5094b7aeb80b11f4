/-
  PROVED: contracts of functions of the program over pure values. No condition beyond those that each theorem names.
-/
import Derived.Test.YtimegoembedagaaGreatProg
import Derived.Test.YtimegoembedagaaGreatD1
import Derived.Test.YtimegoembedagaaGreatC1
namespace Go.Px.YtimegoembedagaaGreat
set_option linter.unusedSimpArgs false
set_option linter.unusedVariables false
open Go.Px Go.Proofs
theorem K0n (b0:List Int)(r:List Int)(h:F0a b0=some r):PC Tryz.prog 153 [.slice (b0.map int)] (.fresh false 3 1 (r.map int)):=by
 unfold F0a at h
 refine PC.split (fun hl ad cap=>?_) (fun hl=>?_)
 ·refine PC.start Tryz.func153 Tryz.ntmps153 rfl ok153 rfl ?_
  refine Run.sr (X.an ?_)
  refine Run.seq (Run.sr (X.mv ?_))
  refine X.eqlNilL elt25 (by rfl) (by rfl) (by rfl) ?_
  refine X.nil ?_
  refine R.cd (fun hc=>?_) (fun hc=>?_)
  ·refine Run.sr (X.an ?_)
   refine R.fin1n (x:=false) (e:=3) (sz:=1) Tryz.results153 (by rfl) (by decide) ?_
   obtain ⟨q,hq,h⟩:=bindE h
   have hqr:=Option.some.inj h
   have hz:r=[]:=by rw [← hqr,(Y0i hq).2,List.map_eq_nil_iff.1 hl];rfl
   rw [hz];rfl
  refine Run.skip (R.slice0 (t:=0) (l:=b0.map int) hl (by rfl) ?_)
  refine Run.sr ?_
  refine X.buildSlice false elt25 zer3 (by rfl) (by rfl) (by rfl) (by rfl) (by rfl) (by rfl) (by repeat (first | trivial | refine ⟨by first | rfl | simp [setL],?_⟩)) (A0w (by rfl)) (by rfl) (by rfl) (by rfl) ?_
  refine X.mv ?_
  obtain ⟨v1,hv1,h⟩:=bindE h
  refine X.append elt25 zer3 (by rfl) (by rfl) (by first | rfl | simp [setL] | omega) (by rfl) (.pure _) (by exact A0h (f:=int) (fun _=>rfl)) (G0u int hv1) (G0t int hv1) (by rfl) (by rfl) (by rfl) (by rfl) ?_
  refine X.an ?_
  cases h
  refine R.fin1o Tryz.results153 (by rfl) (by rfl) (by first | rfl | simp [setL] | omega) ?_
  rfl
 refine PC.start Tryz.func153 Tryz.ntmps153 rfl ok153 rfl ?_
 refine Run.sr (X.an ?_)
 refine Run.seq (Run.sr (X.mv ?_))
 refine X.eqlNilS elt25 (by rfl) (.pure _) (.inl hl) (by rfl) (by rfl) ?_
 refine X.nil (R.condF (b:=(b0.map int).isEmpty) (by simpa using hl) (by rfl) ?_)
 refine Run.skip (Run.sr ?_)
 refine X.buildSlice false elt25 zer3 (by rfl) (by rfl) (by rfl) (by rfl) (by rfl) (by rfl) (by repeat (first | trivial | refine ⟨by first | rfl | simp [setL],?_⟩)) (A0w (by rfl)) (by rfl) (by rfl) (by rfl) ?_
 refine X.mv ?_
 obtain ⟨v1,hv1,h⟩:=bindE h
 refine X.append elt25 zer3 (by rfl) (by rfl) (by first | rfl | simp [setL] | omega) (by rfl) (.pure _) (by exact A0h (f:=int) (fun _=>rfl)) (G0u int hv1) (G0t int hv1) (by rfl) (by rfl) (by rfl) (by rfl) ?_
 refine X.an ?_
 cases h
 refine R.fin1o Tryz.results153 (by rfl) (by rfl) (by first | rfl | simp [setL] | omega) ?_
 rfl
theorem S0q (rec:A0d→(List Int)→(List Int)→Int→Int→Option (List Int))(hrec:∀(b0:A0d) (b1:List Int) (b2:List Int) (b3:Int) (b4:Int) (r:List Int),rec b0 b1 b2 b3 b4=some r→PC Tryz.prog 134 [A0v b0,.slice (b1.map int),.slice (b2.map int),int b3,int b4] (nilsV (r.map int)))(b0:A0d)(b1:List Int)(b2:List Int)(b3:Int)(b4:Int)(r:List Int)(h:G0v rec b0 b1 b2 b3 b4=some r):PC Tryz.prog 134 [A0v b0,.slice (b1.map int),.slice (b2.map int),int b3,int b4] (nilsV (r.map int)):=by
 unfold G0v at h
 refine PC.start Tryz.func134 Tryz.ntmps134 rfl ok134 rfl ?_
 refine Run.sr (X.bx ?_)
 refine X.an ?_
 refine Run.seq (Run.draw2 (D0a [(1,([320],[],[],[])),(8,([320],[],[],[])),(17,([704],[704],[],[])),(18,([768],[768],[],[])),(19,([704],[704],[],[])),(20,([768],[768],[],[]))]) mixed (by kernel_rfl) (by kernel_rfl) ?_)
 refine X.fl G0s ?_
 refine X.ld shp31 ?_
 refine X.mv ?_
 obtain ⟨v1,hv1,h⟩:=bindE h
 refine X.ix elt25 (A0a hv1).1 (A0b int hv1) ?_
 refine X.lc shp3 ?_
 obtain ⟨v2,hv2,h⟩:=bindE h
 refine X.ix elt31 (A0a hv2).1 (A0b A0k hv2) ?_
 refine X.lc shp87 ?_
 refine X.fl G0s ?_
 refine X.ld shp31 ?_
 refine X.mv ?_
 refine X.mv ?_
 refine X.ls elt25 ?_
 refine X.subW (h:=?_)
 obtain ⟨v3,hv3,h⟩:=bindE h
 refine X.ix elt25 (A0a hv3).1 (A0b int hv3) ?_
 refine X.lc shp3 ?_
 obtain ⟨v4,hv4,h⟩:=bindE h
 refine X.ix elt31 (A0a hv4).1 (A0b A0k hv4) ?_
 refine X.lc shp87 ?_
 refine X.alloc zer87 (h:=?_)
 refine X.alloc zer87 (h:=?_)
 refine X.sl shp87 ?_
 refine X.sl shp87 ?_
 refine X.nil (Run.seq (Run.sr (X.mv ?_)))
 refine X.ls elt25 ?_
 refine X.mv ?_
 refine X.bi ?_
 refine X.nil ?_
 refine R.cd (fun hc5=>?_) (fun hc5=>?_)
 ·replace h:=condT hc5 h
  refine Run.seq (Run.seq ?_)
  obtain ⟨e6,he6,h2⟩:=bindE h
  refine R.regG [(1,.slice (b1.map int)),(45,bool e6)] [] ?_ ?_
  ·clear h;have h:=he6;clear he6 h2
   refine X.fl J0c ?_
   refine X.ld shp3 ?_
   refine X.fl G0x ?_
   refine X.ld shp3 ?_
   refine X.bi ?_
   refine X.mv ?_
   refine X.iG (fun hb7=>?_) (fun hb7=>?_)
   ·replace h:=condT hb7 h
    refine X.mv ?_
    refine X.gy (X.bi ?_)
    refine X.pT ?_
    cases h
    exact X.eG
   replace h:=condF hb7 h
   refine X.gn (X.pF ?_)
   cases h
   exact X.eG
  replace h:=h2;clear h2
  refine R.cd (fun hc8=>?_) (fun hc8=>?_)
  ·replace h:=condT hc8 h
   refine Run.sr (X.mv ?_)
   obtain ⟨v9,hv9,h⟩:=bindE h
   refine X.callF (K0n _ _ hv9) (by rfl) (by rfl) (by rfl) (by trivial) (by rfl) (by rfl) (by rfl) (by rfl) ?_
   refine X.an ?_
   obtain ⟨v10,hv10,h⟩:=bindE h
   cases h
   refine R.castS (t:=10) _ (by rfl) (.inr (.inr ⟨_,_,_,_,_,rfl,(by rfl),(by first | rfl | simp [setL] | omega),rfl⟩)) ?_
   refine R.f1 Tryz.results134 ?_
   exact L1v int hv10
  replace h:=condF hc8 h
  refine Run.skip (Run.sr (X.an ?_))
  cases h
  refine R.f1 Tryz.results134 ?_
  rfl
 replace h:=condF hc5 h
 refine Run.skip (Run.seq (Run.sr (X.mv ?_)))
 refine X.fl J0c ?_
 refine X.ld shp3 ?_
 obtain ⟨v11,hv11,h⟩:=bindE h
 refine X.cp (L0l _ _ _ hv11) ?_
 refine X.nil ?_
 refine R.cd (fun hc12=>?_) (fun hc12=>?_)
 ·replace h:=condT hc12 h
  refine Run.sr (X.an ?_)
  cases h
  refine R.f1 Tryz.results134 ?_
  rfl
 replace h:=condF hc12 h
 refine Run.skip (Run.seq (Run.sr (X.fl G0s ?_)))
 refine X.ld shp31 ?_
 refine X.ls elt31 ?_
 refine X.mn ?_
 obtain ⟨o13,ho13,h⟩:=bindE h
 refine R.join2 (β:=Unit) [] [] (fun p34 S=>S) (fun p34 M=>M) (fun p34=>(Sum.inl p34)=o13) ?_ ?_
 ·intro JJ16 hmeet15
  have hup14:=h;clear h;have h:=ho13;clear ho13
  refine Run.block ?_
  refine R.bndS (t:=17) (by rfl) (fun hbd19=>?_)
  replace hbd19:b0.Links.length≤9223372036854775807:=by first | (rw [List.length_map] at hbd19;exact hbd19) | simp
  refine R.lp (β:=Int) [(1,.slice (b1.map int)),(2,.slice (b2.map int)),(3,int b3),(4,int b4),(5,.lptr 320 0),(12,.lptr 768 0),(53,.slice (b0.Links.map A0k)),(54,int (b0.Links.length:Int))] [(320,.blk true [int b0.Deadline,.slice (b0.Activities.map A0c),.slice (b0.Links.map A0k),.slice (b0.Resources.map A0e),.slice (b0.Stocks.map int)]),(768,.blk true [int v4.From,int v4.To,bool v4.FromEnd,int v4.Lag])] (fun bb S=>(55,int bb)::S) (fun bb M=>M) (fun n bb=>0≤bb∧bb+n=(b0.Links.length:Int)∧C0m b0 b1 b2 b3 b4 rec v1 v4 (b0.Links.drop bb.toNat) bb=some o13) b0.Links.length (0:Int) ⟨Int.le_refl _,by simp,h⟩ ?_
  clear h
  rintro JJ19 n19 z20 hag19 ⟨hza19,hzb19,h⟩
  refine Run.sr (X.bi ?_)
  refine X.nil (Run.seq ?_)
  refine R.cd (fun hc23=>?_) (fun hc23=>?_)
  ·obtain ⟨x21,xs22,hd19,hx19,hds19,hlt19⟩:=A0q hza19 hc23
   rw [hd19] at h
   rw [C0m] at h
   refine Run.skip (Run.seq (Run.block (Run.sr (X.mv ?_))))
   refine X.ix elt31 (A0a hx19).1 (A0b A0k hx19) ?_
   refine X.lc shp87 ?_
   refine X.alloc zer87 (h:=?_)
   refine X.as ?_
   refine X.sl shp87 ?_
   refine X.nil (Run.seq ?_)
   obtain ⟨e24,he24,h2⟩:=bindE h
   refine R.regG [(1,.slice (b1.map int)),(2,.slice (b2.map int)),(3,int b3),(4,int b4),(5,.lptr 320 0),(12,.lptr 768 0),(13,int z20),(14,.lptr 896 0),(53,.slice (b0.Links.map A0k)),(54,int (b0.Links.length:Int)),(55,int z20),(71,bool e24)] [(320,.blk true [int b0.Deadline,.slice (b0.Activities.map A0c),.slice (b0.Links.map A0k),.slice (b0.Resources.map A0e),.slice (b0.Stocks.map int)]),(768,.blk true [int v4.From,int v4.To,bool v4.FromEnd,int v4.Lag]),(896,.blk true [int x21.From,int x21.To,bool x21.FromEnd,int x21.Lag])] ?_ ?_
   ·clear h;have h:=he24;clear he24 h2
    refine X.mv ?_
    refine X.mv ?_
    refine X.ix elt25 (A0a hv1).1 (A0b int hv1) ?_
    refine X.lc shp3 ?_
    refine X.bi ?_
    refine X.mv ?_
    refine X.iG (fun hb25=>?_) (fun hb25=>?_)
    ·replace h:=condT hb25 h
     refine X.fl G0x ?_
     refine X.gy (X.ld shp3 ?_)
     refine X.gy (X.fl J0c ?_)
     refine X.gy (X.ld shp3 ?_)
     refine X.gy (X.bi ?_)
     refine X.pT ?_
     cases h
     exact X.eG
    replace h:=condF hb25 h
    refine X.gn (X.gn (X.gn (X.gn (X.pF ?_))))
    cases h
    exact X.eG
   replace h:=h2;clear h2
   refine R.cd (fun hc26=>?_) (fun hc26=>?_)
   ·replace h:=condT hc26 h
    refine Run.seq (Run.draw2 (D0a [(0,([320],[],[],[])),(2,([],[4736],[],[])),(4,([4864],[4864],[],[])),(5,([4736,4864],[4736],[],[])),(7,([],[5056],[],[])),(9,([768],[],[],[])),(10,([5248],[5248],[],[])),(11,([5056,5248],[5056],[],[])),(13,([320],[],[],[])),(14,([896],[],[],[])),(18,([4736,5056],[],[],[]))]) mixed (by kernel_rfl) (by kernel_rfl) ?_)
    refine X.ld shp34 ?_
    refine X.mv ?_
    obtain ⟨v27,hv27,h⟩:=bindE h
    refine X.callF (K0n _ _ hv27) (by rfl) (by rfl) (by rfl) (by trivial) (by rfl) (by rfl) (by rfl) (by rfl) ?_
    refine X.mv ?_
    refine X.buildSlice false elt25 zer3 (by rfl) (by rfl) (by rfl) (by rfl) (by rfl) (by rfl) (by repeat (first | trivial | refine ⟨by first | rfl | simp [setL],?_⟩)) (A0w (by rfl)) (by rfl) (by rfl) (by rfl) ?_
    obtain ⟨v28,hv28,h⟩:=bindE h
    refine X.append elt25 zer3 (by rfl) (by rfl) (by first | rfl | simp [setL] | omega) (by rfl) (.own _ _ _ _ _ _ (A0f (by rfl)) (by first | rfl | simp [setL] | omega)) (A0w (by rfl)) (G0u int hv28) (G0t int hv28) (by rfl) (by rfl) (by rfl) (by rfl) ?_
    refine X.mv ?_
    obtain ⟨v29,hv29,h⟩:=bindE h
    refine X.callF (K0n _ _ hv29) (by rfl) (by rfl) (by rfl) (by trivial) (by rfl) (by rfl) (by rfl) (by rfl) ?_
    refine X.fl J0c ?_
    refine X.ld shp3 ?_
    refine X.buildSlice false elt25 zer3 (by rfl) (by rfl) (by rfl) (by rfl) (by rfl) (by rfl) (by repeat (first | trivial | refine ⟨by first | rfl | simp [setL],?_⟩)) (A0w (by rfl)) (by rfl) (by rfl) (by rfl) ?_
    obtain ⟨v30,hv30,h⟩:=bindE h
    refine X.append elt25 zer3 (by rfl) (by rfl) (by first | rfl | simp [setL] | omega) (by rfl) (.own _ _ _ _ _ _ (A0f (by rfl)) (by first | rfl | simp [setL] | omega)) (A0w (by rfl)) (G0u int hv30) (G0t int hv30) (by rfl) (by rfl) (by rfl) (by rfl) ?_
    refine X.mv ?_
    refine X.ld shp34 ?_
    refine X.ld shp87 ?_
    obtain ⟨v31,hv31,h⟩:=bindE h
    refine X.cp (J0v _ _ _ hv31) ?_
    refine X.addW (h:=?_)
    refine X.mv ?_
    obtain ⟨v32,hv32,h⟩:=bindE h
    refine X.callN (hrec _ _ _ _ _ _ hv32) (by rfl) (by rfl) (by rfl) (by repeat (first | trivial | refine ⟨by first | rfl | simp [setL],?_⟩)) (by rfl) (by rfl) (by rfl) ?_
    refine X.an ?_
    refine Run.sr (X.mv ?_)
    refine X.neqN (z:=(!(v32.isEmpty))) elt25 (by rfl) (by simp) (by rfl) (by rfl) ?_
    refine X.nil ?_
    refine R.cd (fun hc33=>?_) (fun hc33=>?_)
    ·replace h:=condT hc33 h
     refine Run.sr (X.mv ?_)
     refine X.an ?_
     cases h
     have h:=hup14
     replace h:=elimR h
     cases h
     refine R.fin1 Tryz.results134 (by rfl) (T0o _) ?_
     rfl
    replace h:=condF hc33 h
    refine Run.skip (Run.blk (Run.reg (X.ad ?_)))
    refine X.mn ?_
    exact R.ag hag19 (n19 - 1) (z20+1) (R.n3 (by first | (rw [hds19];exact h) | (dsimp only;rw [hds19];exact h)))
   replace h:=condF hc26 h
   refine Run.skip (Run.blk (Run.reg (X.ad ?_)))
   refine X.mn ?_
   exact R.ag hag19 (n19 - 1) (z20+1) (R.n3 (by first | (rw [hds19];exact h) | (dsimp only;rw [hds19];exact h)))
  rw [A0j hza19 hc23] at h
  rw [C0m] at h
  refine Run.exit (by rfl) ?_
  exact R.mt hmeet15 () (Option.some.inj h)
 rintro p34 rfl
 replace h:=elimL h
 refine Run.sr (X.an ?_)
 cases h
 refine R.f1 Tryz.results134 ?_
 rfl
theorem U0q (b0:A0d)(b1:List Int)(b2:List Int)(b3:Int)(b4:Int)(r:List Int)(h:P0a b0 b1 b2 b3 b4=some r):PC Tryz.prog 134 [A0v b0,.slice (b1.map int),.slice (b2.map int),int b3,int b4] (nilsV (r.map int)):=by
 have key:∀(n:Nat)(b0:A0d)(b1:List Int)(b2:List Int)(b3:Int)(b4:Int)(r:List Int),E0a n b0 b1 b2 b3 b4=some r→PC Tryz.prog 134 [A0v b0,.slice (b1.map int),.slice (b2.map int),int b3,int b4] (nilsV (r.map int)):=by
  intro n
  induction n with
  | zero=>intro b0 b1 b2 b3 b4 r h;cases h
  | succ n ih=>intro b0 b1 b2 b3 b4 r h;exact S0q (E0a n) ih b0 b1 b2 b3 b4 r h
 exact key F0 b0 b1 b2 b3 b4 r h
theorem V0l (b0:A0d)(r:List Int)(h:H0e b0=some r):PC Tryz.prog 93 [A0v b0] (nilsV (r.map int)):=by
 unfold H0e at h
 refine PC.start Tryz.func93 Tryz.ntmps93 rfl ok93 rfl ?_
 refine Run.sr (X.bx ?_)
 refine X.an ?_
 refine Run.seq (Run.sr (X.ld shp34 ?_))
 obtain ⟨v1,hv1,h⟩:=bindE h
 refine X.cp (S0z _ _ hv1) ?_
 refine X.un (h:=?_)
 refine X.nil ?_
 refine R.cd (fun hc2=>?_) (fun hc2=>?_)
 ·replace h:=condT hc2 h
  refine Run.sr (X.an ?_)
  cases h
  refine R.f1 Tryz.results93 ?_
  rfl
 replace h:=condF hc2 h
 refine Run.skip (Run.seq (Run.sr (X.an ?_)))
 obtain ⟨o3,ho3,h⟩:=bindE h
 refine R.join2 (β:=Unit) [] [] (fun p28 S=>S) (fun p28 M=>M) (fun p28=>(Sum.inl p28)=o3) ?_ ?_
 ·intro JJ6 hmeet5
  have hup4:=h;clear h;have h:=ho3;clear ho3
  refine Run.block ?_
  refine R.lp (β:=Int) [(1,.lptr 64 0)] [(64,.blk true [int b0.Deadline,.slice (b0.Activities.map A0c),.slice (b0.Links.map A0k),.slice (b0.Resources.map A0e),.slice (b0.Stocks.map int)])] (fun bb S=>(3,int bb)::S) (fun bb M=>M) (fun n bb=>C0a b0 n bb=some o3) F0 2 h ?_
  clear h
  rintro JJ6 n6 a8 hag6 h
  obtain _ | n6:=n6
  ·exact absurd h (by simp [C0a])
  rw [C0a] at h
  refine Run.seq (Run.sr (X.mv ?_))
  refine X.fl D0p ?_
  refine X.ld shp30 ?_
  refine X.ls elt30 ?_
  refine X.bi ?_
  refine X.nil ?_
  refine R.cd (fun hc11=>?_) (fun hc11=>?_)
  ·replace h:=condT hc11 h
   refine Run.skip (Run.seq (Run.block (Run.sr (X.fl G0s ?_))))
   refine X.ld shp31 ?_
   refine X.ls elt31 ?_
   refine X.mn ?_
   obtain ⟨o12,ho12,h⟩:=bindE h
   refine R.join2 (β:=Unit) [(1,.lptr 64 0),(3,int a8)] [(64,.blk true [int b0.Deadline,.slice (b0.Activities.map A0c),.slice (b0.Links.map A0k),.slice (b0.Resources.map A0e),.slice (b0.Stocks.map int)])] (fun p26 S=>S) (fun p26 M=>M) (fun p26=>(Sum.inl p26)=o12) ?_ ?_
   ·intro JJ15 hmeet14
    have hup13:=h;clear h;have h:=ho12;clear ho12
    refine Run.block ?_
    refine R.bndS (t:=18) (by rfl) (fun hbd18=>?_)
    replace hbd18:b0.Links.length≤9223372036854775807:=by first | (rw [List.length_map] at hbd18;exact hbd18) | simp
    refine R.lp (β:=Int) [(1,.lptr 64 0),(3,int a8),(18,.slice (b0.Links.map A0k)),(19,int (b0.Links.length:Int))] [(64,.blk true [int b0.Deadline,.slice (b0.Activities.map A0c),.slice (b0.Links.map A0k),.slice (b0.Resources.map A0e),.slice (b0.Stocks.map int)])] (fun bb S=>(20,int bb)::S) (fun bb M=>M) (fun n bb=>0≤bb∧bb+n=(b0.Links.length:Int)∧D0l b0 a8 (b0.Links.drop bb.toNat) bb=some o12) b0.Links.length (0:Int) ⟨Int.le_refl _,by simp,h⟩ ?_
    clear h
    rintro JJ18 n18 z19 hag18 ⟨hza18,hzb18,h⟩
    refine Run.sr (X.bi ?_)
    refine X.nil (Run.seq ?_)
    refine R.cd (fun hc22=>?_) (fun hc22=>?_)
    ·obtain ⟨x20,xs21,hd18,hx18,hds18,hlt18⟩:=A0q hza18 hc22
     rw [hd18] at h
     rw [D0l] at h
     refine Run.skip (Run.seq (Run.block (Run.sr (X.mv ?_))))
     refine X.ix elt31 (A0a hx18).1 (A0b A0k hx18) ?_
     refine X.lc shp87 ?_
     refine X.alloc zer87 (h:=?_)
     refine X.as ?_
     refine X.sl shp87 ?_
     refine X.nil (Run.seq (Run.draw (D0a [(0,([64],[],[],[])),(2,([1728],[1728],[],[])),(4,([320],[],[],[])),(5,([1920],[1920],[],[])),(6,([64],[],[],[])),(7,([320],[],[],[])),(10,([1728,1920],[],[],[]))]) mixed (by kernel_rfl) (by kernel_rfl) ?_))
     refine X.ld shp34 ?_
     refine X.mv ?_
     refine X.buildSlice false elt25 zer3 (by rfl) (by rfl) (by rfl) (by rfl) (by rfl) (by rfl) (by repeat (first | trivial | refine ⟨by first | rfl | simp [setL],?_⟩)) (A0w (by rfl)) (by rfl) (by rfl) (by rfl) ?_
     refine X.fl G0x ?_
     refine X.ld shp3 ?_
     refine X.buildSlice false elt25 zer3 (by rfl) (by rfl) (by rfl) (by rfl) (by rfl) (by rfl) (by repeat (first | trivial | refine ⟨by first | rfl | simp [setL],?_⟩)) (A0w (by rfl)) (by rfl) (by rfl) (by rfl) ?_
     refine X.ld shp34 ?_
     refine X.ld shp87 ?_
     obtain ⟨v23,hv23,h⟩:=bindE h
     refine X.cp (J0v _ _ _ hv23) ?_
     refine X.mv ?_
     obtain ⟨v24,hv24,h⟩:=bindE h
     refine X.callN (U0q _ _ _ _ _ _ hv24) (by rfl) (by rfl) (by rfl) (by repeat (first | trivial | refine ⟨by first | rfl | simp [setL],?_⟩)) (by rfl) (by rfl) (by rfl) ?_
     refine X.an ?_
     refine Run.sr (X.mv ?_)
     refine X.neqN (z:=(!(v24.isEmpty))) elt25 (by rfl) (by simp) (by rfl) (by rfl) ?_
     refine X.nil ?_
     refine R.cd (fun hc25=>?_) (fun hc25=>?_)
     ·replace h:=condT hc25 h
      refine Run.sr (X.mv ?_)
      refine X.an ?_
      cases h
      have h:=hup13
      replace h:=elimR h
      cases h
      have h:=hup4
      replace h:=elimR h
      cases h
      refine R.fin1 Tryz.results93 (by rfl) (T0o _) ?_
      rfl
     replace h:=condF hc25 h
     refine Run.skip (Run.blk (Run.reg (X.ad ?_)))
     refine X.mn ?_
     exact R.ag hag18 (n18 - 1) (z19+1) (R.n3 (by first | (rw [hds18];exact h) | (dsimp only;rw [hds18];exact h)))
    rw [A0j hza18 hc22] at h
    rw [D0l] at h
    refine Run.exit (by rfl) ?_
    exact R.mt hmeet14 () (Option.some.inj h)
   rintro p26 rfl
   replace h:=elimL h
   refine Run.blk (Run.reg (X.mv ?_))
   refine X.addW (h:=?_)
   refine X.an ?_
   exact hag6 n6 (W (a8+1)) _ _ (by omega) h (by trivial) (by trivial) (by rfl) (by rfl)
  replace h:=condF hc11 h
  refine Run.exit (by rfl) ?_
  exact R.mt hmeet5 () (Option.some.inj h)
 rintro p28 rfl
 replace h:=elimL h
 refine Run.sr (X.an ?_)
 cases h
 refine R.f1 Tryz.results93 ?_
 rfl
theorem P0u (b0:Int)(b1:Int)(b2:Int)(c3:List (List Bool))(c4:List (List Int))(r:(List (List Bool))×(List (List Int)))(h:D0i b0 b1 b2 c3 c4=some r):PCM Tryz.prog 94 [int b0,int b1,int b2,.lptr 63 0,.lptr 127 0] (clo2 112 1 25 1 (c3.map (fun r=>rowN 4 1 (List.map bool r))) (c4.map (fun r=>rowN 3 1 (List.map int r))) (c3.map (fun r=>rowN 4 1 (List.map bool r))).length (c4.map (fun r=>rowN 3 1 (List.map int r))).length) (.tuple []) (clo2 112 1 25 1 (r.1.map (fun r=>rowN 4 1 (List.map bool r))) (r.2.map (fun r=>rowN 3 1 (List.map int r))) (r.1.map (fun r=>rowN 4 1 (List.map bool r))).length (r.2.map (fun r=>rowN 3 1 (List.map int r))).length):=by
 unfold D0i at h
 refine PCM.startClo Tryz.func94 Tryz.ntmps94 rfl ok94 (by rfl) ?_
 refine Run.seq ?_
 obtain ⟨v1,hv1,h⟩:=bindE h
 obtain ⟨v2,hv2,h⟩:=bindE h
 obtain ⟨v3,hv3,h⟩:=bindE h
 obtain ⟨e4,he4,h2⟩:=bindE h
 refine R.regG [(0,int b0),(1,int b1),(2,int b2),(3,.lptr 63 0),(4,.lptr 127 0),(26,bool e4)] [(63,.blk true [.tref 191 (c3.map (fun r=>rowN 4 1 (List.map bool r))).length .out]),(127,.blk true [.tref 255 (c4.map (fun r=>rowN 3 1 (List.map int r))).length .out]),(191,.tre 112 1 (c3.map (fun r=>rowN 4 1 (List.map bool r)))),(255,.tre 25 1 (c4.map (fun r=>rowN 3 1 (List.map int r))))] ?_ ?_
 ·clear h;have h:=he4;clear he4 h2
  refine X.ld W0s ?_
  refine X.mv ?_
  refine X.idxT2 (l:=c3.map (fun r=>rowN 4 1 (List.map bool r))) W0u (by rfl) (by rfl) (by rfl) ⟨(A0a hv1).1,by have h0:=(A0a hv1).1;have h1:=A0o hv1;rw [List.length_map];(try dsimp only);omega⟩ (by first | rfl | simp [setL] | omega) (by rfl) (by rfl) ?_
  refine X.ldRow2 (sz:=1) Z0u (by rfl) (by rfl) (C0l (f:=bool) (e:=4) (sz:=1) hv1 (D0j hv2)) (by first | rfl | simp [setL] | omega) (by rfl) (by rfl) ?_
  refine X.mv ?_
  refine X.idxR2 (l:=c3.map (fun r=>rowN 4 1 (List.map bool r))) (rl:=v1.map bool) Y0c (by rfl) (by rfl) (by rfl) (C0l (f:=bool) (e:=4) (sz:=1) hv1 (D0j hv2)) ⟨(A0a hv3).1,by have h0:=(A0a hv3).1;have h1:=A0o hv3;rw [List.length_map];(try dsimp only);omega⟩ (by first | rfl | simp [setL] | omega) (by rfl) (by rfl) ?_
  refine X.ldE2 (sz2:=1) shp4 (by rfl) (by rfl) (C0l (f:=bool) (e:=4) (sz:=1) hv1 (D0j hv2)) (A0m (off:=0) (by exact A0h (f:=bool) (fun _=>rfl)) (A0b bool hv3) (by rfl)) (by first | rfl | simp [setL] | omega) (by rfl) (by rfl) ?_
  refine X.un (h:=?_)
  refine X.mv ?_
  refine X.iG (fun hb5=>?_) (fun hb5=>?_)
  ·replace h:=condF hb5 h
   refine X.mv ?_
   refine X.gy (X.ld shp59 ?_)
   refine X.gy (X.mv ?_)
   refine X.gy ?_
   obtain ⟨v6,hv6,h⟩:=bindE h
   refine X.idxT2 (l:=c4.map (fun r=>rowN 3 1 (List.map int r))) elt59 (by rfl) (by rfl) (by rfl) ⟨(A0a hv6).1,by have h0:=(A0a hv6).1;have h1:=A0o hv6;rw [List.length_map];(try dsimp only);omega⟩ (by first | rfl | simp [setL] | omega) (by rfl) (by rfl) ?_
   refine X.gy ?_
   obtain ⟨v7,hv7,h⟩:=bindE h
   refine X.ldRow2 (sz:=1) shp25 (by rfl) (by rfl) (C0l (f:=int) (e:=3) (sz:=1) hv6 (D0j hv7)) (by first | rfl | simp [setL] | omega) (by rfl) (by rfl) ?_
   refine X.gy (X.mv ?_)
   refine X.gy ?_
   obtain ⟨v8,hv8,h⟩:=bindE h
   refine X.idxR2 (l:=c4.map (fun r=>rowN 3 1 (List.map int r))) (rl:=v6.map int) elt25 (by rfl) (by rfl) (by rfl) (C0l (f:=int) (e:=3) (sz:=1) hv6 (D0j hv7)) ⟨(A0a hv8).1,by have h0:=(A0a hv8).1;have h1:=A0o hv8;rw [List.length_map];(try dsimp only);omega⟩ (by first | rfl | simp [setL] | omega) (by rfl) (by rfl) ?_
   refine X.gy ?_
   refine X.ldE2 (sz2:=1) shp3 (by rfl) (by rfl) (C0l (f:=int) (e:=3) (sz:=1) hv6 (D0j hv7)) (A0m (off:=0) (by exact A0h (f:=int) (fun _=>rfl)) (A0b int hv8) (by rfl)) (by first | rfl | simp [setL] | omega) (by rfl) (by rfl) ?_
   refine X.gy (X.bi ?_)
   refine X.pF ?_
   cases h
   exact X.eG
  replace h:=condT hb5 h
  refine X.gn (X.gn (X.gn (X.gn (X.gn (X.gn (X.gn (X.gn ?_)))))))
  refine X.pT ?_
  cases h
  exact X.eG
 replace h:=h2;clear h2
 refine R.cd (fun hc9=>?_) (fun hc9=>?_)
 ·replace h:=condT hc9 h
  refine Run.draw2 (D0a [(0,([127],[],[],[])),(2,([255],[],[],[])),(3,([255],[],[],[])),(5,([63],[],[],[])),(7,([191],[],[],[])),(8,([191],[],[],[])),(11,([255],[],[],[])),(12,([255],[255],[],[])),(13,([191],[],[],[])),(14,([191],[191],[],[]))]) mixed (by kernel_rfl) (by kernel_rfl) ?_
  refine X.ld shp59 ?_
  refine X.mv ?_
  obtain ⟨v10,hv10,h⟩:=bindE h
  refine X.idxT2 (l:=c4.map (fun r=>rowN 3 1 (List.map int r))) elt59 (by rfl) (by rfl) (by rfl) ⟨(A0a hv10).1,by have h0:=(A0a hv10).1;have h1:=A0o hv10;rw [List.length_map];(try dsimp only);omega⟩ (by first | rfl | simp [setL] | omega) (by rfl) (by rfl) ?_
  obtain ⟨v11,hv11,h⟩:=bindE h
  refine X.ldRow2 (sz:=1) shp25 (by rfl) (by rfl) (C0l (f:=int) (e:=3) (sz:=1) hv10 (D0j hv11)) (by first | rfl | simp [setL] | omega) (by rfl) (by rfl) ?_
  refine X.mv ?_
  refine X.ld W0s ?_
  refine X.mv ?_
  refine X.idxT2 (l:=c3.map (fun r=>rowN 4 1 (List.map bool r))) W0u (by rfl) (by rfl) (by rfl) ⟨(A0a hv1).1,by have h0:=(A0a hv1).1;have h1:=A0o hv1;rw [List.length_map];(try dsimp only);omega⟩ (by first | rfl | simp [setL] | omega) (by rfl) (by rfl) ?_
  refine X.ldRow2 (sz:=1) Z0u (by rfl) (by rfl) (C0l (f:=bool) (e:=4) (sz:=1) hv1 (D0j hv2)) (by first | rfl | simp [setL] | omega) (by rfl) (by rfl) ?_
  refine X.mv ?_
  refine X.mv ?_
  obtain ⟨v12,hv12,h⟩:=bindE h
  refine X.idxR2 (l:=c4.map (fun r=>rowN 3 1 (List.map int r))) (rl:=v10.map int) elt25 (by rfl) (by rfl) (by rfl) (C0l (f:=int) (e:=3) (sz:=1) hv10 (D0j hv11)) ⟨(A0a hv12).1,by have h0:=(A0a hv12).1;have h1:=A0o hv12;rw [List.length_map];(try dsimp only);omega⟩ (by first | rfl | simp [setL] | omega) (by rfl) (by rfl) ?_
  refine X.stE2 (l2:=(setL c4 b0 (setL v10 b1 b2)).map (fun r=>rowN 3 1 (List.map int r))) (rl2:=(setL v10 b1 b2).map int) (sz2:=1) (sz:=1) shp3 (by rfl) (by rfl) (by rfl) (C0l (f:=int) (e:=3) (sz:=1) hv10 (D0j hv11)) (A0m (off:=0) (by exact A0h (f:=int) (fun _=>rfl)) (A0b int hv12) (by rfl)) (by simp [setL]) (by exact A0h (f:=int) (fun _=>rfl)) (by rw [← C0w];exact J0z (by exact A0h (f:=int) (fun _=>rfl)) (A0b int hv12) (by rfl) (by decide)) (by simp [setL]) (S0k _) (S0h (f:=int) (e:=3) (sz:=1) hv10 (B1a _ _ (D0j hv11))) (by first | rfl | simp [setL] | omega) (by rfl) ?_
  refine X.idxR2 (l:=c3.map (fun r=>rowN 4 1 (List.map bool r))) (rl:=v1.map bool) Y0c (by rfl) (by rfl) (by rfl) (C0l (f:=bool) (e:=4) (sz:=1) hv1 (D0j hv2)) ⟨(A0a hv3).1,by have h0:=(A0a hv3).1;have h1:=A0o hv3;rw [List.length_map];(try dsimp only);omega⟩ (by first | rfl | simp [setL] | omega) (by rfl) (by rfl) ?_
  refine X.stE2 (l2:=(setL c3 b0 (setL v1 b1 true)).map (fun r=>rowN 4 1 (List.map bool r))) (rl2:=(setL v1 b1 true).map bool) (sz2:=1) (sz:=1) shp4 (by rfl) (by rfl) (by rfl) (C0l (f:=bool) (e:=4) (sz:=1) hv1 (D0j hv2)) (A0m (off:=0) (by exact A0h (f:=bool) (fun _=>rfl)) (A0b bool hv3) (by rfl)) (by simp [setL]) (by exact A0h (f:=bool) (fun _=>rfl)) (by rw [← C0w];exact J0z (by exact A0h (f:=bool) (fun _=>rfl)) (A0b bool hv3) (by rfl) (by decide)) (by simp [setL]) (S0k _) (S0h (f:=bool) (e:=4) (sz:=1) hv1 (B1a _ _ (D0j hv2))) (by first | rfl | simp [setL] | omega) (by rfl) ?_
  refine X.nil ?_
  cases h
  refine R.tell (n:=63) (p':=.blk true [.tref 191 ((setL c3 b0 (setL v1 b1 true)).map (fun r=>rowN 4 1 (List.map bool r))).length .out]) (by rfl) (by first | rfl | simp [setL]) ?_
  refine R.tell (n:=127) (p':=.blk true [.tref 255 ((setL c4 b0 (setL v10 b1 b2)).map (fun r=>rowN 3 1 (List.map int r))).length .out]) (by rfl) (by first | rfl | simp [setL]) ?_
  exact R.endM0 Tryz.results94 (show BackL _ [(63,_),(127,_),(191,_),(255,_)] from ⟨by rfl,by rfl,by rfl,by rfl,trivial⟩) rfl
 replace h:=condF hc9 h
 refine Run.skip ?_
 cases h
 refine R.tell (n:=63) (p':=.blk true [.tref 191 (c3.map (fun r=>rowN 4 1 (List.map bool r))).length .out]) (by rfl) (by first | rfl | simp [setL]) ?_
 refine R.tell (n:=127) (p':=.blk true [.tref 255 (c4.map (fun r=>rowN 3 1 (List.map int r))).length .out]) (by rfl) (by first | rfl | simp [setL]) ?_
 exact R.endM0 Tryz.results94 (show BackL _ [(63,_),(127,_),(191,_),(255,_)] from ⟨by rfl,by rfl,by rfl,by rfl,trivial⟩) rfl
theorem P0s (b0:A0d)(r:List (List Int))(h:E0z b0=some r):PC Tryz.prog 44 [A0v b0] (.tre 25 1 (r.map t_int)):=by
 unfold E0z at h
 refine PC.start Tryz.func44 Tryz.ntmps44 rfl ok44 rfl ?_
 refine Run.sr (X.bx ?_)
 refine X.an ?_
 refine Run.seq (Run.seq ?_)
 obtain ⟨v1,hv1,h⟩:=bindE h
 obtain ⟨e2,he2,h2⟩:=bindE h
 refine R.regG [(1,.lptr 64 0),(23,bool e2)] [(64,.blk true [int b0.Deadline,.slice (b0.Activities.map A0c),.slice (b0.Links.map A0k),.slice (b0.Resources.map A0e),.slice (b0.Stocks.map int)])] ?_ ?_
 ·clear h;have h:=he2;clear he2 h2
  refine X.ld shp34 ?_
  refine X.cp (S0z _ _ hv1) ?_
  refine X.un (h:=?_)
  refine X.mv ?_
  refine X.iG (fun hb3=>?_) (fun hb3=>?_)
  ·replace h:=condF hb3 h
   refine X.ld shp34 ?_
   refine X.gy ?_
   obtain ⟨v4,hv4,h⟩:=bindE h
   refine X.callN (V0l _ _ hv4) (by rfl) (by rfl) (by rfl) (by trivial) (by rfl) (by rfl) (by rfl) ?_
   refine X.gy (X.lenN (z:=(v4.length:Int)) elt25 (by rfl) (by simp) (by rfl) (by rfl) ?_)
   refine X.gy (X.bi ?_)
   refine X.pF ?_
   cases h
   exact X.eG
  replace h:=condT hb3 h
  refine X.gn (X.gn (X.gn (X.pT ?_)))
  cases h
  exact X.eG
 replace h:=h2;clear h2
 refine R.cd (fun hc5=>?_) (fun hc5=>?_)
 ·replace h:=condT hc5 h
  refine Run.sr (X.an ?_)
  cases h
  refine R.fin1tn (e:=25) (sz:=1) Tryz.results44 (by rfl) (by decide) ?_
  rfl
 replace h:=condF hc5 h
 refine Run.skip (Run.sr (X.fl D0p ?_))
 refine X.ld shp30 ?_
 refine X.ls elt30 ?_
 refine X.an ?_
 refine Run.seq (Run.draw2 (D0a [(1,([1792],[1792],[],[])),(3,([1920],[1920],[],[])),(4,([256],[256],[],[])),(5,([320],[320],[],[])),(6,([256,1792],[256],[],[])),(7,([320,1920],[320],[],[]))]) mixed (by kernel_rfl) (by kernel_rfl) ?_)
 refine X.mv ?_
 obtain ⟨v6,hv6,h⟩:=bindE h
 refine X.makeT (f:=int) (e2:=3) (sz2:=1) hv6 elt59 zer25 (by rfl) (by rfl) (by rfl) (by rfl) (by rfl) (by rfl) ?_
 refine X.mv ?_
 obtain ⟨v7,hv7,h⟩:=bindE h
 refine X.makeT (f:=bool) (e2:=4) (sz2:=1) hv7 W0u M1i (by rfl) (by rfl) (by rfl) (by rfl) (by rfl) (by rfl) ?_
 refine X.alloc zer59 (h:=?_)
 refine X.alloc M1n (h:=?_)
 refine X.storeT shp59 (by rfl) (by rfl) (by rfl) (by rfl) (by first | rfl | simp [setL] | omega) (by rfl) (by rfl) ?_
 refine X.storeT W0s (by rfl) (by rfl) (by rfl) (by rfl) (by first | rfl | simp [setL] | omega) (by rfl) (by rfl) ?_
 refine X.nil (Run.seq (Run.sr (X.mv ?_)))
 refine X.mn ?_
 obtain ⟨o8,ho8,h⟩:=bindE h
 refine R.join2 (β:=(List (List Int))×(List (List Bool))) [(1,.lptr 64 0),(3,int (b0.Activities.length:Int)),(4,.lptr 256 0),(5,.lptr 320 0)] [(64,.blk true [int b0.Deadline,.slice (b0.Activities.map A0c),.slice (b0.Links.map A0k),.slice (b0.Resources.map A0e),.slice (b0.Stocks.map int)])] (fun p32 S=>S) (fun p32 M=>(256,.blk true [.tref 1792 (p32.1.map (fun r=>rowN 3 1 (List.map int r))).length .out])::(1792,.tre 25 1 (p32.1.map (fun r=>rowN 3 1 (List.map int r))))::(320,.blk true [.tref 1920 (p32.2.map (fun r=>rowN 4 1 (List.map bool r))).length .out])::(1920,.tre 112 1 (p32.2.map (fun r=>rowN 4 1 (List.map bool r))))::M) (fun p32=>p32=o8) ?_ ?_
 ·intro JJ11 hmeet10
  have hup9:=h;clear h;have h:=ho8;clear ho8
  refine Run.block ?_
  refine R.bndS (t:=25) (by rfl) (fun hbd14=>?_)
  replace hbd14:b0.Activities.length≤9223372036854775807:=by first | (rw [List.length_map] at hbd14;exact hbd14) | simp
  refine R.lp (β:=Int×(List (List Int))×(List (List Bool))) [(1,.lptr 64 0),(3,int (b0.Activities.length:Int)),(4,.lptr 256 0),(5,.lptr 320 0),(31,int (b0.Activities.length:Int))] [(64,.blk true [int b0.Deadline,.slice (b0.Activities.map A0c),.slice (b0.Links.map A0k),.slice (b0.Resources.map A0e),.slice (b0.Stocks.map int)])] (fun bb S=>(32,int bb.1)::S) (fun bb M=>(256,.blk true [.tref 1792 (bb.2.1.map (fun r=>rowN 3 1 (List.map int r))).length .out])::(1792,.tre 25 1 (bb.2.1.map (fun r=>rowN 3 1 (List.map int r))))::(320,.blk true [.tref 1920 (bb.2.2.map (fun r=>rowN 4 1 (List.map bool r))).length .out])::(1920,.tre 112 1 (bb.2.2.map (fun r=>rowN 4 1 (List.map bool r))))::M) (fun n bb=>0≤bb.1∧bb.1+n=(b0.Activities.length:Int)∧F0k b0 (b0.Activities.drop bb.1.toNat) bb.1 bb.2.1 bb.2.2=some o8) b0.Activities.length (0,v6,v7) ⟨Int.le_refl _,by simp,h⟩ ?_
  clear h
  rintro JJ14 n14 ⟨z15,a16,a17⟩ hag14 ⟨hza14,hzb14,h⟩
  dsimp only at hza14 hzb14 h
  refine Run.sr (X.bi ?_)
  refine X.nil (Run.seq ?_)
  refine R.cd (fun hc20=>?_) (fun hc20=>?_)
  ·obtain ⟨x18,xs19,hd14,hx14,hds14,hlt14⟩:=A0q hza14 hc20
   rw [hd14] at h
   rw [F0k] at h
   refine Run.skip (Run.seq (Run.block (Run.sr (X.mv ?_))))
   refine X.an ?_
   refine Run.seq (Run.draw2 (D0a [(0,([256],[],[],[])),(2,([320],[],[],[])),(5,([2560],[2560],[],[])),(7,([2688],[2688],[],[])),(8,([1792],[],[],[])),(9,([1792,2560],[1792,2560],[],[])),(10,([1920],[],[],[])),(11,([1920,2688],[1920,2688],[],[]))]) mixed (by kernel_rfl) (by kernel_rfl) ?_)
   refine X.ld shp59 ?_
   refine X.mv ?_
   refine X.ld W0s ?_
   refine X.mv ?_
   refine X.mv ?_
   obtain ⟨v21,hv21,h⟩:=bindE h
   refine X.makeSlice2 int hv21 elt25 zer3 (by rfl) (by rfl) (by rfl) (by simp [PV.plain]) (by rfl) (by rfl) (by rfl) (by rfl) (by rfl) (by rfl) ?_
   refine X.mv ?_
   obtain ⟨v22,hv22,h⟩:=bindE h
   refine X.makeSlice2 bool hv22 Y0c zer4 (by rfl) (by rfl) (by rfl) (by simp [PV.plain]) (by rfl) (by rfl) (by rfl) (by rfl) (by rfl) (by rfl) ?_
   obtain ⟨v23,hv23,h⟩:=bindE h
   refine X.idxT2 (l:=a16.map (fun r=>rowN 3 1 (List.map int r))) elt59 (by rfl) (by rfl) (by rfl) ⟨(A0a hv23).1,by have h0:=(A0a hv23).1;have h1:=A0o hv23;rw [List.length_map];(try dsimp only);omega⟩ (by first | rfl | simp [setL] | omega) (by rfl) (by rfl) ?_
   obtain ⟨v24,hv24,h⟩:=bindE h
   obtain ⟨v25,hv25,h⟩:=bindE h
   refine X.stRow (l2:=(setL a16 z15 v21).map (fun r=>rowN 3 1 (List.map int r))) (rl:=v21.map int) (sz:=1) shp25 (F1t (f:=int) (e:=3) (sz:=1) hv23 (D1h hv24)) (B1q _ (fun _=>(by repeat (first | exact trivial | refine ⟨trivial,?_⟩)))) (by simp [setL]) (S0k _) (S0h (f:=int) (e:=3) (sz:=1) hv23 (D0j hv25)) (by first | rfl | simp [setL] | omega) (by first | rfl | simp [setL] | omega) ?_
   obtain ⟨v26,hv26,h⟩:=bindE h
   refine X.idxT2 (l:=a17.map (fun r=>rowN 4 1 (List.map bool r))) W0u (by rfl) (by rfl) (by rfl) ⟨(A0a hv26).1,by have h0:=(A0a hv26).1;have h1:=A0o hv26;rw [List.length_map];(try dsimp only);omega⟩ (by first | rfl | simp [setL] | omega) (by rfl) (by rfl) ?_
   obtain ⟨v27,hv27,h⟩:=bindE h
   obtain ⟨v28,hv28,h⟩:=bindE h
   refine X.stRow (l2:=(setL a17 z15 v22).map (fun r=>rowN 4 1 (List.map bool r))) (rl:=v22.map bool) (sz:=1) Z0u (F1t (f:=bool) (e:=4) (sz:=1) hv26 (D1h hv27)) (B1q _ (fun _=>(by repeat (first | exact trivial | refine ⟨trivial,?_⟩)))) (by simp [setL]) (S0k _) (S0h (f:=bool) (e:=4) (sz:=1) hv26 (D0j hv28)) (by first | rfl | simp [setL] | omega) (by first | rfl | simp [setL] | omega) ?_
   refine X.nil (Run.reg (X.ld W0s ?_))
   refine X.mv ?_
   obtain ⟨v29,hv29,h⟩:=bindE h
   refine X.idxT2 (l:=(setL a17 z15 v22).map (fun r=>rowN 4 1 (List.map bool r))) W0u (by rfl) (by rfl) (by rfl) ⟨(A0a hv29).1,by have h0:=(A0a hv29).1;have h1:=A0o hv29;rw [List.length_map];(try dsimp only);omega⟩ (by first | rfl | simp [setL] | omega) (by rfl) (by rfl) ?_
   obtain ⟨v30,hv30,h⟩:=bindE h
   refine X.ldRow2 (sz:=1) Z0u (by rfl) (by rfl) (C0l (f:=bool) (e:=4) (sz:=1) hv29 (D0j hv30)) (by first | rfl | simp [setL] | omega) (by rfl) (by rfl) ?_
   refine X.mv ?_
   obtain ⟨v31,hv31,h⟩:=bindE h
   refine X.idxR2 (l:=(setL a17 z15 v22).map (fun r=>rowN 4 1 (List.map bool r))) (rl:=v29.map bool) Y0c (by rfl) (by rfl) (by rfl) (C0l (f:=bool) (e:=4) (sz:=1) hv29 (D0j hv30)) ⟨(A0a hv31).1,by have h0:=(A0a hv31).1;have h1:=A0o hv31;rw [List.length_map];(try dsimp only);omega⟩ (by first | rfl | simp [setL] | omega) (by rfl) (by rfl) ?_
   refine X.stE2 (l2:=(setL (setL a17 z15 v22) z15 (setL v29 z15 true)).map (fun r=>rowN 4 1 (List.map bool r))) (rl2:=(setL v29 z15 true).map bool) (sz2:=1) (sz:=1) shp4 (by rfl) (by rfl) (by rfl) (C0l (f:=bool) (e:=4) (sz:=1) hv29 (D0j hv30)) (A0m (off:=0) (by exact A0h (f:=bool) (fun _=>rfl)) (A0b bool hv31) (by rfl)) (by simp [setL]) (by exact A0h (f:=bool) (fun _=>rfl)) (by rw [← C0w];exact J0z (by exact A0h (f:=bool) (fun _=>rfl)) (A0b bool hv31) (by rfl) (by decide)) (by simp [setL]) (S0k _) (S0h (f:=bool) (e:=4) (sz:=1) hv29 (B1a _ _ (D0j hv30))) (by first | rfl | simp [setL] | omega) (by rfl) ?_
   refine X.nil (Run.blk (Run.reg (X.ad ?_)))
   refine X.mn ?_
   refine R.tell (n:=256) (p':=.blk true [.tref 1792 ((setL a16 z15 v21).map (fun r=>rowN 3 1 (List.map int r))).length .out]) (by rfl) (by first | rfl | simp [setL]) ?_
   refine R.tell (n:=320) (p':=.blk true [.tref 1920 ((setL (setL a17 z15 v22) z15 (setL v29 z15 true)).map (fun r=>rowN 4 1 (List.map bool r))).length .out]) (by rfl) (by first | rfl | simp [setL]) ?_
   exact R.ag hag14 (n14 - 1) (z15+1,(setL a16 z15 v21),(setL (setL a17 z15 v22) z15 (setL v29 z15 true))) (R.n3 (by first | (rw [hds14];exact h) | (dsimp only;rw [hds14];exact h)))
  rw [A0j hza14 hc20] at h
  rw [F0k] at h
  refine Run.exit (by rfl) ?_
  exact R.mt hmeet10 (a16,a17) (Option.some.inj h)
 rintro p32 rfl
 refine Run.sr (X.makeClo (n:=320) (ns:=[256]) (by rfl) (by rfl) ?_)
 refine X.an ?_
 refine Run.seq (Run.sr (X.fl G0s ?_))
 refine X.ld shp31 ?_
 refine X.ls elt31 ?_
 refine X.mn ?_
 obtain ⟨o33,ho33,h⟩:=bindE h
 refine R.join2 (β:=(List (List Int))×(List (List Bool))) [(3,int (b0.Activities.length:Int)),(4,.lptr 256 0),(5,.lptr 320 0),(7,.tref 320 0 (.clo 94 [256]))] [] (fun p50 S=>S) (fun p50 M=>(256,.blk true [.tref 1792 (p50.1.map (fun r=>rowN 3 1 (List.map int r))).length .out])::(1792,.tre 25 1 (p50.1.map (fun r=>rowN 3 1 (List.map int r))))::(320,.blk true [.tref 1920 (p50.2.map (fun r=>rowN 4 1 (List.map bool r))).length .out])::(1920,.tre 112 1 (p50.2.map (fun r=>rowN 4 1 (List.map bool r))))::M) (fun p50=>p50=o33) ?_ ?_
 ·intro JJ36 hmeet35
  have hup34:=h;clear h;have h:=ho33;clear ho33
  refine Run.block ?_
  refine R.bndS (t:=54) (by rfl) (fun hbd39=>?_)
  replace hbd39:b0.Links.length≤9223372036854775807:=by first | (rw [List.length_map] at hbd39;exact hbd39) | simp
  refine R.lp (β:=Int×(List (List Int))×(List (List Bool))) [(1,.lptr 64 0),(3,int (b0.Activities.length:Int)),(4,.lptr 256 0),(5,.lptr 320 0),(7,.tref 320 0 (.clo 94 [256])),(54,.slice (b0.Links.map A0k)),(55,int (b0.Links.length:Int))] [(64,.blk true [int b0.Deadline,.slice (b0.Activities.map A0c),.slice (b0.Links.map A0k),.slice (b0.Resources.map A0e),.slice (b0.Stocks.map int)])] (fun bb S=>(56,int bb.1)::S) (fun bb M=>(256,.blk true [.tref 1792 (bb.2.1.map (fun r=>rowN 3 1 (List.map int r))).length .out])::(1792,.tre 25 1 (bb.2.1.map (fun r=>rowN 3 1 (List.map int r))))::(320,.blk true [.tref 1920 (bb.2.2.map (fun r=>rowN 4 1 (List.map bool r))).length .out])::(1920,.tre 112 1 (bb.2.2.map (fun r=>rowN 4 1 (List.map bool r))))::M) (fun n bb=>0≤bb.1∧bb.1+n=(b0.Links.length:Int)∧F0h b0 (b0.Links.drop bb.1.toNat) bb.1 bb.2.1 bb.2.2=some o33) b0.Links.length (0,p32.1,p32.2) ⟨Int.le_refl _,by simp,h⟩ ?_
  clear h
  rintro JJ39 n39 ⟨z40,a41,a42⟩ hag39 ⟨hza39,hzb39,h⟩
  dsimp only at hza39 hzb39 h
  refine Run.sr (X.bi ?_)
  refine X.nil (Run.seq ?_)
  refine R.cd (fun hc45=>?_) (fun hc45=>?_)
  ·obtain ⟨x43,xs44,hd39,hx39,hds39,hlt39⟩:=A0q hza39 hc45
   rw [hd39] at h
   rw [F0h] at h
   refine Run.skip (Run.seq (Run.block (Run.sr (X.ix elt31 (A0a hx39).1 (A0b A0k hx39) ?_))))
   refine X.lc shp87 ?_
   refine X.alloc zer87 (h:=?_)
   refine X.sl shp87 ?_
   refine X.nil (Run.draw2 (D0a [(2,([576],[],[],[])),(4,([576],[],[],[])),(5,([64],[],[],[])),(6,([576],[],[],[])),(8,([256,320,1792,1920],[1792,1920],[],[]))]) mixed (by kernel_rfl) (by kernel_rfl) ?_)
   refine X.mv ?_
   refine X.fl G0x ?_
   refine X.ld shp3 ?_
   refine X.fl J0c ?_
   refine X.ld shp3 ?_
   refine X.ld shp34 ?_
   refine X.ld shp87 ?_
   obtain ⟨v46,hv46,h⟩:=bindE h
   refine X.cp (J0v _ _ _ hv46) ?_
   obtain ⟨v47,hv47,h⟩:=bindE h
   obtain ⟨v48,hv48,h⟩:=bindE h
   obtain ⟨v49,hv49,h⟩:=bindE h
   refine X.callClo2 (xs:=[int x43.From,int x43.To,int v46]) (P0u _ _ _ _ _  _ hv47) (by rfl) (by rfl) (by rfl) (by rfl) (by rfl) (by rfl) (by rfl) (by first | rfl | simp [setL] | omega) (by first | rfl | simp [setL] | omega) (by rfl) (by rfl) (by simp [M0f hv48]) (by simp [M0f hv49]) (Q0s hv48) (Q0s hv49) (by rfl) (by rfl) ?_
   refine X.tell (n:=320) (p':=.blk true [.tref 1920 (v47.1.map (fun r=>rowN 4 1 (List.map bool r))).length .out]) (by rfl) (by simp [M0f hv48,setL]) ?_
   refine X.tell (n:=256) (p':=.blk true [.tref 1792 (v47.2.map (fun r=>rowN 3 1 (List.map int r))).length .out]) (by rfl) (by simp [M0f hv49,setL]) ?_
   refine X.nil (Run.blk (Run.reg (X.ad ?_)))
   refine X.mn ?_
   exact R.ag hag39 (n39 - 1) (z40+1,v47.2,v47.1) (R.n3 (by first | (rw [hds39];exact h) | (dsimp only;rw [hds39];exact h)))
  rw [A0j hza39 hc45] at h
  rw [F0h] at h
  refine Run.exit (by rfl) ?_
  exact R.mt hmeet35 (a41,a42) (Option.some.inj h)
 rintro p50 rfl
 refine Run.seq (Run.sr (X.mv ?_))
 refine X.mn ?_
 obtain ⟨o51,ho51,h⟩:=bindE h
 refine R.join2 (β:=(List (List Int))×(List (List Bool))) [(3,int (b0.Activities.length:Int)),(4,.lptr 256 0),(5,.lptr 320 0)] [] (fun p107 S=>S) (fun p107 M=>(256,.blk true [.tref 1792 (p107.1.map (fun r=>rowN 3 1 (List.map int r))).length .out])::(1792,.tre 25 1 (p107.1.map (fun r=>rowN 3 1 (List.map int r))))::(320,.blk true [.tref 1920 (p107.2.map (fun r=>rowN 4 1 (List.map bool r))).length .out])::(1920,.tre 112 1 (p107.2.map (fun r=>rowN 4 1 (List.map bool r))))::M) (fun p107=>p107=o51) ?_ ?_
 ·intro JJ54 hmeet53
  have hup52:=h;clear h;have h:=ho51;clear ho51
  refine Run.block ?_
  refine R.lp (β:=Int×(List (List Int))×(List (List Bool))) [(3,int (b0.Activities.length:Int)),(4,.lptr 256 0),(5,.lptr 320 0),(7,.tref 320 0 (.clo 94 [256])),(70,int (b0.Activities.length:Int))] [] (fun bb S=>(71,int bb.1)::S) (fun bb M=>(256,.blk true [.tref 1792 (bb.2.1.map (fun r=>rowN 3 1 (List.map int r))).length .out])::(1792,.tre 25 1 (bb.2.1.map (fun r=>rowN 3 1 (List.map int r))))::(320,.blk true [.tref 1920 (bb.2.2.map (fun r=>rowN 4 1 (List.map bool r))).length .out])::(1920,.tre 112 1 (bb.2.2.map (fun r=>rowN 4 1 (List.map bool r))))::M) (fun n bb=>E0j b0 n bb.1 bb.2.1 bb.2.2=some o51) F0 (0,p50.1,p50.2) h ?_
  clear h
  rintro JJ55 n55 ⟨a57,a58,a59⟩ hag55 h
  dsimp only at h
  obtain _ | n55:=n55
  ·exact absurd h (by simp [E0j])
  rw [E0j] at h
  refine Run.sr (X.bi ?_)
  refine X.nil (Run.seq ?_)
  refine R.cd (fun hc62=>?_) (fun hc62=>?_)
  ·replace h:=condT hc62 h
   refine Run.skip (Run.seq (Run.block (Run.sr (X.mv ?_))))
   refine X.an ?_
   refine Run.sr (X.mv ?_)
   refine X.mn ?_
   obtain ⟨o63,ho63,h⟩:=bindE h
   refine R.join2 (β:=(List (List Int))×(List (List Bool))) [(3,int (b0.Activities.length:Int)),(4,.lptr 256 0),(5,.lptr 320 0),(7,.tref 320 0 (.clo 94 [256])),(70,int (b0.Activities.length:Int)),(71,int a57)] [] (fun p106 S=>S) (fun p106 M=>(256,.blk true [.tref 1792 (p106.1.map (fun r=>rowN 3 1 (List.map int r))).length .out])::(1792,.tre 25 1 (p106.1.map (fun r=>rowN 3 1 (List.map int r))))::(320,.blk true [.tref 1920 (p106.2.map (fun r=>rowN 4 1 (List.map bool r))).length .out])::(1920,.tre 112 1 (p106.2.map (fun r=>rowN 4 1 (List.map bool r))))::M) (fun p106=>p106=o63) ?_ ?_
   ·intro JJ66 hmeet65
    have hup64:=h;clear h;have h:=ho63;clear ho63
    refine Run.block ?_
    refine R.lp (β:=Int×(List (List Int))×(List (List Bool))) [(3,int (b0.Activities.length:Int)),(4,.lptr 256 0),(5,.lptr 320 0),(7,.tref 320 0 (.clo 94 [256])),(10,int a57),(70,int (b0.Activities.length:Int)),(71,int a57),(74,int (b0.Activities.length:Int))] [] (fun bb S=>(75,int bb.1)::S) (fun bb M=>(256,.blk true [.tref 1792 (bb.2.1.map (fun r=>rowN 3 1 (List.map int r))).length .out])::(1792,.tre 25 1 (bb.2.1.map (fun r=>rowN 3 1 (List.map int r))))::(320,.blk true [.tref 1920 (bb.2.2.map (fun r=>rowN 4 1 (List.map bool r))).length .out])::(1920,.tre 112 1 (bb.2.2.map (fun r=>rowN 4 1 (List.map bool r))))::M) (fun n bb=>E0f b0 a57 n bb.1 bb.2.1 bb.2.2=some o63) F0 (0,a58,a59) h ?_
    clear h
    rintro JJ67 n67 ⟨a69,a70,a71⟩ hag67 h
    dsimp only at h
    obtain _ | n67:=n67
    ·exact absurd h (by simp [E0f])
    rw [E0f] at h
    refine Run.sr (X.bi ?_)
    refine X.nil (Run.seq ?_)
    refine R.cd (fun hc74=>?_) (fun hc74=>?_)
    ·replace h:=condT hc74 h
     refine Run.skip (Run.seq (Run.block (Run.sr (X.mv ?_))))
     refine X.an ?_
     refine Run.sr (X.mv ?_)
     refine X.mn ?_
     obtain ⟨o75,ho75,h⟩:=bindE h
     refine R.join2 (β:=(List (List Int))×(List (List Bool))) [(3,int (b0.Activities.length:Int)),(4,.lptr 256 0),(5,.lptr 320 0),(7,.tref 320 0 (.clo 94 [256])),(10,int a57),(70,int (b0.Activities.length:Int)),(71,int a57),(74,int (b0.Activities.length:Int)),(75,int a69)] [] (fun p105 S=>S) (fun p105 M=>(256,.blk true [.tref 1792 (p105.1.map (fun r=>rowN 3 1 (List.map int r))).length .out])::(1792,.tre 25 1 (p105.1.map (fun r=>rowN 3 1 (List.map int r))))::(320,.blk true [.tref 1920 (p105.2.map (fun r=>rowN 4 1 (List.map bool r))).length .out])::(1920,.tre 112 1 (p105.2.map (fun r=>rowN 4 1 (List.map bool r))))::M) (fun p105=>p105=o75) ?_ ?_
     ·intro JJ78 hmeet77
      have hup76:=h;clear h;have h:=ho75;clear ho75
      refine Run.block ?_
      refine R.lp (β:=Int×(List (List Int))×(List (List Bool))) [(3,int (b0.Activities.length:Int)),(4,.lptr 256 0),(5,.lptr 320 0),(7,.tref 320 0 (.clo 94 [256])),(10,int a57),(11,int a69),(70,int (b0.Activities.length:Int)),(71,int a57),(74,int (b0.Activities.length:Int)),(75,int a69),(78,int (b0.Activities.length:Int))] [] (fun bb S=>(79,int bb.1)::S) (fun bb M=>(256,.blk true [.tref 1792 (bb.2.1.map (fun r=>rowN 3 1 (List.map int r))).length .out])::(1792,.tre 25 1 (bb.2.1.map (fun r=>rowN 3 1 (List.map int r))))::(320,.blk true [.tref 1920 (bb.2.2.map (fun r=>rowN 4 1 (List.map bool r))).length .out])::(1920,.tre 112 1 (bb.2.2.map (fun r=>rowN 4 1 (List.map bool r))))::M) (fun n bb=>D0h b0 a57 a69 n bb.1 bb.2.1 bb.2.2=some o75) F0 (0,a70,a71) h ?_
      clear h
      rintro JJ79 n79 ⟨a81,a82,a83⟩ hag79 h
      dsimp only at h
      obtain _ | n79:=n79
      ·exact absurd h (by simp [D0h])
      rw [D0h] at h
      refine Run.sr (X.bi ?_)
      refine X.nil (Run.seq ?_)
      refine R.cd (fun hc86=>?_) (fun hc86=>?_)
      ·replace h:=condT hc86 h
       refine Run.skip (Run.seq (Run.block (Run.sr (X.mv ?_))))
       refine X.an ?_
       refine Run.seq ?_
       obtain ⟨v87,hv87,h⟩:=bindE h
       obtain ⟨v88,hv88,h⟩:=bindE h
       obtain ⟨v89,hv89,h⟩:=bindE h
       obtain ⟨e90,he90,h2⟩:=bindE h
       refine R.regG [(3,int (b0.Activities.length:Int)),(4,.lptr 256 0),(5,.lptr 320 0),(7,.tref 320 0 (.clo 94 [256])),(10,int a57),(11,int a69),(12,int a81),(70,int (b0.Activities.length:Int)),(71,int a57),(74,int (b0.Activities.length:Int)),(75,int a69),(78,int (b0.Activities.length:Int)),(79,int a81),(97,bool e90)] [(256,.blk true [.tref 1792 (a82.map (fun r=>rowN 3 1 (List.map int r))).length .out]),(1792,.tre 25 1 (a82.map (fun r=>rowN 3 1 (List.map int r)))),(320,.blk true [.tref 1920 (a83.map (fun r=>rowN 4 1 (List.map bool r))).length .out]),(1920,.tre 112 1 (a83.map (fun r=>rowN 4 1 (List.map bool r))))] ?_ ?_
       ·clear h;have h:=he90;clear he90 h2
        refine X.ld W0s ?_
        refine X.mv ?_
        refine X.idxT2 (l:=a83.map (fun r=>rowN 4 1 (List.map bool r))) W0u (by rfl) (by rfl) (by rfl) ⟨(A0a hv87).1,by have h0:=(A0a hv87).1;have h1:=A0o hv87;rw [List.length_map];(try dsimp only);omega⟩ (by first | rfl | simp [setL] | omega) (by rfl) (by rfl) ?_
        refine X.ldRow2 (sz:=1) Z0u (by rfl) (by rfl) (C0l (f:=bool) (e:=4) (sz:=1) hv87 (D0j hv88)) (by first | rfl | simp [setL] | omega) (by rfl) (by rfl) ?_
        refine X.mv ?_
        refine X.idxR2 (l:=a83.map (fun r=>rowN 4 1 (List.map bool r))) (rl:=v87.map bool) Y0c (by rfl) (by rfl) (by rfl) (C0l (f:=bool) (e:=4) (sz:=1) hv87 (D0j hv88)) ⟨(A0a hv89).1,by have h0:=(A0a hv89).1;have h1:=A0o hv89;rw [List.length_map];(try dsimp only);omega⟩ (by first | rfl | simp [setL] | omega) (by rfl) (by rfl) ?_
        refine X.ldE2 (sz2:=1) shp4 (by rfl) (by rfl) (C0l (f:=bool) (e:=4) (sz:=1) hv87 (D0j hv88)) (A0m (off:=0) (by exact A0h (f:=bool) (fun _=>rfl)) (A0b bool hv89) (by rfl)) (by first | rfl | simp [setL] | omega) (by rfl) (by rfl) ?_
        refine X.mv ?_
        refine X.iG (fun hb91=>?_) (fun hb91=>?_)
        ·replace h:=condT hb91 h
         refine X.ld W0s ?_
         refine X.gy (X.mv ?_)
         refine X.gy ?_
         obtain ⟨v92,hv92,h⟩:=bindE h
         refine X.idxT2 (l:=a83.map (fun r=>rowN 4 1 (List.map bool r))) W0u (by rfl) (by rfl) (by rfl) ⟨(A0a hv92).1,by have h0:=(A0a hv92).1;have h1:=A0o hv92;rw [List.length_map];(try dsimp only);omega⟩ (by first | rfl | simp [setL] | omega) (by rfl) (by rfl) ?_
         refine X.gy ?_
         obtain ⟨v93,hv93,h⟩:=bindE h
         refine X.ldRow2 (sz:=1) Z0u (by rfl) (by rfl) (C0l (f:=bool) (e:=4) (sz:=1) hv92 (D0j hv93)) (by first | rfl | simp [setL] | omega) (by rfl) (by rfl) ?_
         refine X.gy (X.mv ?_)
         refine X.gy ?_
         obtain ⟨v94,hv94,h⟩:=bindE h
         refine X.idxR2 (l:=a83.map (fun r=>rowN 4 1 (List.map bool r))) (rl:=v92.map bool) Y0c (by rfl) (by rfl) (by rfl) (C0l (f:=bool) (e:=4) (sz:=1) hv92 (D0j hv93)) ⟨(A0a hv94).1,by have h0:=(A0a hv94).1;have h1:=A0o hv94;rw [List.length_map];(try dsimp only);omega⟩ (by first | rfl | simp [setL] | omega) (by rfl) (by rfl) ?_
         refine X.gy ?_
         refine X.ldE2 (sz2:=1) shp4 (by rfl) (by rfl) (C0l (f:=bool) (e:=4) (sz:=1) hv92 (D0j hv93)) (A0m (off:=0) (by exact A0h (f:=bool) (fun _=>rfl)) (A0b bool hv94) (by rfl)) (by first | rfl | simp [setL] | omega) (by rfl) (by rfl) ?_
         refine X.pT ?_
         cases h
         exact X.eG
        replace h:=condF hb91 h
        refine X.gn (X.gn (X.gn (X.gn (X.gn (X.gn (X.pF ?_))))))
        cases h
        exact X.eG
       replace h:=h2;clear h2
       refine R.cd (fun hc95=>?_) (fun hc95=>?_)
       ·replace h:=condT hc95 h
        refine Run.draw2 (D0a [(3,([256],[],[],[])),(5,([1792],[],[],[])),(6,([1792],[],[],[])),(8,([1792],[],[],[])),(9,([1792],[],[],[])),(10,([256],[],[],[])),(12,([1792],[],[],[])),(13,([1792],[],[],[])),(15,([1792],[],[],[])),(16,([1792],[],[],[])),(18,([256,320,1792,1920],[1792,1920],[],[]))]) mixed (by kernel_rfl) (by kernel_rfl) ?_
        refine X.mv ?_
        refine X.mv ?_
        refine X.mv ?_
        refine X.ld shp59 ?_
        refine X.mv ?_
        obtain ⟨v96,hv96,h⟩:=bindE h
        refine X.idxT2 (l:=a82.map (fun r=>rowN 3 1 (List.map int r))) elt59 (by rfl) (by rfl) (by rfl) ⟨(A0a hv96).1,by have h0:=(A0a hv96).1;have h1:=A0o hv96;rw [List.length_map];(try dsimp only);omega⟩ (by first | rfl | simp [setL] | omega) (by rfl) (by rfl) ?_
        obtain ⟨v97,hv97,h⟩:=bindE h
        refine X.ldRow2 (sz:=1) shp25 (by rfl) (by rfl) (C0l (f:=int) (e:=3) (sz:=1) hv96 (D0j hv97)) (by first | rfl | simp [setL] | omega) (by rfl) (by rfl) ?_
        refine X.mv ?_
        obtain ⟨v98,hv98,h⟩:=bindE h
        refine X.idxR2 (l:=a82.map (fun r=>rowN 3 1 (List.map int r))) (rl:=v96.map int) elt25 (by rfl) (by rfl) (by rfl) (C0l (f:=int) (e:=3) (sz:=1) hv96 (D0j hv97)) ⟨(A0a hv98).1,by have h0:=(A0a hv98).1;have h1:=A0o hv98;rw [List.length_map];(try dsimp only);omega⟩ (by first | rfl | simp [setL] | omega) (by rfl) (by rfl) ?_
        refine X.ldE2 (sz2:=1) shp3 (by rfl) (by rfl) (C0l (f:=int) (e:=3) (sz:=1) hv96 (D0j hv97)) (A0m (off:=0) (by exact A0h (f:=int) (fun _=>rfl)) (A0b int hv98) (by rfl)) (by first | rfl | simp [setL] | omega) (by rfl) (by rfl) ?_
        refine X.ld shp59 ?_
        refine X.mv ?_
        obtain ⟨v99,hv99,h⟩:=bindE h
        refine X.idxT2 (l:=a82.map (fun r=>rowN 3 1 (List.map int r))) elt59 (by rfl) (by rfl) (by rfl) ⟨(A0a hv99).1,by have h0:=(A0a hv99).1;have h1:=A0o hv99;rw [List.length_map];(try dsimp only);omega⟩ (by first | rfl | simp [setL] | omega) (by rfl) (by rfl) ?_
        obtain ⟨v100,hv100,h⟩:=bindE h
        refine X.ldRow2 (sz:=1) shp25 (by rfl) (by rfl) (C0l (f:=int) (e:=3) (sz:=1) hv99 (D0j hv100)) (by first | rfl | simp [setL] | omega) (by rfl) (by rfl) ?_
        refine X.mv ?_
        obtain ⟨v101,hv101,h⟩:=bindE h
        refine X.idxR2 (l:=a82.map (fun r=>rowN 3 1 (List.map int r))) (rl:=v99.map int) elt25 (by rfl) (by rfl) (by rfl) (C0l (f:=int) (e:=3) (sz:=1) hv99 (D0j hv100)) ⟨(A0a hv101).1,by have h0:=(A0a hv101).1;have h1:=A0o hv101;rw [List.length_map];(try dsimp only);omega⟩ (by first | rfl | simp [setL] | omega) (by rfl) (by rfl) ?_
        refine X.ldE2 (sz2:=1) shp3 (by rfl) (by rfl) (C0l (f:=int) (e:=3) (sz:=1) hv99 (D0j hv100)) (A0m (off:=0) (by exact A0h (f:=int) (fun _=>rfl)) (A0b int hv101) (by rfl)) (by first | rfl | simp [setL] | omega) (by rfl) (by rfl) ?_
        refine X.addW (h:=?_)
        obtain ⟨v102,hv102,h⟩:=bindE h
        obtain ⟨v103,hv103,h⟩:=bindE h
        obtain ⟨v104,hv104,h⟩:=bindE h
        refine X.callClo2 (xs:=[int a69,int a81,int (W (v98+v101))]) (P0u _ _ _ _ _  _ hv102) (by rfl) (by rfl) (by rfl) (by rfl) (by rfl) (by rfl) (by rfl) (by first | rfl | simp [setL] | omega) (by first | rfl | simp [setL] | omega) (by rfl) (by rfl) (by simp [M0f hv103]) (by simp [M0f hv104]) (Q0s hv103) (Q0s hv104) (by rfl) (by rfl) ?_
        refine X.tell (n:=320) (p':=.blk true [.tref 1920 (v102.1.map (fun r=>rowN 4 1 (List.map bool r))).length .out]) (by rfl) (by simp [M0f hv103,setL]) ?_
        refine X.tell (n:=256) (p':=.blk true [.tref 1792 (v102.2.map (fun r=>rowN 3 1 (List.map int r))).length .out]) (by rfl) (by simp [M0f hv104,setL]) ?_
        refine X.nil (Run.blk (Run.reg (X.addW (h:=?_))))
        refine X.mn ?_
        exact hag79 n79 ((W (a81+1)),v102.2,v102.1) _ _ (by omega) h (by repeat (first | trivial | refine ⟨by first | rfl | simp [setL],?_⟩)) (by repeat (first | trivial | refine ⟨by first | rfl | simp [setL],?_⟩)) (by rfl) (by rfl)
       replace h:=condF hc95 h
       refine Run.skip (Run.blk (Run.reg (X.addW (h:=?_))))
       refine X.mn ?_
       exact hag79 n79 ((W (a81+1)),a82,a83) _ _ (by omega) h (by repeat (first | trivial | refine ⟨by first | rfl | simp [setL],?_⟩)) (by repeat (first | trivial | refine ⟨by first | rfl | simp [setL],?_⟩)) (by rfl) (by rfl)
      replace h:=condF hc86 h
      refine Run.exit (by rfl) ?_
      exact R.mt hmeet77 (a82,a83) (Option.some.inj h)
     rintro p105 rfl
     refine Run.blk (Run.reg (X.addW (h:=?_)))
     refine X.mn ?_
     exact hag67 n67 ((W (a69+1)),p105.1,p105.2) _ _ (by omega) h (by repeat (first | trivial | refine ⟨by first | rfl | simp [setL],?_⟩)) (by repeat (first | trivial | refine ⟨by first | rfl | simp [setL],?_⟩)) (by rfl) (by rfl)
    replace h:=condF hc74 h
    refine Run.exit (by rfl) ?_
    exact R.mt hmeet65 (a70,a71) (Option.some.inj h)
   rintro p106 rfl
   refine Run.blk (Run.reg (X.addW (h:=?_)))
   refine X.mn ?_
   exact hag55 n55 ((W (a57+1)),p106.1,p106.2) _ _ (by omega) h (by repeat (first | trivial | refine ⟨by first | rfl | simp [setL],?_⟩)) (by repeat (first | trivial | refine ⟨by first | rfl | simp [setL],?_⟩)) (by rfl) (by rfl)
  replace h:=condF hc62 h
  refine Run.exit (by rfl) ?_
  exact R.mt hmeet53 (a58,a59) (Option.some.inj h)
 rintro p107 rfl
 refine Run.seq (Run.sr (X.mv ?_))
 refine X.mn ?_
 obtain ⟨o108,ho108,h⟩:=bindE h
 refine R.join2 (β:=(List (List Int))) [(4,.lptr 256 0)] [] (fun p138 S=>S) (fun p138 M=>(256,.blk true [.tref 1792 (p138.map (fun r=>rowN 3 1 (List.map int r))).length .out])::(1792,.tre 25 1 (p138.map (fun r=>rowN 3 1 (List.map int r))))::M) (fun p138=>p138=o108) ?_ ?_
 ·intro JJ111 hmeet110
  have hup109:=h;clear h;have h:=ho108;clear ho108
  refine Run.block ?_
  refine R.lp (β:=Int×(List (List Int))) [(3,int (b0.Activities.length:Int)),(4,.lptr 256 0),(5,.lptr 320 0),(120,int (b0.Activities.length:Int))] [(1920,.tre 112 1 (p107.2.map (fun r=>rowN 4 1 (List.map bool r))))] (fun bb S=>(121,int bb.1)::S) (fun bb M=>(256,.blk true [.tref 1792 (bb.2.map (fun r=>rowN 3 1 (List.map int r))).length .out])::(1792,.tre 25 1 (bb.2.map (fun r=>rowN 3 1 (List.map int r))))::(320,.blk true [.tref 1920 (p107.2.map (fun r=>rowN 4 1 (List.map bool r))).length .out])::M) (fun n bb=>E0h b0 p107 n bb.1 bb.2=some o108) F0 (0,p107.1) h ?_
  clear h
  rintro JJ112 n112 ⟨a114,a115⟩ hag112 h
  dsimp only at h
  obtain _ | n112:=n112
  ·exact absurd h (by simp [E0h])
  rw [E0h] at h
  refine Run.sr (X.bi ?_)
  refine X.nil (Run.seq ?_)
  refine R.cd (fun hc118=>?_) (fun hc118=>?_)
  ·replace h:=condT hc118 h
   refine Run.skip (Run.seq (Run.block (Run.sr (X.mv ?_))))
   refine X.an ?_
   refine Run.sr (X.mv ?_)
   refine X.mn ?_
   obtain ⟨o119,ho119,h⟩:=bindE h
   refine R.join2 (β:=(List (List Int))) [(3,int (b0.Activities.length:Int)),(4,.lptr 256 0),(5,.lptr 320 0),(120,int (b0.Activities.length:Int)),(121,int a114)] [(1920,.tre 112 1 (p107.2.map (fun r=>rowN 4 1 (List.map bool r))))] (fun p137 S=>S) (fun p137 M=>(256,.blk true [.tref 1792 (p137.map (fun r=>rowN 3 1 (List.map int r))).length .out])::(1792,.tre 25 1 (p137.map (fun r=>rowN 3 1 (List.map int r))))::(320,.blk true [.tref 1920 (p107.2.map (fun r=>rowN 4 1 (List.map bool r))).length .out])::M) (fun p137=>p137=o119) ?_ ?_
   ·intro JJ122 hmeet121
    have hup120:=h;clear h;have h:=ho119;clear ho119
    refine Run.block ?_
    refine R.lp (β:=Int×(List (List Int))) [(3,int (b0.Activities.length:Int)),(4,.lptr 256 0),(5,.lptr 320 0),(13,int a114),(120,int (b0.Activities.length:Int)),(121,int a114),(124,int (b0.Activities.length:Int))] [(1920,.tre 112 1 (p107.2.map (fun r=>rowN 4 1 (List.map bool r))))] (fun bb S=>(125,int bb.1)::S) (fun bb M=>(256,.blk true [.tref 1792 (bb.2.map (fun r=>rowN 3 1 (List.map int r))).length .out])::(1792,.tre 25 1 (bb.2.map (fun r=>rowN 3 1 (List.map int r))))::(320,.blk true [.tref 1920 (p107.2.map (fun r=>rowN 4 1 (List.map bool r))).length .out])::M) (fun n bb=>D0g b0 p107 a114 n bb.1 bb.2=some o119) F0 (0,a115) h ?_
    clear h
    rintro JJ123 n123 ⟨a125,a126⟩ hag123 h
    dsimp only at h
    obtain _ | n123:=n123
    ·exact absurd h (by simp [D0g])
    rw [D0g] at h
    refine Run.sr (X.bi ?_)
    refine X.nil (Run.seq ?_)
    refine R.cd (fun hc129=>?_) (fun hc129=>?_)
    ·replace h:=condT hc129 h
     refine Run.skip (Run.seq (Run.block (Run.sr (X.mv ?_))))
     refine X.an ?_
     refine Run.sr (X.ld W0s ?_)
     refine X.mv ?_
     obtain ⟨v130,hv130,h⟩:=bindE h
     refine X.idxT2 (l:=p107.2.map (fun r=>rowN 4 1 (List.map bool r))) W0u (by rfl) (by rfl) (by rfl) ⟨(A0a hv130).1,by have h0:=(A0a hv130).1;have h1:=A0o hv130;rw [List.length_map];(try dsimp only);omega⟩ (by first | rfl | simp [setL] | omega) (by rfl) (by rfl) ?_
     obtain ⟨v131,hv131,h⟩:=bindE h
     refine X.ldRow2 (sz:=1) Z0u (by rfl) (by rfl) (C0l (f:=bool) (e:=4) (sz:=1) hv130 (D0j hv131)) (by first | rfl | simp [setL] | omega) (by rfl) (by rfl) ?_
     refine X.mv ?_
     obtain ⟨v132,hv132,h⟩:=bindE h
     refine X.idxR2 (l:=p107.2.map (fun r=>rowN 4 1 (List.map bool r))) (rl:=v130.map bool) Y0c (by rfl) (by rfl) (by rfl) (C0l (f:=bool) (e:=4) (sz:=1) hv130 (D0j hv131)) ⟨(A0a hv132).1,by have h0:=(A0a hv132).1;have h1:=A0o hv132;rw [List.length_map];(try dsimp only);omega⟩ (by first | rfl | simp [setL] | omega) (by rfl) (by rfl) ?_
     refine X.ldE2 (sz2:=1) shp4 (by rfl) (by rfl) (C0l (f:=bool) (e:=4) (sz:=1) hv130 (D0j hv131)) (A0m (off:=0) (by exact A0h (f:=bool) (fun _=>rfl)) (A0b bool hv132) (by rfl)) (by first | rfl | simp [setL] | omega) (by rfl) (by rfl) ?_
     refine X.un (h:=?_)
     refine X.nil ?_
     refine R.cd (fun hc133=>?_) (fun hc133=>?_)
     ·replace h:=condT hc133 h
      refine Run.reg (X.ld shp59 ?_)
      refine X.mv ?_
      obtain ⟨v134,hv134,h⟩:=bindE h
      refine X.idxT2 (l:=a126.map (fun r=>rowN 3 1 (List.map int r))) elt59 (by rfl) (by rfl) (by rfl) ⟨(A0a hv134).1,by have h0:=(A0a hv134).1;have h1:=A0o hv134;rw [List.length_map];(try dsimp only);omega⟩ (by first | rfl | simp [setL] | omega) (by rfl) (by rfl) ?_
      obtain ⟨v135,hv135,h⟩:=bindE h
      refine X.ldRow2 (sz:=1) shp25 (by rfl) (by rfl) (C0l (f:=int) (e:=3) (sz:=1) hv134 (D0j hv135)) (by first | rfl | simp [setL] | omega) (by rfl) (by rfl) ?_
      refine X.mv ?_
      obtain ⟨v136,hv136,h⟩:=bindE h
      refine X.idxR2 (l:=a126.map (fun r=>rowN 3 1 (List.map int r))) (rl:=v134.map int) elt25 (by rfl) (by rfl) (by rfl) (C0l (f:=int) (e:=3) (sz:=1) hv134 (D0j hv135)) ⟨(A0a hv136).1,by have h0:=(A0a hv136).1;have h1:=A0o hv136;rw [List.length_map];(try dsimp only);omega⟩ (by first | rfl | simp [setL] | omega) (by rfl) (by rfl) ?_
      refine X.stE2 (l2:=(setL a126 a114 (setL v134 a125 (-1000))).map (fun r=>rowN 3 1 (List.map int r))) (rl2:=(setL v134 a125 (-1000)).map int) (sz2:=1) (sz:=1) shp3 (by rfl) (by rfl) (by rfl) (C0l (f:=int) (e:=3) (sz:=1) hv134 (D0j hv135)) (A0m (off:=0) (by exact A0h (f:=int) (fun _=>rfl)) (A0b int hv136) (by rfl)) (by simp [setL]) (by exact A0h (f:=int) (fun _=>rfl)) (by rw [← C0w];exact J0z (by exact A0h (f:=int) (fun _=>rfl)) (A0b int hv136) (by rfl) (by decide)) (by simp [setL]) (S0k _) (S0h (f:=int) (e:=3) (sz:=1) hv134 (B1a _ _ (D0j hv135))) (by first | rfl | simp [setL] | omega) (by rfl) ?_
      refine X.nil (Run.blk (Run.reg (X.addW (h:=?_))))
      refine X.mn ?_
      refine R.tell (n:=256) (p':=.blk true [.tref 1792 ((setL a126 a114 (setL v134 a125 (-1000))).map (fun r=>rowN 3 1 (List.map int r))).length .out]) (by rfl) (by first | rfl | simp [setL]) ?_
      exact hag123 n123 ((W (a125+1)),(setL a126 a114 (setL v134 a125 (-1000)))) _ _ (by omega) h (by repeat (first | trivial | refine ⟨by first | rfl | simp [setL],?_⟩)) (by repeat (first | trivial | refine ⟨by first | rfl | simp [setL],?_⟩)) (by rfl) (by rfl)
     replace h:=condF hc133 h
     refine Run.skip (Run.blk (Run.reg (X.addW (h:=?_))))
     refine X.mn ?_
     exact hag123 n123 ((W (a125+1)),a126) _ _ (by omega) h (by repeat (first | trivial | refine ⟨by first | rfl | simp [setL],?_⟩)) (by repeat (first | trivial | refine ⟨by first | rfl | simp [setL],?_⟩)) (by rfl) (by rfl)
    replace h:=condF hc129 h
    refine Run.exit (by rfl) ?_
    exact R.mt hmeet121 a126 (Option.some.inj h)
   rintro p137 rfl
   refine Run.blk (Run.reg (X.addW (h:=?_)))
   refine X.mn ?_
   exact hag112 n112 ((W (a114+1)),p137) _ _ (by omega) h (by repeat (first | trivial | refine ⟨by first | rfl | simp [setL],?_⟩)) (by repeat (first | trivial | refine ⟨by first | rfl | simp [setL],?_⟩)) (by rfl) (by rfl)
  replace h:=condF hc118 h
  refine Run.exit (by rfl) ?_
  exact R.mt hmeet110 a115 (Option.some.inj h)
 rintro p138 rfl
 refine Run.sr (X.ld shp59 ?_)
 refine X.an ?_
 obtain ⟨v139,hv139,h⟩:=bindE h
 cases h
 refine R.fin1t Tryz.results44 (by rfl) (by rfl) (by first | rfl | simp [setL] | omega) ?_
 exact congrArg (PV.tre _ _) (H1p hv139)
theorem G0f (b0:A0d)(b1:Int)(r:Int)(h:B0o b0 b1=some r):PC Tryz.prog 51 [A0v b0,int b1] (int r):=by
 unfold B0o at h
 refine PC.start Tryz.func51 Tryz.ntmps51 rfl ok51 rfl ?_
 refine Run.sr (X.bx ?_)
 refine X.an ?_
 refine Run.seq (Run.draw (D0a [(1,([128],[],[],[])),(6,([128],[],[],[])),(10,([],[960],[],[])),(11,([960],[],[],[]))]) mixed (by kernel_rfl) (by kernel_rfl) ?_)
 refine X.fl D0p ?_
 refine X.ld shp30 ?_
 refine X.mv ?_
 obtain ⟨v1,hv1,h⟩:=bindE h
 refine X.ix elt30 (A0a hv1).1 (A0b A0c hv1) ?_
 refine X.lc shp50 ?_
 refine X.fl D0p ?_
 refine X.ld shp30 ?_
 refine X.mv ?_
 refine X.ix elt30 (A0a hv1).1 (A0b A0c hv1) ?_
 refine X.lc shp50 ?_
 obtain ⟨v2,hv2,h⟩:=bindE h
 refine X.callF (R0b _ _ hv2) (by rfl) (by rfl) (by rfl) (by trivial) (by rfl) (by rfl) (by rfl) (by rfl) ?_
 obtain ⟨v3,hv3,h⟩:=bindE h
 refine X.cp (R0e _ _ _ hv3) ?_
 refine X.an ?_
 cases h
 refine R.f1 Tryz.results51 ?_
 rfl
theorem K0m (b0:List Int)(b1:List Int)(r:Bool)(h:L0w b0 b1=some r):PC Tryz.prog 13 [.slice (b0.map int),.slice (b1.map int)] (bool r):=by
 unfold L0w at h
 refine PC.start Tryz.func13 Tryz.ntmps13 rfl ok13 rfl ?_
 refine Run.sr (X.an ?_)
 refine Run.seq (Run.sr (X.mv ?_))
 refine X.ls elt25 ?_
 refine X.mv ?_
 refine X.ls elt25 ?_
 refine X.bi ?_
 refine X.nil ?_
 refine R.cd (fun hc1=>?_) (fun hc1=>?_)
 ·replace h:=condT hc1 h
  refine Run.sr (X.an ?_)
  cases h
  refine R.f1 Tryz.results13 ?_
  rfl
 replace h:=condF hc1 h
 refine Run.skip (Run.seq (Run.sr (X.an ?_)))
 obtain ⟨o2,ho2,h⟩:=bindE h
 refine R.join2 (β:=Unit) [] [] (fun p15 S=>S) (fun p15 M=>M) (fun p15=>(Sum.inl p15)=o2) ?_ ?_
 ·intro JJ5 hmeet4
  have hup3:=h;clear h;have h:=ho2;clear ho2
  refine Run.block ?_
  refine R.bndS (t:=0) (by rfl) (fun hbd8=>?_)
  replace hbd8:b0.length≤9223372036854775807:=by first | (rw [List.length_map] at hbd8;exact hbd8) | simp
  refine R.lp (β:=Int) [(0,.slice (b0.map int)),(1,.slice (b1.map int))] [] (fun bb S=>(5,int bb)::S) (fun bb M=>M) (fun n bb=>0≤bb∧bb+n=(b0.length:Int)∧K0f b1 (b0.drop bb.toNat) bb=some o2) b0.length (0:Int) ⟨Int.le_refl _,by simp,h⟩ ?_
  clear h
  rintro JJ8 n8 z9 hag8 ⟨hza8,hzb8,h⟩
  refine Run.seq (Run.sr (X.mv ?_))
  refine X.mv ?_
  refine X.ls elt25 ?_
  refine X.bi ?_
  refine X.nil ?_
  refine R.cd (fun hc12=>?_) (fun hc12=>?_)
  ·obtain ⟨x10,xs11,hd8,hx8,hds8,hlt8⟩:=A0q hza8 hc12
   rw [hd8] at h
   rw [K0f] at h
   refine Run.skip (Run.seq (Run.block (Run.seq (Run.draw (D0a []) mixed (by kernel_rfl) (by kernel_rfl) ?_))))
   refine X.mv ?_
   refine X.mv ?_
   refine X.ix elt25 (A0a hx8).1 (A0b int hx8) ?_
   refine X.lc shp3 ?_
   refine X.mv ?_
   refine X.mv ?_
   obtain ⟨v13,hv13,h⟩:=bindE h
   refine X.ix elt25 (A0a hv13).1 (A0b int hv13) ?_
   refine X.lc shp3 ?_
   refine X.bi ?_
   refine X.nil ?_
   refine R.cd (fun hc14=>?_) (fun hc14=>?_)
   ·replace h:=condT hc14 h
    refine Run.sr (X.an ?_)
    cases h
    have h:=hup3
    replace h:=elimR h
    cases h
    refine R.f1 Tryz.results13 ?_
    rfl
   replace h:=condF hc14 h
   refine Run.skip (Run.blk (Run.reg (X.mv ?_)))
   refine X.ad ?_
   refine X.an ?_
   exact R.ag hag8 (n8 - 1) (z9+1) (R.n3 (by first | (rw [hds8];exact h) | (dsimp only;rw [hds8];exact h)))
  rw [A0j hza8 hc12] at h
  rw [K0f] at h
  refine Run.exit (by rfl) ?_
  exact R.mt hmeet4 () (Option.some.inj h)
 rintro p15 rfl
 replace h:=elimL h
 refine Run.sr (X.an ?_)
 cases h
 refine R.f1 Tryz.results13 ?_
 rfl
theorem F1s (b0:TMode)(b1:TMode)(r:Bool)(h:T0u b0 b1=some r):PC Tryz.prog 149 [B0l b0,B0l b1] (bool r):=by
 unfold T0u at h
 refine PC.start Tryz.func149 Tryz.ntmps149 rfl ok149 rfl ?_
 refine Run.sr (X.bx ?_)
 refine X.bx ?_
 refine X.an ?_
 refine Run.seq (Run.sr (X.fl L0t ?_))
 refine X.ld shp3 ?_
 refine X.fl L0t ?_
 refine X.ld shp3 ?_
 refine X.bi ?_
 refine X.nil ?_
 refine R.cd (fun hc1=>?_) (fun hc1=>?_)
 ·replace h:=condT hc1 h
  refine Run.sr (X.an ?_)
  cases h
  refine R.f1 Tryz.results149 ?_
  rfl
 replace h:=condF hc1 h
 refine Run.skip (Run.seq (Run.sr (X.fl S0d ?_)))
 refine X.ld shp25 ?_
 refine X.fl S0d ?_
 refine X.ld shp25 ?_
 obtain ⟨v2,hv2,h⟩:=bindE h
 refine X.cp (K0m _ _ _ hv2) ?_
 refine X.un (h:=?_)
 refine X.nil ?_
 refine R.cd (fun hc3=>?_) (fun hc3=>?_)
 ·replace h:=condT hc3 h
  refine Run.sr (X.an ?_)
  cases h
  refine R.f1 Tryz.results149 ?_
  rfl
 replace h:=condF hc3 h
 refine Run.skip (Run.seq (Run.sr (X.fl S0g ?_)))
 refine X.ld shp25 ?_
 refine X.fl S0g ?_
 refine X.ld shp25 ?_
 obtain ⟨v4,hv4,h⟩:=bindE h
 refine X.cp (K0m _ _ _ hv4) ?_
 refine X.un (h:=?_)
 refine X.nil ?_
 refine R.cd (fun hc5=>?_) (fun hc5=>?_)
 ·replace h:=condT hc5 h
  refine Run.sr (X.an ?_)
  cases h
  refine R.f1 Tryz.results149 ?_
  rfl
 replace h:=condF hc5 h
 refine Run.skip (Run.sr (X.an ?_))
 cases h
 refine R.f1 Tryz.results149 ?_
 rfl
theorem D1x (b0:List TMode)(b1:List TMode)(r:Bool)(h:V0x b0 b1=some r):PC Tryz.prog 129 [.slice (b0.map B0l),.slice (b1.map B0l)] (bool r):=by
 unfold V0x at h
 refine PC.start Tryz.func129 Tryz.ntmps129 rfl ok129 rfl ?_
 refine Run.sr (X.an ?_)
 refine Run.seq (Run.sr (X.mv ?_))
 refine X.ls elt48 ?_
 refine X.mv ?_
 refine X.ls elt48 ?_
 refine X.bi ?_
 refine X.nil ?_
 refine R.cd (fun hc1=>?_) (fun hc1=>?_)
 ·replace h:=condT hc1 h
  refine Run.sr (X.an ?_)
  cases h
  refine R.f1 Tryz.results129 ?_
  rfl
 replace h:=condF hc1 h
 refine Run.skip (Run.seq (Run.sr (X.an ?_)))
 obtain ⟨o2,ho2,h⟩:=bindE h
 refine R.join2 (β:=Unit) [] [] (fun p16 S=>S) (fun p16 M=>M) (fun p16=>(Sum.inl p16)=o2) ?_ ?_
 ·intro JJ5 hmeet4
  have hup3:=h;clear h;have h:=ho2;clear ho2
  refine Run.block ?_
  refine R.bndS (t:=0) (by rfl) (fun hbd8=>?_)
  replace hbd8:b0.length≤9223372036854775807:=by first | (rw [List.length_map] at hbd8;exact hbd8) | simp
  refine R.lp (β:=Int) [(0,.slice (b0.map B0l)),(1,.slice (b1.map B0l))] [] (fun bb S=>(5,int bb)::S) (fun bb M=>M) (fun n bb=>0≤bb∧bb+n=(b0.length:Int)∧J0d b1 (b0.drop bb.toNat) bb=some o2) b0.length (0:Int) ⟨Int.le_refl _,by simp,h⟩ ?_
  clear h
  rintro JJ8 n8 z9 hag8 ⟨hza8,hzb8,h⟩
  refine Run.seq (Run.sr (X.mv ?_))
  refine X.mv ?_
  refine X.ls elt48 ?_
  refine X.bi ?_
  refine X.nil ?_
  refine R.cd (fun hc12=>?_) (fun hc12=>?_)
  ·obtain ⟨x10,xs11,hd8,hx8,hds8,hlt8⟩:=A0q hza8 hc12
   rw [hd8] at h
   rw [J0d] at h
   refine Run.skip (Run.seq (Run.block (Run.seq (Run.draw (D0a []) mixed (by kernel_rfl) (by kernel_rfl) ?_))))
   refine X.mv ?_
   refine X.mv ?_
   refine X.ix elt48 (A0a hx8).1 (A0b B0l hx8) ?_
   refine X.lc L0g ?_
   refine X.mv ?_
   refine X.mv ?_
   obtain ⟨v13,hv13,h⟩:=bindE h
   refine X.ix elt48 (A0a hv13).1 (A0b B0l hv13) ?_
   refine X.lc L0g ?_
   obtain ⟨v14,hv14,h⟩:=bindE h
   refine X.cp (F1s _ _ _ hv14) ?_
   refine X.un (h:=?_)
   refine X.nil ?_
   refine R.cd (fun hc15=>?_) (fun hc15=>?_)
   ·replace h:=condT hc15 h
    refine Run.sr (X.an ?_)
    cases h
    have h:=hup3
    replace h:=elimR h
    cases h
    refine R.f1 Tryz.results129 ?_
    rfl
   replace h:=condF hc15 h
   refine Run.skip (Run.blk (Run.reg (X.mv ?_)))
   refine X.ad ?_
   refine X.an ?_
   exact R.ag hag8 (n8 - 1) (z9+1) (R.n3 (by first | (rw [hds8];exact h) | (dsimp only;rw [hds8];exact h)))
  rw [A0j hza8 hc12] at h
  rw [J0d] at h
  refine Run.exit (by rfl) ?_
  exact R.mt hmeet4 () (Option.some.inj h)
 rintro p16 rfl
 replace h:=elimL h
 refine Run.sr (X.an ?_)
 cases h
 refine R.f1 Tryz.results129 ?_
 rfl
theorem Z0l (b0:A0g)(b1:A0g)(r:Bool)(h:M0g b0 b1=some r):PC Tryz.prog 87 [A0c b0,A0c b1] (bool r):=by
 unfold M0g at h
 refine PC.start Tryz.func87 Tryz.ntmps87 rfl ok87 rfl ?_
 refine Run.sr (X.bx ?_)
 refine X.bx ?_
 refine X.an ?_
 refine Run.seq (Run.sr (X.fl P0n ?_))
 refine X.ld shp9 ?_
 refine X.fl P0n ?_
 refine X.ld shp9 ?_
 refine X.bi ?_
 refine X.nil ?_
 refine R.cd (fun hc1=>?_) (fun hc1=>?_)
 ·replace h:=condT hc1 h
  refine Run.sr (X.an ?_)
  cases h
  refine R.f1 Tryz.results87 ?_
  rfl
 replace h:=condF hc1 h
 refine Run.skip (Run.seq (Run.sr (X.fl W0b ?_)))
 refine X.ld shp3 ?_
 refine X.fl W0b ?_
 refine X.ld shp3 ?_
 refine X.bi ?_
 refine X.nil ?_
 refine R.cd (fun hc2=>?_) (fun hc2=>?_)
 ·replace h:=condT hc2 h
  refine Run.sr (X.an ?_)
  cases h
  refine R.f1 Tryz.results87 ?_
  rfl
 replace h:=condF hc2 h
 refine Run.skip (Run.seq (Run.sr (X.fl M0k ?_)))
 refine X.ld shp48 ?_
 refine X.fl M0k ?_
 refine X.ld shp48 ?_
 obtain ⟨v3,hv3,h⟩:=bindE h
 refine X.cp (D1x _ _ _ hv3) ?_
 refine X.un (h:=?_)
 refine X.nil ?_
 refine R.cd (fun hc4=>?_) (fun hc4=>?_)
 ·replace h:=condT hc4 h
  refine Run.sr (X.an ?_)
  cases h
  refine R.f1 Tryz.results87 ?_
  rfl
 replace h:=condF hc4 h
 refine Run.skip (Run.sr (X.an ?_))
 cases h
 refine R.f1 Tryz.results87 ?_
 rfl
theorem X0k (b0:List A0g)(b1:List A0g)(r:Bool)(h:N0a b0 b1=some r):PC Tryz.prog 38 [.slice (b0.map A0c),.slice (b1.map A0c)] (bool r):=by
 unfold N0a at h
 refine PC.start Tryz.func38 Tryz.ntmps38 rfl ok38 rfl ?_
 refine Run.sr (X.an ?_)
 refine Run.seq (Run.sr (X.mv ?_))
 refine X.ls elt30 ?_
 refine X.mv ?_
 refine X.ls elt30 ?_
 refine X.bi ?_
 refine X.nil ?_
 refine R.cd (fun hc1=>?_) (fun hc1=>?_)
 ·replace h:=condT hc1 h
  refine Run.sr (X.an ?_)
  cases h
  refine R.f1 Tryz.results38 ?_
  rfl
 replace h:=condF hc1 h
 refine Run.skip (Run.seq (Run.sr (X.an ?_)))
 obtain ⟨o2,ho2,h⟩:=bindE h
 refine R.join2 (β:=Unit) [] [] (fun p16 S=>S) (fun p16 M=>M) (fun p16=>(Sum.inl p16)=o2) ?_ ?_
 ·intro JJ5 hmeet4
  have hup3:=h;clear h;have h:=ho2;clear ho2
  refine Run.block ?_
  refine R.bndS (t:=0) (by rfl) (fun hbd8=>?_)
  replace hbd8:b0.length≤9223372036854775807:=by first | (rw [List.length_map] at hbd8;exact hbd8) | simp
  refine R.lp (β:=Int) [(0,.slice (b0.map A0c)),(1,.slice (b1.map A0c))] [] (fun bb S=>(5,int bb)::S) (fun bb M=>M) (fun n bb=>0≤bb∧bb+n=(b0.length:Int)∧E0y b1 (b0.drop bb.toNat) bb=some o2) b0.length (0:Int) ⟨Int.le_refl _,by simp,h⟩ ?_
  clear h
  rintro JJ8 n8 z9 hag8 ⟨hza8,hzb8,h⟩
  refine Run.seq (Run.sr (X.mv ?_))
  refine X.mv ?_
  refine X.ls elt30 ?_
  refine X.bi ?_
  refine X.nil ?_
  refine R.cd (fun hc12=>?_) (fun hc12=>?_)
  ·obtain ⟨x10,xs11,hd8,hx8,hds8,hlt8⟩:=A0q hza8 hc12
   rw [hd8] at h
   rw [E0y] at h
   refine Run.skip (Run.seq (Run.block (Run.seq (Run.draw (D0a []) mixed (by kernel_rfl) (by kernel_rfl) ?_))))
   refine X.mv ?_
   refine X.mv ?_
   refine X.ix elt30 (A0a hx8).1 (A0b A0c hx8) ?_
   refine X.lc shp50 ?_
   refine X.mv ?_
   refine X.mv ?_
   obtain ⟨v13,hv13,h⟩:=bindE h
   refine X.ix elt30 (A0a hv13).1 (A0b A0c hv13) ?_
   refine X.lc shp50 ?_
   obtain ⟨v14,hv14,h⟩:=bindE h
   refine X.cp (Z0l _ _ _ hv14) ?_
   refine X.un (h:=?_)
   refine X.nil ?_
   refine R.cd (fun hc15=>?_) (fun hc15=>?_)
   ·replace h:=condT hc15 h
    refine Run.sr (X.an ?_)
    cases h
    have h:=hup3
    replace h:=elimR h
    cases h
    refine R.f1 Tryz.results38 ?_
    rfl
   replace h:=condF hc15 h
   refine Run.skip (Run.blk (Run.reg (X.mv ?_)))
   refine X.ad ?_
   refine X.an ?_
   exact R.ag hag8 (n8 - 1) (z9+1) (R.n3 (by first | (rw [hds8];exact h) | (dsimp only;rw [hds8];exact h)))
  rw [A0j hza8 hc12] at h
  rw [E0y] at h
  refine Run.exit (by rfl) ?_
  exact R.mt hmeet4 () (Option.some.inj h)
 rintro p16 rfl
 replace h:=elimL h
 refine Run.sr (X.an ?_)
 cases h
 refine R.f1 Tryz.results38 ?_
 rfl
theorem E1b (b0:TLink)(b1:TLink)(r:Bool)(h:U0h b0 b1=some r):PC Tryz.prog 88 [A0k b0,A0k b1] (bool r):=by
 unfold U0h at h
 refine PC.start Tryz.func88 Tryz.ntmps88 rfl ok88 rfl ?_
 refine Run.sr (X.bx ?_)
 refine X.bx ?_
 refine X.an ?_
 refine Run.seq (Run.sr (X.fl G0x ?_))
 refine X.ld shp3 ?_
 refine X.fl G0x ?_
 refine X.ld shp3 ?_
 refine X.bi ?_
 refine X.nil ?_
 refine R.cd (fun hc1=>?_) (fun hc1=>?_)
 ·replace h:=condT hc1 h
  refine Run.sr (X.an ?_)
  cases h
  refine R.f1 Tryz.results88 ?_
  rfl
 replace h:=condF hc1 h
 refine Run.skip (Run.seq (Run.sr (X.fl J0c ?_)))
 refine X.ld shp3 ?_
 refine X.fl J0c ?_
 refine X.ld shp3 ?_
 refine X.bi ?_
 refine X.nil ?_
 refine R.cd (fun hc2=>?_) (fun hc2=>?_)
 ·replace h:=condT hc2 h
  refine Run.sr (X.an ?_)
  cases h
  refine R.f1 Tryz.results88 ?_
  rfl
 replace h:=condF hc2 h
 refine Run.skip (Run.seq (Run.sr (X.fl W0e ?_)))
 refine X.ld shp4 ?_
 refine X.fl W0e ?_
 refine X.ld shp4 ?_
 refine X.neqBool Tryz.underlying4 (by rfl) (by rfl) (by rfl) ?_
 refine X.nil ?_
 refine R.cd (fun hc3=>?_) (fun hc3=>?_)
 ·replace h:=condT hc3 h
  refine Run.sr (X.an ?_)
  cases h
  refine R.f1 Tryz.results88 ?_
  rfl
 replace h:=condF hc3 h
 refine Run.skip (Run.seq (Run.sr (X.fl P0o ?_)))
 refine X.ld shp3 ?_
 refine X.fl P0o ?_
 refine X.ld shp3 ?_
 refine X.bi ?_
 refine X.nil ?_
 refine R.cd (fun hc4=>?_) (fun hc4=>?_)
 ·replace h:=condT hc4 h
  refine Run.sr (X.an ?_)
  cases h
  refine R.f1 Tryz.results88 ?_
  rfl
 replace h:=condF hc4 h
 refine Run.skip (Run.sr (X.an ?_))
 cases h
 refine R.f1 Tryz.results88 ?_
 rfl
theorem D1s (b0:List TLink)(b1:List TLink)(r:Bool)(h:U0u b0 b1=some r):PC Tryz.prog 39 [.slice (b0.map A0k),.slice (b1.map A0k)] (bool r):=by
 unfold U0u at h
 refine PC.start Tryz.func39 Tryz.ntmps39 rfl ok39 rfl ?_
 refine Run.sr (X.an ?_)
 refine Run.seq (Run.sr (X.mv ?_))
 refine X.ls elt31 ?_
 refine X.mv ?_
 refine X.ls elt31 ?_
 refine X.bi ?_
 refine X.nil ?_
 refine R.cd (fun hc1=>?_) (fun hc1=>?_)
 ·replace h:=condT hc1 h
  refine Run.sr (X.an ?_)
  cases h
  refine R.f1 Tryz.results39 ?_
  rfl
 replace h:=condF hc1 h
 refine Run.skip (Run.seq (Run.sr (X.an ?_)))
 obtain ⟨o2,ho2,h⟩:=bindE h
 refine R.join2 (β:=Unit) [] [] (fun p16 S=>S) (fun p16 M=>M) (fun p16=>(Sum.inl p16)=o2) ?_ ?_
 ·intro JJ5 hmeet4
  have hup3:=h;clear h;have h:=ho2;clear ho2
  refine Run.block ?_
  refine R.bndS (t:=0) (by rfl) (fun hbd8=>?_)
  replace hbd8:b0.length≤9223372036854775807:=by first | (rw [List.length_map] at hbd8;exact hbd8) | simp
  refine R.lp (β:=Int) [(0,.slice (b0.map A0k)),(1,.slice (b1.map A0k))] [] (fun bb S=>(5,int bb)::S) (fun bb M=>M) (fun n bb=>0≤bb∧bb+n=(b0.length:Int)∧J0s b1 (b0.drop bb.toNat) bb=some o2) b0.length (0:Int) ⟨Int.le_refl _,by simp,h⟩ ?_
  clear h
  rintro JJ8 n8 z9 hag8 ⟨hza8,hzb8,h⟩
  refine Run.seq (Run.sr (X.mv ?_))
  refine X.mv ?_
  refine X.ls elt31 ?_
  refine X.bi ?_
  refine X.nil ?_
  refine R.cd (fun hc12=>?_) (fun hc12=>?_)
  ·obtain ⟨x10,xs11,hd8,hx8,hds8,hlt8⟩:=A0q hza8 hc12
   rw [hd8] at h
   rw [J0s] at h
   refine Run.skip (Run.seq (Run.block (Run.seq (Run.draw (D0a []) mixed (by kernel_rfl) (by kernel_rfl) ?_))))
   refine X.mv ?_
   refine X.mv ?_
   refine X.ix elt31 (A0a hx8).1 (A0b A0k hx8) ?_
   refine X.lc shp87 ?_
   refine X.mv ?_
   refine X.mv ?_
   obtain ⟨v13,hv13,h⟩:=bindE h
   refine X.ix elt31 (A0a hv13).1 (A0b A0k hv13) ?_
   refine X.lc shp87 ?_
   obtain ⟨v14,hv14,h⟩:=bindE h
   refine X.cp (E1b _ _ _ hv14) ?_
   refine X.un (h:=?_)
   refine X.nil ?_
   refine R.cd (fun hc15=>?_) (fun hc15=>?_)
   ·replace h:=condT hc15 h
    refine Run.sr (X.an ?_)
    cases h
    have h:=hup3
    replace h:=elimR h
    cases h
    refine R.f1 Tryz.results39 ?_
    rfl
   replace h:=condF hc15 h
   refine Run.skip (Run.blk (Run.reg (X.mv ?_)))
   refine X.ad ?_
   refine X.an ?_
   exact R.ag hag8 (n8 - 1) (z9+1) (R.n3 (by first | (rw [hds8];exact h) | (dsimp only;rw [hds8];exact h)))
  rw [A0j hza8 hc12] at h
  rw [J0s] at h
  refine Run.exit (by rfl) ?_
  exact R.mt hmeet4 () (Option.some.inj h)
 rintro p16 rfl
 replace h:=elimL h
 refine Run.sr (X.an ?_)
 cases h
 refine R.f1 Tryz.results39 ?_
 rfl
theorem E1r (b0:TStep)(b1:TStep)(r:Bool)(h:V0e b0 b1=some r):PC Tryz.prog 150 [B0m b0,B0m b1] (bool r):=by
 unfold V0e at h
 refine PC.start Tryz.func150 Tryz.ntmps150 rfl ok150 rfl ?_
 refine Run.sr (X.bx ?_)
 refine X.bx ?_
 refine X.an ?_
 refine Run.seq (Run.sr (X.fl J0a ?_))
 refine X.ld shp3 ?_
 refine X.fl J0a ?_
 refine X.ld shp3 ?_
 refine X.bi ?_
 refine X.nil ?_
 refine R.cd (fun hc1=>?_) (fun hc1=>?_)
 ·replace h:=condT hc1 h
  refine Run.sr (X.an ?_)
  cases h
  refine R.f1 Tryz.results150 ?_
  rfl
 replace h:=condF hc1 h
 refine Run.skip (Run.seq (Run.sr (X.fl S0j ?_)))
 refine X.ld shp3 ?_
 refine X.fl S0j ?_
 refine X.ld shp3 ?_
 refine X.bi ?_
 refine X.nil ?_
 refine R.cd (fun hc2=>?_) (fun hc2=>?_)
 ·replace h:=condT hc2 h
  refine Run.sr (X.an ?_)
  cases h
  refine R.f1 Tryz.results150 ?_
  rfl
 replace h:=condF hc2 h
 refine Run.skip (Run.sr (X.an ?_))
 cases h
 refine R.f1 Tryz.results150 ?_
 rfl
theorem D1o (b0:List TStep)(b1:List TStep)(r:Bool)(h:U0s b0 b1=some r):PC Tryz.prog 130 [.slice (b0.map B0m),.slice (b1.map B0m)] (bool r):=by
 unfold U0s at h
 refine PC.start Tryz.func130 Tryz.ntmps130 rfl ok130 rfl ?_
 refine Run.sr (X.an ?_)
 refine Run.seq (Run.sr (X.mv ?_))
 refine X.ls elt58 ?_
 refine X.mv ?_
 refine X.ls elt58 ?_
 refine X.bi ?_
 refine X.nil ?_
 refine R.cd (fun hc1=>?_) (fun hc1=>?_)
 ·replace h:=condT hc1 h
  refine Run.sr (X.an ?_)
  cases h
  refine R.f1 Tryz.results130 ?_
  rfl
 replace h:=condF hc1 h
 refine Run.skip (Run.seq (Run.sr (X.an ?_)))
 obtain ⟨o2,ho2,h⟩:=bindE h
 refine R.join2 (β:=Unit) [] [] (fun p16 S=>S) (fun p16 M=>M) (fun p16=>(Sum.inl p16)=o2) ?_ ?_
 ·intro JJ5 hmeet4
  have hup3:=h;clear h;have h:=ho2;clear ho2
  refine Run.block ?_
  refine R.bndS (t:=0) (by rfl) (fun hbd8=>?_)
  replace hbd8:b0.length≤9223372036854775807:=by first | (rw [List.length_map] at hbd8;exact hbd8) | simp
  refine R.lp (β:=Int) [(0,.slice (b0.map B0m)),(1,.slice (b1.map B0m))] [] (fun bb S=>(5,int bb)::S) (fun bb M=>M) (fun n bb=>0≤bb∧bb+n=(b0.length:Int)∧J0r b1 (b0.drop bb.toNat) bb=some o2) b0.length (0:Int) ⟨Int.le_refl _,by simp,h⟩ ?_
  clear h
  rintro JJ8 n8 z9 hag8 ⟨hza8,hzb8,h⟩
  refine Run.seq (Run.sr (X.mv ?_))
  refine X.mv ?_
  refine X.ls elt58 ?_
  refine X.bi ?_
  refine X.nil ?_
  refine R.cd (fun hc12=>?_) (fun hc12=>?_)
  ·obtain ⟨x10,xs11,hd8,hx8,hds8,hlt8⟩:=A0q hza8 hc12
   rw [hd8] at h
   rw [J0r] at h
   refine Run.skip (Run.seq (Run.block (Run.seq (Run.draw (D0a []) mixed (by kernel_rfl) (by kernel_rfl) ?_))))
   refine X.mv ?_
   refine X.mv ?_
   refine X.ix elt58 (A0a hx8).1 (A0b B0m hx8) ?_
   refine X.lc S0u ?_
   refine X.mv ?_
   refine X.mv ?_
   obtain ⟨v13,hv13,h⟩:=bindE h
   refine X.ix elt58 (A0a hv13).1 (A0b B0m hv13) ?_
   refine X.lc S0u ?_
   obtain ⟨v14,hv14,h⟩:=bindE h
   refine X.cp (E1r _ _ _ hv14) ?_
   refine X.un (h:=?_)
   refine X.nil ?_
   refine R.cd (fun hc15=>?_) (fun hc15=>?_)
   ·replace h:=condT hc15 h
    refine Run.sr (X.an ?_)
    cases h
    have h:=hup3
    replace h:=elimR h
    cases h
    refine R.f1 Tryz.results130 ?_
    rfl
   replace h:=condF hc15 h
   refine Run.skip (Run.blk (Run.reg (X.mv ?_)))
   refine X.ad ?_
   refine X.an ?_
   exact R.ag hag8 (n8 - 1) (z9+1) (R.n3 (by first | (rw [hds8];exact h) | (dsimp only;rw [hds8];exact h)))
  rw [A0j hza8 hc12] at h
  rw [J0r] at h
  refine Run.exit (by rfl) ?_
  exact R.mt hmeet4 () (Option.some.inj h)
 rintro p16 rfl
 replace h:=elimL h
 refine Run.sr (X.an ?_)
 cases h
 refine R.f1 Tryz.results130 ?_
 rfl
theorem D1m (b0:List (List Int))(b1:List (List Int))(r:Bool)(h:U0d b0 b1=some r):PC Tryz.prog 131 [.slice (b0.map l_int),.slice (b1.map l_int)] (bool r):=by
 unfold U0d at h
 refine PC.start Tryz.func131 Tryz.ntmps131 rfl ok131 rfl ?_
 refine Run.sr (X.an ?_)
 refine Run.seq (Run.sr (X.mv ?_))
 refine X.ls elt59 ?_
 refine X.mv ?_
 refine X.ls elt59 ?_
 refine X.bi ?_
 refine X.nil ?_
 refine R.cd (fun hc1=>?_) (fun hc1=>?_)
 ·replace h:=condT hc1 h
  refine Run.sr (X.an ?_)
  cases h
  refine R.f1 Tryz.results131 ?_
  rfl
 replace h:=condF hc1 h
 refine Run.skip (Run.seq (Run.sr (X.an ?_)))
 obtain ⟨o2,ho2,h⟩:=bindE h
 refine R.join2 (β:=Unit) [] [] (fun p16 S=>S) (fun p16 M=>M) (fun p16=>(Sum.inl p16)=o2) ?_ ?_
 ·intro JJ5 hmeet4
  have hup3:=h;clear h;have h:=ho2;clear ho2
  refine Run.block ?_
  refine R.bndS (t:=0) (by rfl) (fun hbd8=>?_)
  replace hbd8:b0.length≤9223372036854775807:=by first | (rw [List.length_map] at hbd8;exact hbd8) | simp
  refine R.lp (β:=Int) [(0,.slice (b0.map l_int)),(1,.slice (b1.map l_int))] [] (fun bb S=>(5,int bb)::S) (fun bb M=>M) (fun n bb=>0≤bb∧bb+n=(b0.length:Int)∧J0p b1 (b0.drop bb.toNat) bb=some o2) b0.length (0:Int) ⟨Int.le_refl _,by simp,h⟩ ?_
  clear h
  rintro JJ8 n8 z9 hag8 ⟨hza8,hzb8,h⟩
  refine Run.seq (Run.sr (X.mv ?_))
  refine X.mv ?_
  refine X.ls elt59 ?_
  refine X.bi ?_
  refine X.nil ?_
  refine R.cd (fun hc12=>?_) (fun hc12=>?_)
  ·obtain ⟨x10,xs11,hd8,hx8,hds8,hlt8⟩:=A0q hza8 hc12
   rw [hd8] at h
   rw [J0p] at h
   refine Run.skip (Run.seq (Run.block (Run.seq (Run.draw (D0a []) mixed (by kernel_rfl) (by kernel_rfl) ?_))))
   refine X.mv ?_
   refine X.mv ?_
   refine X.ix elt59 (A0a hx8).1 (A0b l_int hx8) ?_
   refine X.lc shp25 ?_
   refine X.mv ?_
   refine X.mv ?_
   obtain ⟨v13,hv13,h⟩:=bindE h
   refine X.ix elt59 (A0a hv13).1 (A0b l_int hv13) ?_
   refine X.lc shp25 ?_
   obtain ⟨v14,hv14,h⟩:=bindE h
   refine X.cp (K0m _ _ _ hv14) ?_
   refine X.un (h:=?_)
   refine X.nil ?_
   refine R.cd (fun hc15=>?_) (fun hc15=>?_)
   ·replace h:=condT hc15 h
    refine Run.sr (X.an ?_)
    cases h
    have h:=hup3
    replace h:=elimR h
    cases h
    refine R.f1 Tryz.results131 ?_
    rfl
   replace h:=condF hc15 h
   refine Run.skip (Run.blk (Run.reg (X.mv ?_)))
   refine X.ad ?_
   refine X.an ?_
   exact R.ag hag8 (n8 - 1) (z9+1) (R.n3 (by first | (rw [hds8];exact h) | (dsimp only;rw [hds8];exact h)))
  rw [A0j hza8 hc12] at h
  rw [J0p] at h
  refine Run.exit (by rfl) ?_
  exact R.mt hmeet4 () (Option.some.inj h)
 rintro p16 rfl
 replace h:=elimL h
 refine Run.sr (X.an ?_)
 cases h
 refine R.f1 Tryz.results131 ?_
 rfl
theorem Z0b (b0:A0n)(b1:A0n)(r:Bool)(h:M0h b0 b1=some r):PC Tryz.prog 89 [A0e b0,A0e b1] (bool r):=by
 unfold M0h at h
 refine PC.start Tryz.func89 Tryz.ntmps89 rfl ok89 rfl ?_
 refine Run.sr (X.bx ?_)
 refine X.bx ?_
 refine X.an ?_
 refine Run.seq (Run.sr (X.fl W0i ?_))
 refine X.ld shp58 ?_
 refine X.fl W0i ?_
 refine X.ld shp58 ?_
 obtain ⟨v1,hv1,h⟩:=bindE h
 refine X.cp (D1o _ _ _ hv1) ?_
 refine X.un (h:=?_)
 refine X.nil ?_
 refine R.cd (fun hc2=>?_) (fun hc2=>?_)
 ·replace h:=condT hc2 h
  refine Run.sr (X.an ?_)
  cases h
  refine R.f1 Tryz.results89 ?_
  rfl
 replace h:=condF hc2 h
 refine Run.skip (Run.seq (Run.sr (X.fl P0m ?_)))
 refine X.ld shp59 ?_
 refine X.fl P0m ?_
 refine X.ld shp59 ?_
 obtain ⟨v3,hv3,h⟩:=bindE h
 refine X.cp (D1m _ _ _ hv3) ?_
 refine X.un (h:=?_)
 refine X.nil ?_
 refine R.cd (fun hc4=>?_) (fun hc4=>?_)
 ·replace h:=condT hc4 h
  refine Run.sr (X.an ?_)
  cases h
  refine R.f1 Tryz.results89 ?_
  rfl
 replace h:=condF hc4 h
 refine Run.skip (Run.sr (X.an ?_))
 cases h
 refine R.f1 Tryz.results89 ?_
 rfl
theorem X0e (b0:List A0n)(b1:List A0n)(r:Bool)(h:M0v b0 b1=some r):PC Tryz.prog 40 [.slice (b0.map A0e),.slice (b1.map A0e)] (bool r):=by
 unfold M0v at h
 refine PC.start Tryz.func40 Tryz.ntmps40 rfl ok40 rfl ?_
 refine Run.sr (X.an ?_)
 refine Run.seq (Run.sr (X.mv ?_))
 refine X.ls elt32 ?_
 refine X.mv ?_
 refine X.ls elt32 ?_
 refine X.bi ?_
 refine X.nil ?_
 refine R.cd (fun hc1=>?_) (fun hc1=>?_)
 ·replace h:=condT hc1 h
  refine Run.sr (X.an ?_)
  cases h
  refine R.f1 Tryz.results40 ?_
  rfl
 replace h:=condF hc1 h
 refine Run.skip (Run.seq (Run.sr (X.an ?_)))
 obtain ⟨o2,ho2,h⟩:=bindE h
 refine R.join2 (β:=Unit) [] [] (fun p16 S=>S) (fun p16 M=>M) (fun p16=>(Sum.inl p16)=o2) ?_ ?_
 ·intro JJ5 hmeet4
  have hup3:=h;clear h;have h:=ho2;clear ho2
  refine Run.block ?_
  refine R.bndS (t:=0) (by rfl) (fun hbd8=>?_)
  replace hbd8:b0.length≤9223372036854775807:=by first | (rw [List.length_map] at hbd8;exact hbd8) | simp
  refine R.lp (β:=Int) [(0,.slice (b0.map A0e)),(1,.slice (b1.map A0e))] [] (fun bb S=>(5,int bb)::S) (fun bb M=>M) (fun n bb=>0≤bb∧bb+n=(b0.length:Int)∧F0c b1 (b0.drop bb.toNat) bb=some o2) b0.length (0:Int) ⟨Int.le_refl _,by simp,h⟩ ?_
  clear h
  rintro JJ8 n8 z9 hag8 ⟨hza8,hzb8,h⟩
  refine Run.seq (Run.sr (X.mv ?_))
  refine X.mv ?_
  refine X.ls elt32 ?_
  refine X.bi ?_
  refine X.nil ?_
  refine R.cd (fun hc12=>?_) (fun hc12=>?_)
  ·obtain ⟨x10,xs11,hd8,hx8,hds8,hlt8⟩:=A0q hza8 hc12
   rw [hd8] at h
   rw [F0c] at h
   refine Run.skip (Run.seq (Run.block (Run.seq (Run.draw (D0a []) mixed (by kernel_rfl) (by kernel_rfl) ?_))))
   refine X.mv ?_
   refine X.mv ?_
   refine X.ix elt32 (A0a hx8).1 (A0b A0e hx8) ?_
   refine X.lc shp61 ?_
   refine X.mv ?_
   refine X.mv ?_
   obtain ⟨v13,hv13,h⟩:=bindE h
   refine X.ix elt32 (A0a hv13).1 (A0b A0e hv13) ?_
   refine X.lc shp61 ?_
   obtain ⟨v14,hv14,h⟩:=bindE h
   refine X.cp (Z0b _ _ _ hv14) ?_
   refine X.un (h:=?_)
   refine X.nil ?_
   refine R.cd (fun hc15=>?_) (fun hc15=>?_)
   ·replace h:=condT hc15 h
    refine Run.sr (X.an ?_)
    cases h
    have h:=hup3
    replace h:=elimR h
    cases h
    refine R.f1 Tryz.results40 ?_
    rfl
   replace h:=condF hc15 h
   refine Run.skip (Run.blk (Run.reg (X.mv ?_)))
   refine X.ad ?_
   refine X.an ?_
   exact R.ag hag8 (n8 - 1) (z9+1) (R.n3 (by first | (rw [hds8];exact h) | (dsimp only;rw [hds8];exact h)))
  rw [A0j hza8 hc12] at h
  rw [F0c] at h
  refine Run.exit (by rfl) ?_
  exact R.mt hmeet4 () (Option.some.inj h)
 rintro p16 rfl
 replace h:=elimL h
 refine Run.sr (X.an ?_)
 cases h
 refine R.f1 Tryz.results40 ?_
 rfl
theorem A1j (b0:A0d)(b1:A0d)(r:Bool)(h:N0s b0 b1=some r):PC Tryz.prog 10 [A0v b0,A0v b1] (bool r):=by
 unfold N0s at h
 refine PC.start Tryz.func10 Tryz.ntmps10 rfl ok10 rfl ?_
 refine Run.sr (X.bx ?_)
 refine X.bx ?_
 refine X.an ?_
 refine Run.seq (Run.sr (X.fl T0l ?_))
 refine X.ld shp3 ?_
 refine X.fl T0l ?_
 refine X.ld shp3 ?_
 refine X.bi ?_
 refine X.nil ?_
 refine R.cd (fun hc1=>?_) (fun hc1=>?_)
 ·replace h:=condT hc1 h
  refine Run.sr (X.an ?_)
  cases h
  refine R.f1 Tryz.results10 ?_
  rfl
 replace h:=condF hc1 h
 refine Run.skip (Run.seq (Run.sr (X.fl D0p ?_)))
 refine X.ld shp30 ?_
 refine X.fl D0p ?_
 refine X.ld shp30 ?_
 obtain ⟨v2,hv2,h⟩:=bindE h
 refine X.cp (X0k _ _ _ hv2) ?_
 refine X.un (h:=?_)
 refine X.nil ?_
 refine R.cd (fun hc3=>?_) (fun hc3=>?_)
 ·replace h:=condT hc3 h
  refine Run.sr (X.an ?_)
  cases h
  refine R.f1 Tryz.results10 ?_
  rfl
 replace h:=condF hc3 h
 refine Run.skip (Run.seq (Run.sr (X.fl G0s ?_)))
 refine X.ld shp31 ?_
 refine X.fl G0s ?_
 refine X.ld shp31 ?_
 obtain ⟨v4,hv4,h⟩:=bindE h
 refine X.cp (D1s _ _ _ hv4) ?_
 refine X.un (h:=?_)
 refine X.nil ?_
 refine R.cd (fun hc5=>?_) (fun hc5=>?_)
 ·replace h:=condT hc5 h
  refine Run.sr (X.an ?_)
  cases h
  refine R.f1 Tryz.results10 ?_
  rfl
 replace h:=condF hc5 h
 refine Run.skip (Run.seq (Run.sr (X.fl P0k ?_)))
 refine X.ld shp32 ?_
 refine X.fl P0k ?_
 refine X.ld shp32 ?_
 obtain ⟨v6,hv6,h⟩:=bindE h
 refine X.cp (X0e _ _ _ hv6) ?_
 refine X.un (h:=?_)
 refine X.nil ?_
 refine R.cd (fun hc7=>?_) (fun hc7=>?_)
 ·replace h:=condT hc7 h
  refine Run.sr (X.an ?_)
  cases h
  refine R.f1 Tryz.results10 ?_
  rfl
 replace h:=condF hc7 h
 refine Run.skip (Run.seq (Run.sr (X.fl P0j ?_)))
 refine X.ld shp25 ?_
 refine X.fl P0j ?_
 refine X.ld shp25 ?_
 obtain ⟨v8,hv8,h⟩:=bindE h
 refine X.cp (K0m _ _ _ hv8) ?_
 refine X.un (h:=?_)
 refine X.nil ?_
 refine R.cd (fun hc9=>?_) (fun hc9=>?_)
 ·replace h:=condT hc9 h
  refine Run.sr (X.an ?_)
  cases h
  refine R.f1 Tryz.results10 ?_
  rfl
 replace h:=condF hc9 h
 refine Run.skip (Run.sr (X.an ?_))
 cases h
 refine R.f1 Tryz.results10 ?_
 rfl
theorem E1v (b0:Int)(b1:Int)(r:Int)(h:V0s b0 b1=some r):PC Tryz.prog 91 [int b0,int b1] (int r):=by
 unfold V0s at h
 refine PC.start Tryz.func91 Tryz.ntmps91 rfl ok91 rfl ?_
 refine Run.sr (X.an ?_)
 refine Run.seq (Run.sr (X.mv ?_))
 refine X.mv ?_
 refine X.bi ?_
 refine X.nil ?_
 refine R.cd (fun hc1=>?_) (fun hc1=>?_)
 ·replace h:=condT hc1 h
  refine Run.sr (X.mv ?_)
  refine X.an ?_
  cases h
  refine R.f1 Tryz.results91 ?_
  rfl
 replace h:=condF hc1 h
 refine Run.skip (Run.sr (X.mv ?_))
 refine X.an ?_
 cases h
 refine R.f1 Tryz.results91 ?_
 rfl
theorem W0d (b0:A0d)(b1:Int)(r:List Int)(h:G0n b0 b1=some r):PC Tryz.prog 41 [A0v b0,int b1] (.fresh false 3 1 (r.map int)):=by
 unfold G0n at h
 refine PC.start Tryz.func41 Tryz.ntmps41 rfl ok41 rfl ?_
 refine Run.sr (X.bx ?_)
 refine X.an ?_
 refine Run.sr (X.ld shp34 ?_)
 obtain ⟨v1,hv1,h⟩:=bindE h
 refine X.callTr (S0s _ _ hv1) (by rfl) (by rfl) (by rfl) (by trivial) (by rfl) (by rfl) (by rfl) (by rfl) ?_
 refine X.an ?_
 refine Run.sr ?_
 refine X.buildSlice false elt25 zer3 (by rfl) (by rfl) (by rfl) (by rfl) (by rfl) (by rfl) (by repeat (first | trivial | refine ⟨by first | rfl | simp [setL],?_⟩)) (A0w (by rfl)) (by rfl) (by rfl) (by rfl) ?_
 refine X.an ?_
 refine Run.seq (Run.sr (X.mv ?_))
 refine X.lenT (z:=(v1.length:Int)) elt59 (by rfl) (by rfl) (by first | rfl | simp [setL] | omega) (by simp) (by rfl) (by rfl) ?_
 refine X.mn ?_
 obtain ⟨o2,ho2,h⟩:=bindE h
 refine R.join2 (β:=(List Int)) [] [] (fun p32 S=>(6,.own 768 (p32.map int).length)::S) (fun p32 M=>(768,.obj false 3 1 (p32.map int))::M) (fun p32=>p32=o2) ?_ ?_
 ·intro JJ5 hmeet4
  have hup3:=h;clear h;have h:=ho2;clear ho2
  refine Run.block ?_
  refine R.lp (β:=Int×(List Int)) [(1,int b1),(2,.lptr 128 0),(14,int (v1.length:Int))] [(128,.blk true [int b0.Deadline,.slice (b0.Activities.map A0c),.slice (b0.Links.map A0k),.slice (b0.Resources.map A0e),.slice (b0.Stocks.map int)]),(704,.tre 25 1 (v1.map t_int))] (fun bb S=>(5,.tref 704 (v1.map t_int).length .out)::(6,.own 768 (bb.2.map int).length)::(15,int bb.1)::S) (fun bb M=>(768,.obj false 3 1 (bb.2.map int))::M) (fun n bb=>C0j b0 b1 v1 n bb.1 bb.2=some o2) F0 (0,([]:List Int)) h ?_
  clear h
  rintro JJ6 n6 ⟨a8,a9⟩ hag6 h
  dsimp only at h
  obtain _ | n6:=n6
  ·exact absurd h (by simp [C0j])
  rw [C0j] at h
  refine Run.sr (X.bi ?_)
  refine X.nil (Run.seq ?_)
  refine R.cd (fun hc12=>?_) (fun hc12=>?_)
  ·replace h:=condT hc12 h
   refine Run.skip (Run.seq (Run.block (Run.sr (X.mv ?_))))
   refine X.an ?_
   refine Run.sr (X.mv ?_)
   refine X.ld shp34 ?_
   refine X.mv ?_
   obtain ⟨v13,hv13,h⟩:=bindE h
   refine X.cp (M0s _ _ _ hv13) ?_
   refine X.subW (h:=?_)
   refine X.an ?_
   refine Run.seq (Run.sr (X.mv ?_))
   refine X.lenT (z:=(v1.length:Int)) elt59 (by rfl) (by rfl) (by first | rfl | simp [setL] | omega) (by simp) (by rfl) (by rfl) ?_
   refine X.mn ?_
   obtain ⟨o14,ho14,h⟩:=bindE h
   refine R.join2 (β:=Int) [(1,int b1),(2,.lptr 128 0),(14,int (v1.length:Int)),(15,int a8)] [(128,.blk true [int b0.Deadline,.slice (b0.Activities.map A0c),.slice (b0.Links.map A0k),.slice (b0.Resources.map A0e),.slice (b0.Stocks.map int)]),(704,.tre 25 1 (v1.map t_int)),(768,.obj false 3 1 (a9.map int))] (fun p30 S=>(5,.tref 704 (v1.map t_int).length .out)::(6,.own 768 (a9.map int).length)::(8,int p30)::S) (fun p30 M=>M) (fun p30=>p30=o14) ?_ ?_
   ·intro JJ17 hmeet16
    have hup15:=h;clear h;have h:=ho14;clear ho14
    refine Run.block ?_
    refine R.lp (β:=Int×Int) [(1,int b1),(2,.lptr 128 0),(7,int a8),(14,int (v1.length:Int)),(15,int a8),(24,int (v1.length:Int))] [(128,.blk true [int b0.Deadline,.slice (b0.Activities.map A0c),.slice (b0.Links.map A0k),.slice (b0.Resources.map A0e),.slice (b0.Stocks.map int)]),(704,.tre 25 1 (v1.map t_int)),(768,.obj false 3 1 (a9.map int))] (fun bb S=>(5,.tref 704 (v1.map t_int).length .out)::(6,.own 768 (a9.map int).length)::(8,int bb.1)::(25,int bb.2)::S) (fun bb M=>M) (fun n bb=>B0v b0 b1 v1 a8 n bb.1 bb.2=some o14) F0 ((W (b1 - v13)),0) h ?_
    clear h
    rintro JJ18 n18 ⟨a20,a21⟩ hag18 h
    dsimp only at h
    obtain _ | n18:=n18
    ·exact absurd h (by simp [B0v])
    rw [B0v] at h
    refine Run.sr (X.bi ?_)
    refine X.nil (Run.seq ?_)
    refine R.cd (fun hc24=>?_) (fun hc24=>?_)
    ·replace h:=condT hc24 h
     refine Run.skip (Run.seq (Run.block (Run.sr (X.mv ?_))))
     refine X.an ?_
     refine Run.sr (X.mv ?_)
     refine X.mv ?_
     obtain ⟨v25,hv25,h⟩:=bindE h
     refine X.idxT (l:=v1.map t_int) elt59 ⟨(A0a hv25).1,by have h0:=(A0a hv25).1;have h1:=A0o hv25;rw [List.length_map];(try dsimp only);omega⟩ (by first | rfl | simp [setL] | omega) ?_
     refine X.ldRow (sz:=1) shp25 (A0m (off:=0) (by exact A0h (f:=t_int) (fun _=>rfl)) (A0b t_int hv25) (by rfl)) (by first | rfl | simp [setL] | omega) ?_
     refine X.mv ?_
     obtain ⟨v26,hv26,h⟩:=bindE h
     refine X.idxR (l:=v1.map t_int) (rl:=v25.map int) elt25 (A0m (off:=0) (by exact A0h (f:=t_int) (fun _=>rfl)) (A0b t_int hv25) (by rfl)) ⟨(A0a hv26).1,by have h0:=(A0a hv26).1;have h1:=A0o hv26;rw [List.length_map];(try dsimp only);omega⟩ (by first | rfl | simp [setL] | omega) ?_
     refine X.ldE (sz2:=1) shp3 (A0m (off:=0) (by exact A0h (f:=t_int) (fun _=>rfl)) (A0b t_int hv25) (by rfl)) (A0m (off:=0) (by exact A0h (f:=int) (fun _=>rfl)) (A0b int hv26) (by rfl)) (by first | rfl | simp [setL] | omega) ?_
     refine X.bi ?_
     refine X.nil ?_
     refine R.cd (fun hc27=>?_) (fun hc27=>?_)
     ·replace h:=condT hc27 h
      refine Run.draw (D0a [(2,([128],[],[],[])),(8,([704],[],[],[])),(9,([704],[],[],[])),(11,([704],[],[],[])),(12,([704],[],[],[]))]) mixed (by kernel_rfl) (by kernel_rfl) ?_
      refine X.mv ?_
      refine X.mv ?_
      refine X.ld shp34 ?_
      refine X.mv ?_
      obtain ⟨v28,hv28,h⟩:=bindE h
      refine X.cp (M0s _ _ _ hv28) ?_
      refine X.subW (h:=?_)
      refine X.mv ?_
      refine X.mv ?_
      refine X.idxT (l:=v1.map t_int) elt59 ⟨(A0a hv25).1,by have h0:=(A0a hv25).1;have h1:=A0o hv25;rw [List.length_map];(try dsimp only);omega⟩ (by first | rfl | simp [setL] | omega) ?_
      refine X.ldRow (sz:=1) shp25 (A0m (off:=0) (by exact A0h (f:=t_int) (fun _=>rfl)) (A0b t_int hv25) (by rfl)) (by first | rfl | simp [setL] | omega) ?_
      refine X.mv ?_
      refine X.idxR (l:=v1.map t_int) (rl:=v25.map int) elt25 (A0m (off:=0) (by exact A0h (f:=t_int) (fun _=>rfl)) (A0b t_int hv25) (by rfl)) ⟨(A0a hv26).1,by have h0:=(A0a hv26).1;have h1:=A0o hv26;rw [List.length_map];(try dsimp only);omega⟩ (by first | rfl | simp [setL] | omega) ?_
      refine X.ldE (sz2:=1) shp3 (A0m (off:=0) (by exact A0h (f:=t_int) (fun _=>rfl)) (A0b t_int hv25) (by rfl)) (A0m (off:=0) (by exact A0h (f:=int) (fun _=>rfl)) (A0b int hv26) (by rfl)) (by first | rfl | simp [setL] | omega) ?_
      refine X.subW (h:=?_)
      obtain ⟨v29,hv29,h⟩:=bindE h
      refine X.cp (E1v _ _ _ hv29) ?_
      refine X.an ?_
      refine Run.blk (Run.reg (X.addW (h:=?_)))
      refine X.mn ?_
      exact hag18 n18 (v29,(W (a21+1))) _ _ (by omega) h (by repeat (first | trivial | refine ⟨by first | rfl | simp [setL],?_⟩)) (by repeat (first | trivial | refine ⟨by first | rfl | simp [setL],?_⟩)) (by rfl) (by rfl)
     replace h:=condF hc27 h
     refine Run.skip (Run.blk (Run.reg (X.addW (h:=?_))))
     refine X.mn ?_
     exact hag18 n18 (a20,(W (a21+1))) _ _ (by omega) h (by repeat (first | trivial | refine ⟨by first | rfl | simp [setL],?_⟩)) (by repeat (first | trivial | refine ⟨by first | rfl | simp [setL],?_⟩)) (by rfl) (by rfl)
    replace h:=condF hc24 h
    refine Run.exit (by rfl) ?_
    exact R.mt hmeet16 a20 (Option.some.inj h)
   rintro p30 rfl
   refine Run.reg (X.mv ?_)
   refine X.mv ?_
   refine X.buildSlice false elt25 zer3 (by rfl) (by rfl) (by rfl) (by rfl) (by rfl) (by rfl) (by repeat (first | trivial | refine ⟨by first | rfl | simp [setL],?_⟩)) (A0w (by rfl)) (by rfl) (by rfl) (by rfl) ?_
   obtain ⟨v31,hv31,h⟩:=bindE h
   refine X.append elt25 zer3 (by rfl) (by rfl) (by first | rfl | simp [setL] | omega) (by rfl) (.own _ _ _ _ _ _ (A0f (by rfl)) (by first | rfl | simp [setL] | omega)) (A0w (by rfl)) (G0u int hv31) (G0t int hv31) (by rfl) (by rfl) (by rfl) (by rfl) ?_
   refine X.an ?_
   refine Run.blk (Run.reg (X.addW (h:=?_)))
   refine X.mn ?_
   exact hag6 n6 ((W (a8+1)),v31) _ _ (by omega) h (by repeat (first | trivial | refine ⟨by first | rfl | simp [setL],?_⟩)) (by repeat (first | trivial | refine ⟨by first | rfl | simp [setL],?_⟩)) (by rfl) (by rfl)
  replace h:=condF hc12 h
  refine Run.exit (by rfl) ?_
  exact R.mt hmeet4 a9 (Option.some.inj h)
 rintro p32 rfl
 refine Run.sr (X.mv ?_)
 refine X.an ?_
 cases h
 refine R.fin1o Tryz.results41 (by rfl) (by rfl) (by first | rfl | simp [setL] | omega) ?_
 rfl
theorem W0j (b0:Int)(r:ByteArray)(h:J0y b0=some r):PC Tryz.prog 42 [int b0] (str r):=by
 unfold J0y at h
 refine PC.start Tryz.func42 Tryz.ntmps42 rfl ok42 rfl ?_
 refine Run.sr (X.an ?_)
 refine Run.seq (Run.sr (X.mv ?_))
 obtain ⟨v1,hv1,h⟩:=bindE h
 refine X.cp (C0p _ _ _ _ hv1) ?_
 refine X.un (h:=?_)
 refine X.nil ?_
 refine R.cd (fun hc2=>?_) (fun hc2=>?_)
 ·replace h:=condT hc2 h
  refine Run.sr (X.an ?_)
  cases h
  refine R.f1 Tryz.results42 ?_
  rfl
 replace h:=condF hc2 h
 refine Run.skip (Run.sr ?_)
 refine X.buildSlice false K1t zer9 (by rfl) (by rfl) (by rfl) (by rfl) (by rfl) (by rfl) (by repeat (first | trivial | refine ⟨by first | rfl | simp [setL],?_⟩)) (A0w (by rfl)) (by rfl) (by rfl) (by rfl) ?_
 refine X.mv ?_
 obtain ⟨v3,hv3,h⟩:=bindE h
 refine X.index_o K1t (by rfl) (by rfl) (by first | rfl | simp [setL] | omega) (by rfl) (A0a hv3).1 (A0b str hv3) (by rfl) (by rfl) (by rfl) ?_
 refine X.lc shp9 ?_
 refine X.an ?_
 cases h
 refine R.f1 Tryz.results42 ?_
 rfl
theorem Y0g (b0:A0d)(b1:Int)(r:Int)(h:K0s b0 b1=some r):PC Tryz.prog 92 [A0v b0,int b1] (int r):=by
 unfold K0s at h
 refine PC.start Tryz.func92 Tryz.ntmps92 rfl ok92 rfl ?_
 refine Run.sr (X.bx ?_)
 refine X.an ?_
 refine Run.sr (X.ld shp34 ?_)
 obtain ⟨v1,hv1,h⟩:=bindE h
 refine X.callTr (S0s _ _ hv1) (by rfl) (by rfl) (by rfl) (by trivial) (by rfl) (by rfl) (by rfl) (by rfl) ?_
 refine X.an ?_
 refine Run.seq (Run.sr (X.mv ?_))
 refine X.mv ?_
 refine X.lenT (z:=(v1.length:Int)) elt59 (by rfl) (by rfl) (by first | rfl | simp [setL] | omega) (by simp) (by rfl) (by rfl) ?_
 refine X.subW (h:=?_)
 obtain ⟨v2,hv2,h⟩:=bindE h
 refine X.cp (C0p _ _ _ _ hv2) ?_
 refine X.un (h:=?_)
 refine X.nil ?_
 refine R.cd (fun hc3=>?_) (fun hc3=>?_)
 ·replace h:=condT hc3 h
  refine Run.sr (X.an ?_)
  cases h
  refine R.f1 Tryz.results92 ?_
  rfl
 replace h:=condF hc3 h
 refine Run.skip (Run.sr (X.an ?_))
 refine Run.seq (Run.sr (X.mv ?_))
 refine X.lenT (z:=(v1.length:Int)) elt59 (by rfl) (by rfl) (by first | rfl | simp [setL] | omega) (by simp) (by rfl) (by rfl) ?_
 refine X.mn ?_
 obtain ⟨o4,ho4,h⟩:=bindE h
 refine R.join2 (β:=Int) [] [] (fun p20 S=>(6,int p20)::S) (fun p20 M=>M) (fun p20=>p20=o4) ?_ ?_
 ·intro JJ7 hmeet6
  have hup5:=h;clear h;have h:=ho4;clear ho4
  refine Run.block ?_
  refine R.lp (β:=Int×Int) [(1,int b1),(2,.lptr 128 0),(17,int (v1.length:Int))] [(128,.blk true [int b0.Deadline,.slice (b0.Activities.map A0c),.slice (b0.Links.map A0k),.slice (b0.Resources.map A0e),.slice (b0.Stocks.map int)]),(576,.tre 25 1 (v1.map t_int))] (fun bb S=>(5,.tref 576 (v1.map t_int).length .out)::(6,int bb.1)::(18,int bb.2)::S) (fun bb M=>M) (fun n bb=>C0t b0 b1 v1 n bb.1 bb.2=some o4) F0 (0,0) h ?_
  clear h
  rintro JJ8 n8 ⟨a10,a11⟩ hag8 h
  dsimp only at h
  obtain _ | n8:=n8
  ·exact absurd h (by simp [C0t])
  rw [C0t] at h
  refine Run.sr (X.bi ?_)
  refine X.nil (Run.seq ?_)
  refine R.cd (fun hc14=>?_) (fun hc14=>?_)
  ·replace h:=condT hc14 h
   refine Run.skip (Run.seq (Run.block (Run.sr (X.mv ?_))))
   refine X.an ?_
   refine Run.sr (X.mv ?_)
   refine X.mv ?_
   obtain ⟨v15,hv15,h⟩:=bindE h
   refine X.idxT (l:=v1.map t_int) elt59 ⟨(A0a hv15).1,by have h0:=(A0a hv15).1;have h1:=A0o hv15;rw [List.length_map];(try dsimp only);omega⟩ (by first | rfl | simp [setL] | omega) ?_
   refine X.ldRow (sz:=1) shp25 (A0m (off:=0) (by exact A0h (f:=t_int) (fun _=>rfl)) (A0b t_int hv15) (by rfl)) (by first | rfl | simp [setL] | omega) ?_
   refine X.mv ?_
   obtain ⟨v16,hv16,h⟩:=bindE h
   refine X.idxR (l:=v1.map t_int) (rl:=v15.map int) elt25 (A0m (off:=0) (by exact A0h (f:=t_int) (fun _=>rfl)) (A0b t_int hv15) (by rfl)) ⟨(A0a hv16).1,by have h0:=(A0a hv16).1;have h1:=A0o hv16;rw [List.length_map];(try dsimp only);omega⟩ (by first | rfl | simp [setL] | omega) ?_
   refine X.ldE (sz2:=1) shp3 (A0m (off:=0) (by exact A0h (f:=t_int) (fun _=>rfl)) (A0b t_int hv15) (by rfl)) (A0m (off:=0) (by exact A0h (f:=int) (fun _=>rfl)) (A0b int hv16) (by rfl)) (by first | rfl | simp [setL] | omega) ?_
   refine X.bi ?_
   refine X.nil ?_
   refine R.cd (fun hc17=>?_) (fun hc17=>?_)
   ·replace h:=condT hc17 h
    refine Run.draw (D0a [(3,([576],[],[],[])),(4,([576],[],[],[])),(6,([576],[],[],[])),(7,([576],[],[],[])),(8,([128],[],[],[]))]) mixed (by kernel_rfl) (by kernel_rfl) ?_
    refine X.mv ?_
    refine X.mv ?_
    refine X.mv ?_
    refine X.idxT (l:=v1.map t_int) elt59 ⟨(A0a hv15).1,by have h0:=(A0a hv15).1;have h1:=A0o hv15;rw [List.length_map];(try dsimp only);omega⟩ (by first | rfl | simp [setL] | omega) ?_
    refine X.ldRow (sz:=1) shp25 (A0m (off:=0) (by exact A0h (f:=t_int) (fun _=>rfl)) (A0b t_int hv15) (by rfl)) (by first | rfl | simp [setL] | omega) ?_
    refine X.mv ?_
    refine X.idxR (l:=v1.map t_int) (rl:=v15.map int) elt25 (A0m (off:=0) (by exact A0h (f:=t_int) (fun _=>rfl)) (A0b t_int hv15) (by rfl)) ⟨(A0a hv16).1,by have h0:=(A0a hv16).1;have h1:=A0o hv16;rw [List.length_map];(try dsimp only);omega⟩ (by first | rfl | simp [setL] | omega) ?_
    refine X.ldE (sz2:=1) shp3 (A0m (off:=0) (by exact A0h (f:=t_int) (fun _=>rfl)) (A0b t_int hv15) (by rfl)) (A0m (off:=0) (by exact A0h (f:=int) (fun _=>rfl)) (A0b int hv16) (by rfl)) (by first | rfl | simp [setL] | omega) ?_
    refine X.ld shp34 ?_
    refine X.mv ?_
    obtain ⟨v18,hv18,h⟩:=bindE h
    refine X.cp (M0s _ _ _ hv18) ?_
    refine X.addW (h:=?_)
    obtain ⟨v19,hv19,h⟩:=bindE h
    refine X.cp (T0e _ _ _ hv19) ?_
    refine X.an ?_
    refine Run.blk (Run.reg (X.addW (h:=?_)))
    refine X.mn ?_
    exact hag8 n8 (v19,(W (a11+1))) _ _ (by omega) h (by repeat (first | trivial | refine ⟨by first | rfl | simp [setL],?_⟩)) (by repeat (first | trivial | refine ⟨by first | rfl | simp [setL],?_⟩)) (by rfl) (by rfl)
   replace h:=condF hc17 h
   refine Run.skip (Run.blk (Run.reg (X.addW (h:=?_))))
   refine X.mn ?_
   exact hag8 n8 (a10,(W (a11+1))) _ _ (by omega) h (by repeat (first | trivial | refine ⟨by first | rfl | simp [setL],?_⟩)) (by repeat (first | trivial | refine ⟨by first | rfl | simp [setL],?_⟩)) (by rfl) (by rfl)
  replace h:=condF hc14 h
  refine Run.exit (by rfl) ?_
  exact R.mt hmeet6 a10 (Option.some.inj h)
 rintro p20 rfl
 refine Run.sr (X.mv ?_)
 refine X.an ?_
 cases h
 refine R.f1 Tryz.results92 ?_
 rfl
theorem Z0t (b0:A0d)(b1:Int)(b2:List Int)(b3:Int)(r:Int)(h:K0a b0 b1 b2 b3=some r):PC Tryz.prog 43 [A0v b0,int b1,.slice (b2.map int),int b3] (int r):=by
 unfold K0a at h
 refine PC.start Tryz.func43 Tryz.ntmps43 rfl ok43 rfl ?_
 refine Run.sr (X.bx ?_)
 refine X.an ?_
 refine Run.seq (Run.sr (X.mn ?_))
 refine Run.block (Run.sr (X.bi ?_))
 refine X.an ?_
 refine R.cd (fun hc1=>?_) (fun hc1=>?_)
 ·replace h:=condT hc1 h
  refine Run.sr (X.mv ?_)
  refine X.mv ?_
  obtain ⟨v2,hv2,h⟩:=bindE h
  refine X.ix elt25 (A0a hv2).1 (A0b int hv2) ?_
  refine X.lc shp3 ?_
  refine X.an ?_
  cases h
  refine R.f1 Tryz.results43 ?_
  rfl
 replace h:=condF hc1 h
 refine Run.sr (X.bi ?_)
 refine X.an ?_
 refine R.cd (fun hc3=>?_) (fun hc3=>?_)
 ·replace h:=condT hc3 h
  refine Run.sr (X.ld shp34 ?_)
  refine X.mv ?_
  obtain ⟨v4,hv4,h⟩:=bindE h
  refine X.cp (Y0g _ _ _ hv4) ?_
  refine X.un (h:=?_)
  refine X.an ?_
  cases h
  refine R.f1 Tryz.results43 ?_
  rfl
 replace h:=condF hc3 h
 refine Run.sr (X.bi ?_)
 refine X.an ?_
 refine R.cd (fun hc5=>?_) (fun hc5=>?_)
 ·replace h:=condT hc5 h
  refine Run.sr (X.ld shp34 ?_)
  refine X.mv ?_
  obtain ⟨v6,hv6,h⟩:=bindE h
  refine X.cp (M0s _ _ _ hv6) ?_
  refine X.an ?_
  cases h
  refine R.f1 Tryz.results43 ?_
  rfl
 replace h:=condF hc5 h
 refine Run.skip (Run.blk (Run.sr (X.mv ?_)))
 refine X.an ?_
 cases h
 refine R.f1 Tryz.results43 ?_
 rfl
theorem U0v (b0:A0d)(b1:Int)(r:List Int)(h:H0f b0 b1=some r):PC Tryz.prog 11 [A0v b0,int b1] (.slice (r.map int)):=by
 unfold H0f at h
 refine PC.start Tryz.func11 Tryz.ntmps11 rfl ok11 rfl ?_
 refine Run.sr (X.bx ?_)
 refine X.an ?_
 refine Run.sr (X.ld shp34 ?_)
 refine X.fl T0l ?_
 refine X.ld shp3 ?_
 obtain ⟨v1,hv1,h⟩:=bindE h
 refine X.callF (W0d _ _ _ hv1) (by rfl) (by rfl) (by rfl) (by trivial) (by rfl) (by rfl) (by rfl) (by rfl) ?_
 refine X.an ?_
 refine Run.sr ?_
 refine X.buildSlice false elt25 zer3 (by rfl) (by rfl) (by rfl) (by rfl) (by rfl) (by rfl) (by repeat (first | trivial | refine ⟨by first | rfl | simp [setL],?_⟩)) (A0w (by rfl)) (by rfl) (by rfl) (by rfl) ?_
 refine X.an ?_
 refine Run.seq (Run.seq ?_)
 obtain ⟨v2,hv2,h⟩:=bindE h
 obtain ⟨e3,he3,h2⟩:=bindE h
 refine R.regG [(1,int b1),(2,.lptr 128 0),(5,.own 832 (v1.map int).length),(6,.own 896 (([]:List Int).map int).length),(22,bool e3)] [(128,.blk true [int b0.Deadline,.slice (b0.Activities.map A0c),.slice (b0.Links.map A0k),.slice (b0.Resources.map A0e),.slice (b0.Stocks.map int)]),(832,.obj false 3 1 (v1.map int)),(896,.obj false 3 1 (([]:List Int).map int))] ?_ ?_
 ·clear h;have h:=he3;clear he3 h2
  refine X.mv ?_
  refine X.cp (W0j _ _ hv2) ?_
  refine X.bi ?_
  refine X.mv ?_
  refine X.iG (fun hb4=>?_) (fun hb4=>?_)
  ·replace h:=condF hb4 h
   refine X.mv ?_
   refine X.gy (X.len_o elt25 (by rfl) (by rfl) (by first | rfl | simp [setL] | omega) (by first | exact List.length_map .. | rfl) (by rfl) (by rfl) ?_)
   refine X.gy (X.bi ?_)
   refine X.pF ?_
   cases h
   exact X.eG
  replace h:=condT hb4 h
  refine X.gn (X.gn (X.pT ?_))
  cases h
  exact X.eG
 replace h:=h2;clear h2
 refine R.cd (fun hc5=>?_) (fun hc5=>?_)
 ·replace h:=condT hc5 h
  refine Run.sr (X.an ?_)
  cases h
  refine R.castS (t:=4) (.slice []) (by rfl) (.inr (.inl ⟨rfl,rfl⟩)) ?_
  refine R.f1 Tryz.results11 ?_
  rfl
 replace h:=condF hc5 h
 refine Run.skip (Run.seq (Run.sr (X.fl D0p ?_)))
 refine X.ld shp30 ?_
 refine X.ls elt30 ?_
 refine X.mn ?_
 obtain ⟨o6,ho6,h⟩:=bindE h
 refine R.join2 (β:=(List Int)) [] [] (fun p38 S=>(6,.slice (p38.map int))::S) (fun p38 M=>M) (fun p38=>p38=o6) ?_ ?_
 ·intro JJ9 hmeet8
  have hup7:=h;clear h;have h:=ho6;clear ho6
  refine Run.block (R.castS (t:=6) _ (by rfl) (.inr (.inr ⟨_,_,_,_,_,rfl,(by rfl),(by first | rfl | simp [setL] | omega),rfl⟩)) ?_)
  refine R.bndS (t:=24) (by rfl) (fun hbd12=>?_)
  replace hbd12:b0.Activities.length≤9223372036854775807:=by first | (rw [List.length_map] at hbd12;exact hbd12) | simp
  refine R.lp (β:=Int×(List Int)) [(1,int b1),(2,.lptr 128 0),(25,int (b0.Activities.length:Int))] [(128,.blk true [int b0.Deadline,.slice (b0.Activities.map A0c),.slice (b0.Links.map A0k),.slice (b0.Resources.map A0e),.slice (b0.Stocks.map int)]),(832,.obj false 3 1 (v1.map int))] (fun bb S=>(5,.own 832 (v1.map int).length)::(6,.slice (bb.2.map int))::(26,int bb.1)::S) (fun bb M=>M) (fun n bb=>0≤bb.1∧bb.1+n=(b0.Activities.length:Int)∧C0o b0 b1 v1 (b0.Activities.drop bb.1.toNat) bb.1 bb.2=some o6) b0.Activities.length (0,([]:List Int)) ⟨Int.le_refl _,by simp,h⟩ ?_
  clear h
  rintro JJ12 n12 ⟨z13,a14⟩ hag12 ⟨hza12,hzb12,h⟩
  dsimp only at hza12 hzb12 h
  refine Run.sr (X.bi ?_)
  refine X.nil (Run.seq ?_)
  refine R.cd (fun hc17=>?_) (fun hc17=>?_)
  ·obtain ⟨x15,xs16,hd12,hx12,hds12,hlt12⟩:=A0q hza12 hc17
   rw [hd12] at h
   rw [C0o] at h
   refine Run.skip (Run.seq (Run.block (Run.sr (X.mv ?_))))
   refine X.an ?_
   refine Run.sr (X.mv ?_)
   refine X.ls elt25 ?_
   refine X.an ?_
   refine Run.seq ?_
   obtain ⟨o18,ho18,h⟩:=bindE h
   refine R.join2 (β:=Int) [(1,int b1),(2,.lptr 128 0),(6,.slice (a14.map int)),(7,int z13),(25,int (b0.Activities.length:Int)),(26,int z13)] [(128,.blk true [int b0.Deadline,.slice (b0.Activities.map A0c),.slice (b0.Links.map A0k),.slice (b0.Resources.map A0e),.slice (b0.Stocks.map int)]),(832,.obj false 3 1 (v1.map int))] (fun p32 S=>(5,.own 832 (v1.map int).length)::(8,int p32)::S) (fun p32 M=>M) (fun p32=>p32=o18) ?_ ?_
   ·intro JJ21 hmeet20
    have hup19:=h;clear h;have h:=ho18;clear ho18
    refine Run.block ?_
    refine R.lp (β:=Int) [(1,int b1),(2,.lptr 128 0),(6,.slice (a14.map int)),(7,int z13),(25,int (b0.Activities.length:Int)),(26,int z13)] [(128,.blk true [int b0.Deadline,.slice (b0.Activities.map A0c),.slice (b0.Links.map A0k),.slice (b0.Resources.map A0e),.slice (b0.Stocks.map int)]),(832,.obj false 3 1 (v1.map int))] (fun bb S=>(5,.own 832 (v1.map int).length)::(8,int bb)::S) (fun bb M=>M) (fun n bb=>C0n b0 b1 v1 a14 z13 n bb=some o18) F0 (a14.length:Int) h ?_
    clear h
    rintro JJ21 n21 a23 hag21 h
    obtain _ | n21:=n21
    ·exact absurd h (by simp [C0n])
    rw [C0n] at h
    refine Run.seq (Run.seq ?_)
    obtain ⟨e26,he26,h2⟩:=bindE h
    refine R.drawG [(1,int b1),(2,.lptr 128 0),(5,.own 832 (v1.map int).length),(6,.slice (a14.map int)),(7,int z13),(8,int a23),(25,int (b0.Activities.length:Int)),(26,int z13),(49,bool e26)] [(128,.blk true [int b0.Deadline,.slice (b0.Activities.map A0c),.slice (b0.Links.map A0k),.slice (b0.Resources.map A0e),.slice (b0.Stocks.map int)]),(832,.obj false 3 1 (v1.map int))] (D0a [(3,([128],[],[],[])),(11,([832],[],[],[])),(12,([128],[],[],[])),(16,([832],[],[],[]))]) mixed (by kernel_rfl) (by kernel_rfl) ?_ ?_
    ·clear h;have h:=he26;clear he26 h2
     refine X.mv ?_
     refine X.bi ?_
     refine X.mv ?_
     refine X.iG (fun hb27=>?_) (fun hb27=>?_)
     ·replace h:=condT hb27 h
      refine X.ld shp34 ?_
      refine X.gy (X.mv ?_)
      refine X.gy (X.mv ?_)
      refine X.gy (X.mv ?_)
      refine X.gy (X.mv ?_)
      refine X.gy (X.subW (h:=?_))
      refine X.gy ?_
      obtain ⟨v28,hv28,h⟩:=bindE h
      refine X.ix elt25 (A0a hv28).1 (A0b int hv28) ?_
      refine X.gy (X.lc shp3 ?_)
      refine X.gy ?_
      obtain ⟨v29,hv29,h⟩:=bindE h
      refine X.cp (Z0t _ _ _ _ _ hv29) ?_
      refine X.gy (X.ld shp34 ?_)
      refine X.gy (X.mv ?_)
      refine X.gy (X.mv ?_)
      refine X.gy (X.mv ?_)
      refine X.gy ?_
      obtain ⟨v30,hv30,h⟩:=bindE h
      refine X.cp (Z0t _ _ _ _ _ hv30) ?_
      refine X.gy (X.bi ?_)
      refine X.pT ?_
      cases h
      exact X.eG
     replace h:=condF hb27 h
     refine X.gn (X.gn (X.gn (X.gn (X.gn (X.gn (X.gn (X.gn ?_)))))))
     refine X.gn (X.gn (X.gn (X.gn (X.gn (X.gn (X.pF ?_))))))
     cases h
     exact X.eG
    replace h:=h2;clear h2
    refine R.cd (fun hc31=>?_) (fun hc31=>?_)
    ·replace h:=condT hc31 h
     refine Run.skip (Run.block (Run.reg (X.mv ?_)))
     refine X.subW (h:=?_)
     refine X.an ?_
     refine Run.blk ?_
     exact hag21 n21 (W (a23 - 1)) _ _ (by omega) h (by repeat (first | trivial | refine ⟨by first | rfl | simp [setL],?_⟩)) (by repeat (first | trivial | refine ⟨by first | rfl | simp [setL],?_⟩)) (by rfl) (by rfl)
    replace h:=condF hc31 h
    refine Run.exit (by rfl) ?_
    exact R.mt hmeet20 a23 (Option.some.inj h)
   rintro p32 rfl
   refine Run.sr ?_
   refine X.buildSlice false elt25 zer3 (by rfl) (by rfl) (by rfl) (by rfl) (by rfl) (by rfl) (by repeat (first | trivial | refine ⟨by first | rfl | simp [setL],?_⟩)) (A0w (by rfl)) (by rfl) (by rfl) (by rfl) ?_
   refine X.mv ?_
   refine X.mv ?_
   obtain ⟨v33,hv33,h⟩:=bindE h
   refine X.sliceS2 elt25 (by rfl) (by exact A0h (f:=int) (fun _=>rfl)) (by rfl) ⟨_,by rfl⟩ (F1r _ hv33) (B1x _ hv33) (by rfl) ?_
   obtain ⟨v34,hv34,h⟩:=bindE h
   refine X.append elt25 zer3 (by rfl) (by rfl) (by first | rfl | simp [setL] | omega) (by rfl) (.pure _) (by exact A0h (f:=int) (fun _=>rfl)) (G0u int hv34) (G0t int hv34) (by rfl) (by rfl) (by rfl) (by rfl) ?_
   refine X.an ?_
   refine Run.sr (X.mv ?_)
   refine X.mv ?_
   refine X.buildSlice false elt25 zer3 (by rfl) (by rfl) (by rfl) (by rfl) (by rfl) (by rfl) (by repeat (first | trivial | refine ⟨by first | rfl | simp [setL],?_⟩)) (A0w (by rfl)) (by rfl) (by rfl) (by rfl) ?_
   obtain ⟨v35,hv35,h⟩:=bindE h
   refine X.append elt25 zer3 (by rfl) (by rfl) (by first | rfl | simp [setL] | omega) (by rfl) (.own _ _ _ _ _ _ (A0f (by rfl)) (by first | rfl | simp [setL] | omega)) (A0w (by rfl)) (G0u int hv35) (G0t int hv35) (by rfl) (by rfl) (by rfl) (by rfl) ?_
   refine X.an ?_
   refine Run.reg (X.mv ?_)
   refine X.mv ?_
   refine X.mv ?_
   obtain ⟨v36,hv36,h⟩:=bindE h
   refine X.sliceS2 elt25 (by rfl) (by exact A0h (f:=int) (fun _=>rfl)) ⟨_,by rfl⟩ (by first | rfl | simp [Bound]) (F1r _ hv36) (B1x _ hv36) (by rfl) ?_
   obtain ⟨v37,hv37,h⟩:=bindE h
   refine X.append elt25 zer3 (by rfl) (by rfl) (by first | rfl | simp [setL] | omega) (by rfl) (.pure _) (by exact A0h (f:=int) (fun _=>rfl)) (G0u int hv37) (G0t int hv37) (by rfl) (by rfl) (by rfl) (by rfl) ?_
   refine X.an ?_
   refine Run.blk (Run.reg (X.ad ?_))
   refine X.mn ?_
   refine R.castS (t:=6) _ (by rfl) (.inr (.inr ⟨_,_,_,_,_,rfl,(by rfl),(by first | rfl | simp [setL] | omega),rfl⟩)) ?_
   exact R.ag hag12 (n12 - 1) (z13+1,v37) (R.n3 (by first | (rw [hds12];exact h) | (dsimp only;rw [hds12];exact h)))
  rw [A0j hza12 hc17] at h
  rw [C0o] at h
  refine Run.exit (by rfl) ?_
  exact R.mt hmeet8 a14 (Option.some.inj h)
 rintro p38 rfl
 refine Run.sr (X.mv ?_)
 refine X.an ?_
 cases h
 refine R.f1 Tryz.results11 ?_
 rfl
theorem R0d (b0:Int)(r:Bool)(h:L0e b0=some r):PC Tryz.prog 137 [int b0] (bool r):=by
 unfold L0e at h
 refine PC.start Tryz.func137 Tryz.ntmps137 rfl ok137 rfl ?_
 refine Run.sr (X.an ?_)
 refine Run.sr (X.mv ?_)
 refine X.mv ?_
 refine X.bi ?_
 refine X.an ?_
 cases h
 refine R.f1 Tryz.results137 ?_
 rfl
theorem W0a (b0:Int)(b1:Int)(r:Int)(h:J0k b0 b1=some r):PC Tryz.prog 98 [int b0,int b1] (int r):=by
 unfold J0k at h
 refine PC.start Tryz.func98 Tryz.ntmps98 rfl ok98 rfl ?_
 refine Run.sr (X.an ?_)
 refine Run.sr (X.mv ?_)
 obtain ⟨v1,hv1,h⟩:=bindE h
 refine X.cp (R0d _ _ hv1) ?_
 refine X.an ?_
 refine Run.sr (X.mv ?_)
 obtain ⟨v2,hv2,h⟩:=bindE h
 refine X.cp (R0d _ _ hv2) ?_
 refine X.an ?_
 refine Run.seq (Run.sr (X.mn ?_))
 refine R.cd (fun hc3=>?_) (fun hc3=>?_)
 ·replace h:=condT hc3 h
  refine Run.seq (Run.sr (X.mn ?_))
  refine R.cd (fun hc4=>?_) (fun hc4=>?_)
  ·replace h:=condT hc4 h
   refine Run.sr (X.an ?_)
   cases h
   refine R.f1 Tryz.results98 ?_
   rfl
  replace h:=condF hc4 h
  refine Run.skip (Run.sr (X.an ?_))
  cases h
  refine R.f1 Tryz.results98 ?_
  rfl
 replace h:=condF hc3 h
 refine Run.skip (Run.seq (Run.sr (X.mn ?_)))
 refine R.cd (fun hc5=>?_) (fun hc5=>?_)
 ·replace h:=condT hc5 h
  refine Run.sr (X.an ?_)
  cases h
  refine R.f1 Tryz.results98 ?_
  rfl
 replace h:=condF hc5 h
 refine Run.skip (Run.seq (Run.sr (X.mv ?_)))
 refine X.mv ?_
 refine X.bi ?_
 refine X.nil ?_
 refine R.cd (fun hc6=>?_) (fun hc6=>?_)
 ·replace h:=condT hc6 h
  refine Run.sr (X.an ?_)
  cases h
  refine R.f1 Tryz.results98 ?_
  rfl
 replace h:=condF hc6 h
 refine Run.skip (Run.seq (Run.sr (X.mv ?_)))
 refine X.mv ?_
 refine X.bi ?_
 refine X.nil ?_
 refine R.cd (fun hc7=>?_) (fun hc7=>?_)
 ·replace h:=condT hc7 h
  refine Run.sr (X.an ?_)
  cases h
  refine R.f1 Tryz.results98 ?_
  rfl
 replace h:=condF hc7 h
 refine Run.skip (Run.sr (X.an ?_))
 cases h
 refine R.f1 Tryz.results98 ?_
 rfl
theorem R0s (b0:Int)(b1:Int)(g2:Int→Option Int)(g2id:Nat)(g2c:List PV)(hg2:∀(x0:Int) v,g2 x0=some v→PCx Tryz.prog g2id [int x0] g2c (int v))(r:Int)(h:E0v b0 b1 g2=some r):PC Tryz.prog 97 [int b0,int b1,.cptr [.fn g2id g2c] 0] (int r):=by
 unfold E0v at h
 refine PC.start Tryz.func97 Tryz.ntmps97 rfl ok97 rfl ?_
 refine Run.sr (X.an ?_)
 refine Run.seq (Run.draw (D0a []) mixed (by kernel_rfl) (by kernel_rfl) ?_)
 refine X.lc shp70 ?_
 refine X.mv ?_
 obtain ⟨v1,hv1,h⟩:=bindE h
 refine X.callPx (hg2 _ _ hv1) (by rfl) (by rfl) (by rfl) (by rfl) (by rfl) (by rfl) ?_
 refine X.lc shp70 ?_
 refine X.mv ?_
 obtain ⟨v2,hv2,h⟩:=bindE h
 refine X.callPx (hg2 _ _ hv2) (by rfl) (by rfl) (by rfl) (by rfl) (by rfl) (by rfl) ?_
 obtain ⟨v3,hv3,h⟩:=bindE h
 refine X.cp (W0a _ _ _ hv3) ?_
 refine X.an ?_
 cases h
 refine R.f1 Tryz.results97 ?_
 rfl
theorem F0v (b0:List Int)(b1:Int)(b2:Int)(g3:Int→Int→Option Int)(g3id:Nat)(g3c:List PV)(hg3:∀(x0:Int) (x1:Int) v,g3 x0 x1=some v→PC Tryz.prog g3id ([int x0,int x1] ++ g3c) (int v))(r:(List Int))(h:B0e b0 b1 b2 g3=some r):PCM Tryz.prog 154 [.own 63 (b0.map int).length,int b1,int b2,.fn g3id g3c] [(63,.obj true 3 1 (b0.map int))] (.tuple []) [(63,.obj true 3 1 (r.map int))]:=by
 unfold B0e at h
 refine PCM.start Tryz.func154 Tryz.ntmps154 rfl ok154 rfl (by rfl) (by rfl) (by rfl) (by rfl) (by rfl) ?_
 refine Run.sr (X.mv ?_)
 refine X.addW (h:=?_)
 refine X.an ?_
 obtain ⟨o1,ho1,h⟩:=bindE h
 refine R.join2 (β:=(List Int)) [] [] (fun p30 S=>S) (fun p30 M=>(63,.obj true 3 1 (p30.map int))::M) (fun p30=>p30=o1) ?_ ?_
 ·intro JJ4 hmeet3
  have hup2:=h;clear h;have h:=ho1;clear ho1
  refine Run.block ?_
  refine R.lp (β:=Int×(List Int)) [(1,int b1),(2,int b2),(3,.fn g3id g3c)] [] (fun bb S=>(0,.own 63 (bb.2.map int).length)::(8,int bb.1)::S) (fun bb M=>(63,.obj true 3 1 (bb.2.map int))::M) (fun n bb=>A0p b1 b2 g3 n bb.1 bb.2=some o1) F0 ((W (b1+1)),b0) h ?_
  clear h
  rintro JJ4 n4 ⟨a6,a7⟩ hag4 h
  dsimp only at h
  obtain _ | n4:=n4
  ·exact absurd h (by simp [A0p])
  rw [A0p] at h
  refine Run.seq (Run.sr (X.mv ?_))
  refine X.mv ?_
  refine X.bi ?_
  refine X.nil ?_
  refine R.cd (fun hc10=>?_) (fun hc10=>?_)
  ·replace h:=condT hc10 h
   refine Run.skip (Run.seq (Run.block (Run.sr (X.mv ?_))))
   refine X.an ?_
   obtain ⟨o11,ho11,h⟩:=bindE h
   refine R.join2 (β:=(List Int)) [(1,int b1),(2,int b2),(3,.fn g3id g3c),(8,int a6)] [] (fun p29 S=>(0,.own 63 (p29.map int).length)::S) (fun p29 M=>(63,.obj true 3 1 (p29.map int))::M) (fun p29=>p29=o11) ?_ ?_
   ·intro JJ14 hmeet13
    have hup12:=h;clear h;have h:=ho11;clear ho11
    refine Run.block ?_
    refine R.lp (β:=Int×(List Int)) [(1,int b1),(2,int b2),(3,.fn g3id g3c),(8,int a6)] [] (fun bb S=>(0,.own 63 (bb.2.map int).length)::(9,int bb.1)::S) (fun bb M=>(63,.obj true 3 1 (bb.2.map int))::M) (fun n bb=>A0t b1 g3 n bb.1 bb.2=some o11) F0 (a6,a7) h ?_
    clear h
    rintro JJ14 n14 ⟨a16,a17⟩ hag14 h
    dsimp only at h
    obtain _ | n14:=n14
    ·exact absurd h (by simp [A0t])
    rw [A0t] at h
    refine Run.seq (Run.seq ?_)
    obtain ⟨e20,he20,h2⟩:=bindE h
    refine R.drawG [(0,.own 63 (a17.map int).length),(1,int b1),(2,int b2),(3,.fn g3id g3c),(8,int a6),(9,int a16),(34,bool e20)] [(63,.obj true 3 1 (a17.map int))] (D0a [(7,([],[],[63],[])),(8,([63],[],[],[])),(12,([],[],[63],[])),(13,([63],[],[],[]))]) mixed (by kernel_rfl) (by kernel_rfl) ?_ ?_
    ·clear h;have h:=he20;clear he20 h2
     refine X.mv ?_
     refine X.mv ?_
     refine X.bi ?_
     refine X.mv ?_
     refine X.iG (fun hb21=>?_) (fun hb21=>?_)
     ·replace h:=condT hb21 h
      refine X.mv ?_
      refine X.gy (X.mv ?_)
      refine X.gy (X.mv ?_)
      refine X.gy ?_
      obtain ⟨v22,hv22,h⟩:=bindE h
      refine X.index_xs elt25 (by rfl) (by rfl) (by first | rfl | simp [setL] | omega) (by rfl) (by exact (Int.toNat_of_nonneg (A0a hv22).1).symm) (by have:=A0o hv22;first | exact this | (rw [List.length_map];exact this)) (by rfl) (by rfl) ?_
      refine X.gy (X.load_e shp3 (by rfl) (by rfl) (by rfl) (by first | rfl | simp [setL] | omega) (A0b _ hv22) (by rfl) (by rfl) (by rfl) ?_)
      refine X.gy (X.mv ?_)
      refine X.gy (X.mv ?_)
      refine X.gy (X.subW (h:=?_))
      refine X.gy ?_
      obtain ⟨v23,hv23,h⟩:=bindE h
      refine X.index_xs elt25 (by rfl) (by rfl) (by first | rfl | simp [setL] | omega) (by rfl) (by exact (Int.toNat_of_nonneg (A0a hv23).1).symm) (by have:=A0o hv23;first | exact this | (rw [List.length_map];exact this)) (by rfl) (by rfl) ?_
      refine X.gy (X.load_e shp3 (by rfl) (by rfl) (by rfl) (by first | rfl | simp [setL] | omega) (A0b _ hv23) (by rfl) (by rfl) (by rfl) ?_)
      refine X.gy ?_
      obtain ⟨v24,hv24,h⟩:=bindE h
      refine X.cp (hg3 _ _ _ hv24) ?_
      refine X.gy (X.bi ?_)
      refine X.pT ?_
      cases h
      exact X.eG
     replace h:=condF hb21 h
     refine X.gn (X.gn (X.gn (X.gn (X.gn (X.gn (X.gn (X.gn ?_)))))))
     refine X.gn (X.gn (X.gn (X.pF ?_)))
     cases h
     exact X.eG
    replace h:=h2;clear h2
    refine R.cd (fun hc25=>?_) (fun hc25=>?_)
    ·replace h:=condT hc25 h
     refine Run.skip (Run.seq (Run.block (Run.draw (D0a [(8,([],[],[63],[])),(9,([63],[],[],[])),(12,([],[],[63],[])),(13,([63],[],[],[])),(14,([],[],[63],[])),(15,([63],[],[],[63])),(16,([],[],[63],[])),(17,([63],[],[],[63]))]) mixed (by kernel_rfl) (by kernel_rfl) ?_)))
     refine X.mv ?_
     refine X.mv ?_
     refine X.mv ?_
     refine X.mv ?_
     refine X.subW (h:=?_)
     refine X.mv ?_
     refine X.mv ?_
     refine X.subW (h:=?_)
     obtain ⟨v26,hv26,h⟩:=bindE h
     refine X.index_xs elt25 (by rfl) (by rfl) (by first | rfl | simp [setL] | omega) (by rfl) (by exact (Int.toNat_of_nonneg (A0a hv26).1).symm) (by have:=A0o hv26;first | exact this | (rw [List.length_map];exact this)) (by rfl) (by rfl) ?_
     refine X.load_e shp3 (by rfl) (by rfl) (by rfl) (by first | rfl | simp [setL] | omega) (A0b _ hv26) (by rfl) (by rfl) (by rfl) ?_
     refine X.mv ?_
     refine X.mv ?_
     obtain ⟨v27,hv27,h⟩:=bindE h
     refine X.index_xs elt25 (by rfl) (by rfl) (by first | rfl | simp [setL] | omega) (by rfl) (by exact (Int.toNat_of_nonneg (A0a hv27).1).symm) (by have:=A0o hv27;first | exact this | (rw [List.length_map];exact this)) (by rfl) (by rfl) ?_
     refine X.load_e shp3 (by rfl) (by rfl) (by rfl) (by first | rfl | simp [setL] | omega) (A0b _ hv27) (by rfl) (by rfl) (by rfl) ?_
     refine X.index_xs elt25 (by rfl) (by rfl) (by first | rfl | simp [setL] | omega) (by rfl) (by exact (Int.toNat_of_nonneg (A0a hv27).1).symm) (by have:=A0o hv27;first | exact this | (rw [List.length_map];exact this)) (by rfl) (by rfl) ?_
     refine X.store_es shp3 (by rfl) (by rfl) (by first | rfl | simp [setL] | omega) (A0b _ hv27) (by rfl) (by rfl) (by repeat (first | trivial | refine ⟨by first | rfl | simp [setL],?_⟩)) (by rfl) (by rfl) (by rfl) (by rfl) (by exact C0w _ _ _ v26) ?_
     obtain ⟨v28,hv28,h⟩:=bindE h
     refine X.index_xs elt25 (by rfl) (by rfl) (by first | rfl | simp [setL] | omega) (by rfl) (by exact (Int.toNat_of_nonneg (A0a hv28).1).symm) (by have:=A0o hv28;first | exact this | (rw [List.length_map];exact this)) (by rfl) (by rfl) ?_
     refine X.store_es shp3 (by rfl) (by rfl) (by first | rfl | simp [setL] | omega) (A0b _ hv28) (by rfl) (by rfl) (by repeat (first | trivial | refine ⟨by first | rfl | simp [setL],?_⟩)) (by rfl) (by rfl) (by rfl) (by rfl) (by exact C0w _ _ _ v27) ?_
     refine X.nil (Run.blk (Run.reg (X.mv ?_)))
     refine X.subW (h:=?_)
     refine X.an ?_
     refine R.castS (t:=0) (.own 63 ((setL (setL a17 a16 v26) (W (a16 - 1)) v27).map int).length) (by rfl) (.inl (by first | rfl | simp [setL])) ?_
     exact hag14 n14 ((W (a16 - 1)),(setL (setL a17 a16 v26) (W (a16 - 1)) v27)) _ _ (by omega) h (by repeat (first | trivial | refine ⟨by first | rfl | simp [setL],?_⟩)) (by repeat (first | trivial | refine ⟨by first | rfl | simp [setL],?_⟩)) (by rfl) (by rfl)
    replace h:=condF hc25 h
    refine Run.exit (by rfl) ?_
    exact R.mt hmeet13 a17 (Option.some.inj h)
   rintro p29 rfl
   refine Run.blk (Run.reg (X.mv ?_))
   refine X.addW (h:=?_)
   refine X.an ?_
   exact hag4 n4 ((W (a6+1)),p29) _ _ (by omega) h (by repeat (first | trivial | refine ⟨by first | rfl | simp [setL],?_⟩)) (by repeat (first | trivial | refine ⟨by first | rfl | simp [setL],?_⟩)) (by rfl) (by rfl)
  replace h:=condF hc10 h
  refine Run.exit (by rfl) ?_
  exact R.mt hmeet3 a7 (Option.some.inj h)
 rintro p30 rfl
 cases h
 exact R.endM0 Tryz.results154 (by repeat (first | exact trivial | refine ⟨by rfl,?_⟩)) rfl
theorem E0p (b0:List Int)(b1:Int)(b2:Int)(b3:Int)(g4:Int→Int→Option Int)(g4id:Nat)(g4c:List PV)(hg4:∀(x0:Int) (x1:Int) v,g4 x0 x1=some v→PC Tryz.prog g4id ([int x0,int x1] ++ g4c) (int v))(r:(List Int))(h:C0e b0 b1 b2 b3 g4=some r):PCM Tryz.prog 174 [.own 63 (b0.map int).length,int b1,int b2,int b3,.fn g4id g4c] [(63,.obj true 3 1 (b0.map int))] (.tuple []) [(63,.obj true 3 1 (r.map int))]:=by
 unfold C0e at h
 refine PCM.start Tryz.func174 Tryz.ntmps174 rfl ok174 rfl (by rfl) (by rfl) (by rfl) (by rfl) (by rfl) ?_
 refine Run.sr (X.an ?_)
 obtain ⟨o1,ho1,h⟩:=bindE h
 refine R.join2 (β:=(List Int)) [] [] (fun p15 S=>S) (fun p15 M=>(63,.obj true 3 1 (p15.map int))::M) (fun p15=>p15=o1) ?_ ?_
 ·intro JJ4 hmeet3
  have hup2:=h;clear h;have h:=ho1;clear ho1
  refine Run.block ?_
  refine R.lp (β:=Int×(List Int)) [(1,int b1),(2,int b2),(3,int b3)] [] (fun bb S=>(0,.own 63 (bb.2.map int).length)::(10,int bb.1)::S) (fun bb M=>(63,.obj true 3 1 (bb.2.map int))::M) (fun n bb=>B0r b1 b2 b3 n bb.1 bb.2=some o1) F0 (0,b0) h ?_
  clear h
  rintro JJ5 n5 ⟨a7,a8⟩ hag5 h
  dsimp only at h
  obtain _ | n5:=n5
  ·exact absurd h (by simp [B0r])
  rw [B0r] at h
  refine Run.seq (Run.sr (X.mv ?_))
  refine X.mv ?_
  refine X.bi ?_
  refine X.nil ?_
  refine R.cd (fun hc11=>?_) (fun hc11=>?_)
  ·replace h:=condT hc11 h
   refine Run.skip (Run.seq (Run.block (Run.draw (D0a [(12,([],[],[63],[])),(13,([63],[],[],[])),(18,([],[],[63],[])),(19,([63],[],[],[])),(20,([],[],[63],[])),(21,([63],[],[],[63])),(22,([],[],[63],[])),(23,([63],[],[],[63]))]) mixed (by kernel_rfl) (by kernel_rfl) ?_)))
   refine X.mv ?_
   refine X.mv ?_
   refine X.mv ?_
   refine X.addW (h:=?_)
   refine X.mv ?_
   refine X.mv ?_
   refine X.mv ?_
   refine X.addW (h:=?_)
   refine X.mv ?_
   refine X.mv ?_
   refine X.mv ?_
   refine X.addW (h:=?_)
   obtain ⟨v12,hv12,h⟩:=bindE h
   refine X.index_xs elt25 (by rfl) (by rfl) (by first | rfl | simp [setL] | omega) (by rfl) (by exact (Int.toNat_of_nonneg (A0a hv12).1).symm) (by have:=A0o hv12;first | exact this | (rw [List.length_map];exact this)) (by rfl) (by rfl) ?_
   refine X.load_e shp3 (by rfl) (by rfl) (by rfl) (by first | rfl | simp [setL] | omega) (A0b _ hv12) (by rfl) (by rfl) (by rfl) ?_
   refine X.mv ?_
   refine X.mv ?_
   refine X.mv ?_
   refine X.addW (h:=?_)
   obtain ⟨v13,hv13,h⟩:=bindE h
   refine X.index_xs elt25 (by rfl) (by rfl) (by first | rfl | simp [setL] | omega) (by rfl) (by exact (Int.toNat_of_nonneg (A0a hv13).1).symm) (by have:=A0o hv13;first | exact this | (rw [List.length_map];exact this)) (by rfl) (by rfl) ?_
   refine X.load_e shp3 (by rfl) (by rfl) (by rfl) (by first | rfl | simp [setL] | omega) (A0b _ hv13) (by rfl) (by rfl) (by rfl) ?_
   refine X.index_xs elt25 (by rfl) (by rfl) (by first | rfl | simp [setL] | omega) (by rfl) (by exact (Int.toNat_of_nonneg (A0a hv13).1).symm) (by have:=A0o hv13;first | exact this | (rw [List.length_map];exact this)) (by rfl) (by rfl) ?_
   refine X.store_es shp3 (by rfl) (by rfl) (by first | rfl | simp [setL] | omega) (A0b _ hv13) (by rfl) (by rfl) (by repeat (first | trivial | refine ⟨by first | rfl | simp [setL],?_⟩)) (by rfl) (by rfl) (by rfl) (by rfl) (by exact C0w _ _ _ v12) ?_
   obtain ⟨v14,hv14,h⟩:=bindE h
   refine X.index_xs elt25 (by rfl) (by rfl) (by first | rfl | simp [setL] | omega) (by rfl) (by exact (Int.toNat_of_nonneg (A0a hv14).1).symm) (by have:=A0o hv14;first | exact this | (rw [List.length_map];exact this)) (by rfl) (by rfl) ?_
   refine X.store_es shp3 (by rfl) (by rfl) (by first | rfl | simp [setL] | omega) (A0b _ hv14) (by rfl) (by rfl) (by repeat (first | trivial | refine ⟨by first | rfl | simp [setL],?_⟩)) (by rfl) (by rfl) (by rfl) (by rfl) (by exact C0w _ _ _ v13) ?_
   refine X.nil (Run.blk (Run.reg (X.mv ?_)))
   refine X.addW (h:=?_)
   refine X.an ?_
   refine R.castS (t:=0) (.own 63 ((setL (setL a8 (W (b1+a7)) v12) (W (b2+a7)) v13).map int).length) (by rfl) (.inl (by first | rfl | simp [setL])) ?_
   exact hag5 n5 ((W (a7+1)),(setL (setL a8 (W (b1+a7)) v12) (W (b2+a7)) v13)) _ _ (by omega) h (by repeat (first | trivial | refine ⟨by first | rfl | simp [setL],?_⟩)) (by repeat (first | trivial | refine ⟨by first | rfl | simp [setL],?_⟩)) (by rfl) (by rfl)
  replace h:=condF hc11 h
  refine Run.exit (by rfl) ?_
  exact R.mt hmeet3 a8 (Option.some.inj h)
 rintro p15 rfl
 cases h
 exact R.endM0 Tryz.results174 (by repeat (first | exact trivial | refine ⟨by rfl,?_⟩)) rfl
theorem N0v (b0:List Int)(b1:Int)(b2:Int)(b3:Int)(g4:Int→Int→Option Int)(g4id:Nat)(g4c:List PV)(hg4:∀(x0:Int) (x1:Int) v,g4 x0 x1=some v→PC Tryz.prog g4id ([int x0,int x1] ++ g4c) (int v))(r:(List Int))(h:G0z b0 b1 b2 b3 g4=some r):PCM Tryz.prog 167 [.own 63 (b0.map int).length,int b1,int b2,int b3,.fn g4id g4c] [(63,.obj true 3 1 (b0.map int))] (.tuple []) [(63,.obj true 3 1 (r.map int))]:=by
 unfold G0z at h
 refine PCM.start Tryz.func167 Tryz.ntmps167 rfl ok167 rfl (by rfl) (by rfl) (by rfl) (by rfl) (by rfl) ?_
 refine Run.sr (X.mv ?_)
 refine X.mv ?_
 refine X.subW (h:=?_)
 refine X.an ?_
 refine Run.sr (X.mv ?_)
 refine X.mv ?_
 refine X.subW (h:=?_)
 refine X.an ?_
 refine Run.seq ?_
 obtain ⟨o1,ho1,h⟩:=bindE h
 refine R.join2 (β:=Int×(List Int)) [(2,int b2),(4,.fn g4id g4c)] [] (fun p15 S=>(0,.own 63 (p15.2.map int).length)::(10,int p15.1)::S) (fun p15 M=>(63,.obj true 3 1 (p15.2.map int))::M) (fun p15=>p15=o1) ?_ ?_
 ·intro JJ4 hmeet3
  have hup2:=h;clear h;have h:=ho1;clear ho1
  refine Run.block ?_
  refine R.lp (β:=Int×Int×(List Int)) [(2,int b2),(4,.fn g4id g4c)] [] (fun bb S=>(0,.own 63 (bb.2.2.map int).length)::(10,int bb.1)::(11,int bb.2.1)::S) (fun bb M=>(63,.obj true 3 1 (bb.2.2.map int))::M) (fun n bb=>B0n b2 g4 n bb.1 bb.2.1 bb.2.2=some o1) F0 ((W (b2 - b1)),(W (b3 - b2)),b0) h ?_
  clear h
  rintro JJ4 n4 ⟨a6,a7,a8⟩ hag4 h
  dsimp only at h
  obtain _ | n4:=n4
  ·exact absurd h (by simp [B0n])
  rw [B0n] at h
  refine Run.seq (Run.sr (X.mv ?_))
  refine X.mv ?_
  refine X.bi ?_
  refine X.nil ?_
  refine R.cd (fun hc11=>?_) (fun hc11=>?_)
  ·replace h:=condT hc11 h
   refine Run.skip (Run.block (Run.sr (X.mv ?_)))
   refine X.mv ?_
   refine X.bi ?_
   refine X.nil ?_
   refine R.cd (fun hc12=>?_) (fun hc12=>?_)
   ·replace h:=condT hc12 h
    refine Run.sr (X.mv ?_)
    refine X.mv ?_
    refine X.mv ?_
    refine X.subW (h:=?_)
    refine X.mv ?_
    refine X.mv ?_
    refine X.mv ?_
    obtain ⟨v13,hv13,h⟩:=bindE h
    refine X.callR [(63,63)] [(63,(a8.map int).length)] [(63,(v13.map int).length)] (E0p _ _ _ _ g4 _ _ hg4 _ hv13) (by rfl) (by rfl) (.ownB 63 (by rfl) (by first | rfl | simp [setL] | omega) (by rfl) (.pureB (by rfl) (by repeat (first | trivial | refine ⟨by first | rfl | simp [setL],?_⟩)) (.pureB (by rfl) (by repeat (first | trivial | refine ⟨by first | rfl | simp [setL],?_⟩)) (.pureB (by rfl) (by repeat (first | trivial | refine ⟨by first | rfl | simp [setL],?_⟩)) (.pureB (by rfl) (by repeat (first | trivial | refine ⟨by first | rfl | simp [setL],?_⟩)) .nil))))) (by rfl) ⟨rfl,rfl,⟨_,by rfl,by constructor⟩,by constructor,trivial⟩ (by rfl) (by rfl) (by rfl) (by rfl) ⟨rfl,⟨_,_,_,_,by rfl,by rfl⟩,⟨_,_,_,_,by rfl,by rfl⟩,trivial⟩ (by rfl) (by repeat (first | trivial | refine ⟨by first | rfl | simp [setL],?_⟩)) (by rfl) (by rfl) (by rfl) (by rfl) (by rfl) ?_
    refine X.nil (Run.reg (X.mv ?_))
    refine X.mv ?_
    refine X.subW (h:=?_)
    refine X.an ?_
    refine Run.blk ?_
    exact hag4 n4 ((W (a6 - a7)),a7,v13) _ _ (by omega) h (by repeat (first | trivial | refine ⟨by first | rfl | simp [setL],?_⟩)) (by repeat (first | trivial | refine ⟨by first | rfl | simp [setL],?_⟩)) (by rfl) (by rfl)
   replace h:=condF hc12 h
   refine Run.sr (X.mv ?_)
   refine X.mv ?_
   refine X.mv ?_
   refine X.subW (h:=?_)
   refine X.mv ?_
   refine X.mv ?_
   refine X.addW (h:=?_)
   refine X.mv ?_
   refine X.subW (h:=?_)
   refine X.mv ?_
   refine X.mv ?_
   obtain ⟨v14,hv14,h⟩:=bindE h
   refine X.callR [(63,63)] [(63,(a8.map int).length)] [(63,(v14.map int).length)] (E0p _ _ _ _ g4 _ _ hg4 _ hv14) (by rfl) (by rfl) (.ownB 63 (by rfl) (by first | rfl | simp [setL] | omega) (by rfl) (.pureB (by rfl) (by repeat (first | trivial | refine ⟨by first | rfl | simp [setL],?_⟩)) (.pureB (by rfl) (by repeat (first | trivial | refine ⟨by first | rfl | simp [setL],?_⟩)) (.pureB (by rfl) (by repeat (first | trivial | refine ⟨by first | rfl | simp [setL],?_⟩)) (.pureB (by rfl) (by repeat (first | trivial | refine ⟨by first | rfl | simp [setL],?_⟩)) .nil))))) (by rfl) ⟨rfl,rfl,⟨_,by rfl,by constructor⟩,by constructor,trivial⟩ (by rfl) (by rfl) (by rfl) (by rfl) ⟨rfl,⟨_,_,_,_,by rfl,by rfl⟩,⟨_,_,_,_,by rfl,by rfl⟩,trivial⟩ (by rfl) (by repeat (first | trivial | refine ⟨by first | rfl | simp [setL],?_⟩)) (by rfl) (by rfl) (by rfl) (by rfl) (by rfl) ?_
   refine X.nil (Run.reg (X.mv ?_))
   refine X.mv ?_
   refine X.subW (h:=?_)
   refine X.an ?_
   refine Run.blk ?_
   exact hag4 n4 (a6,(W (a7 - a6)),v14) _ _ (by omega) h (by repeat (first | trivial | refine ⟨by first | rfl | simp [setL],?_⟩)) (by repeat (first | trivial | refine ⟨by first | rfl | simp [setL],?_⟩)) (by rfl) (by rfl)
  replace h:=condF hc11 h
  refine Run.exit (by rfl) ?_
  exact R.mt hmeet3 (a6,a8) (Option.some.inj h)
 rintro p15 rfl
 refine Run.reg (X.mv ?_)
 refine X.mv ?_
 refine X.mv ?_
 refine X.subW (h:=?_)
 refine X.mv ?_
 refine X.mv ?_
 refine X.mv ?_
 obtain ⟨v16,hv16,h⟩:=bindE h
 refine X.callR [(63,63)] [(63,(p15.2.map int).length)] [(63,(v16.map int).length)] (E0p _ _ _ _ g4 _ _ hg4 _ hv16) (by rfl) (by rfl) (.ownB 63 (by rfl) (by first | rfl | simp [setL] | omega) (by rfl) (.pureB (by rfl) (by repeat (first | trivial | refine ⟨by first | rfl | simp [setL],?_⟩)) (.pureB (by rfl) (by repeat (first | trivial | refine ⟨by first | rfl | simp [setL],?_⟩)) (.pureB (by rfl) (by repeat (first | trivial | refine ⟨by first | rfl | simp [setL],?_⟩)) (.pureB (by rfl) (by repeat (first | trivial | refine ⟨by first | rfl | simp [setL],?_⟩)) .nil))))) (by rfl) ⟨rfl,rfl,⟨_,by rfl,by constructor⟩,by constructor,trivial⟩ (by rfl) (by rfl) (by rfl) (by rfl) ⟨rfl,⟨_,_,_,_,by rfl,by rfl⟩,⟨_,_,_,_,by rfl,by rfl⟩,trivial⟩ (by rfl) (by repeat (first | trivial | refine ⟨by first | rfl | simp [setL],?_⟩)) (by rfl) (by rfl) (by rfl) (by rfl) (by rfl) ?_
 refine X.nil ?_
 cases h
 exact R.endM0 Tryz.results167 (by repeat (first | exact trivial | refine ⟨by rfl,?_⟩)) rfl
theorem H0u (b0:List Int)(b1:Int)(b2:Int)(b3:Int)(g4:Int→Int→Option Int)(g4id:Nat)(g4c:List PV)(hg4:∀(x0:Int) (x1:Int) v,g4 x0 x1=some v→PC Tryz.prog g4id ([int x0,int x1] ++ g4c) (int v))(r:(List Int))(h:D0z b0 b1 b2 b3 g4=some r):PCM Tryz.prog 155 [.own 63 (b0.map int).length,int b1,int b2,int b3,.fn g4id g4c] [(63,.obj true 3 1 (b0.map int))] (.tuple []) [(63,.obj true 3 1 (r.map int))]:=by
 unfold D0z at h
 refine PCM.start Tryz.func155 Tryz.ntmps155 rfl ok155 rfl (by rfl) (by rfl) (by rfl) (by rfl) (by rfl) ?_
 refine Run.seq (Run.sr (X.mv ?_))
 refine X.mv ?_
 refine X.subW (h:=?_)
 refine X.bi ?_
 refine X.nil ?_
 refine R.cd (fun hc1=>?_) (fun hc1=>?_)
 ·replace h:=condT hc1 h
  refine Run.sr (X.mv ?_)
  refine X.an ?_
  refine Run.sr (X.mv ?_)
  refine X.an ?_
  refine Run.seq ?_
  obtain ⟨o2,ho2,h⟩:=bindE h
  refine R.join2 (β:=Int) [(1,int b1)] [(63,.obj true 3 1 (b0.map int))] (fun p16 S=>(0,.own 63 (b0.map int).length)::(10,int p16)::S) (fun p16 M=>M) (fun p16=>p16=o2) ?_ ?_
  ·intro JJ5 hmeet4
   have hup3:=h;clear h;have h:=ho2;clear ho2
   refine Run.block ?_
   refine R.lp (β:=Int×Int) [(1,int b1),(4,.fn g4id g4c)] [(63,.obj true 3 1 (b0.map int))] (fun bb S=>(0,.own 63 (b0.map int).length)::(10,int bb.1)::(11,int bb.2)::S) (fun bb M=>M) (fun n bb=>B0i b0 b1 g4 n bb.1 bb.2=some o2) F0 (b2,b3) h ?_
   clear h
   rintro JJ5 n5 ⟨a7,a8⟩ hag5 h
   dsimp only at h
   obtain _ | n5:=n5
   ·exact absurd h (by simp [B0i])
   rw [B0i] at h
   refine Run.seq (Run.sr (X.mv ?_))
   refine X.mv ?_
   refine X.bi ?_
   refine X.nil ?_
   refine R.cd (fun hc11=>?_) (fun hc11=>?_)
   ·replace h:=condT hc11 h
    refine Run.skip (Run.block (Run.sr (X.mv ?_)))
    refine X.mv ?_
    refine X.addW (h:=?_)
    refine X.conv Tryz.underlying162 (by rw [Tryz.underlying3];rfl) (by rfl) (by rfl) ?_
    refine X.shr (by rfl) (by rfl) (by decide) (by rfl) ?_
    refine X.conv Tryz.underlying3 (by rw [Tryz.underlying162];rfl) (by rfl) (by rfl) ?_
    refine X.an ?_
    refine Run.seq (Run.draw (D0a [(3,([],[],[63],[])),(4,([63],[],[],[])),(7,([],[],[63],[])),(8,([63],[],[],[]))]) mixed (by kernel_rfl) (by kernel_rfl) ?_)
    refine X.mv ?_
    refine X.mv ?_
    refine X.mv ?_
    obtain ⟨v12,hv12,h⟩:=bindE h
    refine X.index_xs elt25 (by rfl) (by rfl) (by first | rfl | simp [setL] | omega) (by rfl) (by exact (Int.toNat_of_nonneg (A0a hv12).1).symm) (by have:=A0o hv12;first | exact this | (rw [List.length_map];exact this)) (by rfl) (by rfl) ?_
    refine X.load_e shp3 (by rfl) (by rfl) (by rfl) (by first | rfl | simp [setL] | omega) (A0b _ hv12) (by rfl) (by rfl) (by rfl) ?_
    refine X.mv ?_
    refine X.mv ?_
    obtain ⟨v13,hv13,h⟩:=bindE h
    refine X.index_xs elt25 (by rfl) (by rfl) (by first | rfl | simp [setL] | omega) (by rfl) (by exact (Int.toNat_of_nonneg (A0a hv13).1).symm) (by have:=A0o hv13;first | exact this | (rw [List.length_map];exact this)) (by rfl) (by rfl) ?_
    refine X.load_e shp3 (by rfl) (by rfl) (by rfl) (by first | rfl | simp [setL] | omega) (A0b _ hv13) (by rfl) (by rfl) (by rfl) ?_
    obtain ⟨v14,hv14,h⟩:=bindE h
    refine X.cp (hg4 _ _ _ hv14) ?_
    refine X.bi ?_
    refine X.nil ?_
    refine R.cd (fun hc15=>?_) (fun hc15=>?_)
    ·replace h:=condT hc15 h
     refine Run.reg (X.mv ?_)
     refine X.addW (h:=?_)
     refine X.an ?_
     refine Run.blk ?_
     exact hag5 n5 ((W ((IntKind.i64.wrap (Int.fdiv (IntKind.u64.wrap (W (a7+a8))) (2 ^ min (Int.toNat 1) (IntKind.bits .u64))))+1)),a8) _ _ (by omega) h (by repeat (first | trivial | refine ⟨by first | rfl | simp [setL],?_⟩)) (by repeat (first | trivial | refine ⟨by first | rfl | simp [setL],?_⟩)) (by rfl) (by rfl)
    replace h:=condF hc15 h
    refine Run.reg (X.mv ?_)
    refine X.an ?_
    refine Run.blk ?_
    exact hag5 n5 (a7,(IntKind.i64.wrap (Int.fdiv (IntKind.u64.wrap (W (a7+a8))) (2 ^ min (Int.toNat 1) (IntKind.bits .u64))))) _ _ (by omega) h (by repeat (first | trivial | refine ⟨by first | rfl | simp [setL],?_⟩)) (by repeat (first | trivial | refine ⟨by first | rfl | simp [setL],?_⟩)) (by rfl) (by rfl)
   replace h:=condF hc11 h
   refine Run.exit (by rfl) ?_
   exact R.mt hmeet4 a7 (Option.some.inj h)
  rintro p16 rfl
  refine Run.seq (Run.sr (X.mv ?_))
  refine X.an ?_
  obtain ⟨o17,ho17,h⟩:=bindE h
  refine R.join2 (β:=(List Int)) [] [] (fun p30 S=>S) (fun p30 M=>(63,.obj true 3 1 (p30.map int))::M) (fun p30=>p30=o17) ?_ ?_
  ·intro JJ20 hmeet19
   have hup18:=h;clear h;have h:=ho17;clear ho17
   refine Run.block ?_
   refine R.lp (β:=Int×(List Int)) [(10,int p16)] [] (fun bb S=>(0,.own 63 (bb.2.map int).length)::(13,int bb.1)::S) (fun bb M=>(63,.obj true 3 1 (bb.2.map int))::M) (fun n bb=>B0t p16 n bb.1 bb.2=some o17) F0 (b1,b0) h ?_
   clear h
   rintro JJ20 n20 ⟨a22,a23⟩ hag20 h
   dsimp only at h
   obtain _ | n20:=n20
   ·exact absurd h (by simp [B0t])
   rw [B0t] at h
   refine Run.seq (Run.sr (X.mv ?_))
   refine X.mv ?_
   refine X.subW (h:=?_)
   refine X.bi ?_
   refine X.nil ?_
   refine R.cd (fun hc26=>?_) (fun hc26=>?_)
   ·replace h:=condT hc26 h
    refine Run.skip (Run.seq (Run.block (Run.draw (D0a [(8,([],[],[63],[])),(9,([63],[],[],[])),(12,([],[],[63],[])),(13,([63],[],[],[])),(14,([],[],[63],[])),(15,([63],[],[],[63])),(16,([],[],[63],[])),(17,([63],[],[],[63]))]) mixed (by kernel_rfl) (by kernel_rfl) ?_)))
    refine X.mv ?_
    refine X.mv ?_
    refine X.mv ?_
    refine X.mv ?_
    refine X.addW (h:=?_)
    refine X.mv ?_
    refine X.mv ?_
    refine X.addW (h:=?_)
    obtain ⟨v27,hv27,h⟩:=bindE h
    refine X.index_xs elt25 (by rfl) (by rfl) (by first | rfl | simp [setL] | omega) (by rfl) (by exact (Int.toNat_of_nonneg (A0a hv27).1).symm) (by have:=A0o hv27;first | exact this | (rw [List.length_map];exact this)) (by rfl) (by rfl) ?_
    refine X.load_e shp3 (by rfl) (by rfl) (by rfl) (by first | rfl | simp [setL] | omega) (A0b _ hv27) (by rfl) (by rfl) (by rfl) ?_
    refine X.mv ?_
    refine X.mv ?_
    obtain ⟨v28,hv28,h⟩:=bindE h
    refine X.index_xs elt25 (by rfl) (by rfl) (by first | rfl | simp [setL] | omega) (by rfl) (by exact (Int.toNat_of_nonneg (A0a hv28).1).symm) (by have:=A0o hv28;first | exact this | (rw [List.length_map];exact this)) (by rfl) (by rfl) ?_
    refine X.load_e shp3 (by rfl) (by rfl) (by rfl) (by first | rfl | simp [setL] | omega) (A0b _ hv28) (by rfl) (by rfl) (by rfl) ?_
    refine X.index_xs elt25 (by rfl) (by rfl) (by first | rfl | simp [setL] | omega) (by rfl) (by exact (Int.toNat_of_nonneg (A0a hv28).1).symm) (by have:=A0o hv28;first | exact this | (rw [List.length_map];exact this)) (by rfl) (by rfl) ?_
    refine X.store_es shp3 (by rfl) (by rfl) (by first | rfl | simp [setL] | omega) (A0b _ hv28) (by rfl) (by rfl) (by repeat (first | trivial | refine ⟨by first | rfl | simp [setL],?_⟩)) (by rfl) (by rfl) (by rfl) (by rfl) (by exact C0w _ _ _ v27) ?_
    obtain ⟨v29,hv29,h⟩:=bindE h
    refine X.index_xs elt25 (by rfl) (by rfl) (by first | rfl | simp [setL] | omega) (by rfl) (by exact (Int.toNat_of_nonneg (A0a hv29).1).symm) (by have:=A0o hv29;first | exact this | (rw [List.length_map];exact this)) (by rfl) (by rfl) ?_
    refine X.store_es shp3 (by rfl) (by rfl) (by first | rfl | simp [setL] | omega) (A0b _ hv29) (by rfl) (by rfl) (by repeat (first | trivial | refine ⟨by first | rfl | simp [setL],?_⟩)) (by rfl) (by rfl) (by rfl) (by rfl) (by exact C0w _ _ _ v28) ?_
    refine X.nil (Run.blk (Run.reg (X.mv ?_)))
    refine X.addW (h:=?_)
    refine X.an ?_
    refine R.castS (t:=0) (.own 63 ((setL (setL a23 a22 v27) (W (a22+1)) v28).map int).length) (by rfl) (.inl (by first | rfl | simp [setL])) ?_
    exact hag20 n20 ((W (a22+1)),(setL (setL a23 a22 v27) (W (a22+1)) v28)) _ _ (by omega) h (by repeat (first | trivial | refine ⟨by first | rfl | simp [setL],?_⟩)) (by repeat (first | trivial | refine ⟨by first | rfl | simp [setL],?_⟩)) (by rfl) (by rfl)
   replace h:=condF hc26 h
   refine Run.exit (by rfl) ?_
   exact R.mt hmeet19 a23 (Option.some.inj h)
  rintro p30 rfl
  cases h
  exact R.finM0 Tryz.results155 (by repeat (first | exact trivial | refine ⟨by rfl,?_⟩)) rfl
 replace h:=condF hc1 h
 refine Run.skip (Run.seq (Run.sr (X.mv ?_)))
 refine X.mv ?_
 refine X.subW (h:=?_)
 refine X.bi ?_
 refine X.nil ?_
 refine R.cd (fun hc31=>?_) (fun hc31=>?_)
 ·replace h:=condT hc31 h
  refine Run.sr (X.mv ?_)
  refine X.an ?_
  refine Run.sr (X.mv ?_)
  refine X.an ?_
  refine Run.seq ?_
  obtain ⟨o32,ho32,h⟩:=bindE h
  refine R.join2 (β:=Int) [(2,int b2)] [(63,.obj true 3 1 (b0.map int))] (fun p46 S=>(0,.own 63 (b0.map int).length)::(14,int p46)::S) (fun p46 M=>M) (fun p46=>p46=o32) ?_ ?_
  ·intro JJ35 hmeet34
   have hup33:=h;clear h;have h:=ho32;clear ho32
   refine Run.block ?_
   refine R.lp (β:=Int×Int) [(2,int b2),(4,.fn g4id g4c)] [(63,.obj true 3 1 (b0.map int))] (fun bb S=>(0,.own 63 (b0.map int).length)::(14,int bb.1)::(15,int bb.2)::S) (fun bb M=>M) (fun n bb=>B0j b0 b2 g4 n bb.1 bb.2=some o32) F0 (b1,b2) h ?_
   clear h
   rintro JJ35 n35 ⟨a37,a38⟩ hag35 h
   dsimp only at h
   obtain _ | n35:=n35
   ·exact absurd h (by simp [B0j])
   rw [B0j] at h
   refine Run.seq (Run.sr (X.mv ?_))
   refine X.mv ?_
   refine X.bi ?_
   refine X.nil ?_
   refine R.cd (fun hc41=>?_) (fun hc41=>?_)
   ·replace h:=condT hc41 h
    refine Run.skip (Run.block (Run.sr (X.mv ?_)))
    refine X.mv ?_
    refine X.addW (h:=?_)
    refine X.conv Tryz.underlying162 (by rw [Tryz.underlying3];rfl) (by rfl) (by rfl) ?_
    refine X.shr (by rfl) (by rfl) (by decide) (by rfl) ?_
    refine X.conv Tryz.underlying3 (by rw [Tryz.underlying162];rfl) (by rfl) (by rfl) ?_
    refine X.an ?_
    refine Run.seq (Run.draw (D0a [(3,([],[],[63],[])),(4,([63],[],[],[])),(7,([],[],[63],[])),(8,([63],[],[],[]))]) mixed (by kernel_rfl) (by kernel_rfl) ?_)
    refine X.mv ?_
    refine X.mv ?_
    refine X.mv ?_
    obtain ⟨v42,hv42,h⟩:=bindE h
    refine X.index_xs elt25 (by rfl) (by rfl) (by first | rfl | simp [setL] | omega) (by rfl) (by exact (Int.toNat_of_nonneg (A0a hv42).1).symm) (by have:=A0o hv42;first | exact this | (rw [List.length_map];exact this)) (by rfl) (by rfl) ?_
    refine X.load_e shp3 (by rfl) (by rfl) (by rfl) (by first | rfl | simp [setL] | omega) (A0b _ hv42) (by rfl) (by rfl) (by rfl) ?_
    refine X.mv ?_
    refine X.mv ?_
    obtain ⟨v43,hv43,h⟩:=bindE h
    refine X.index_xs elt25 (by rfl) (by rfl) (by first | rfl | simp [setL] | omega) (by rfl) (by exact (Int.toNat_of_nonneg (A0a hv43).1).symm) (by have:=A0o hv43;first | exact this | (rw [List.length_map];exact this)) (by rfl) (by rfl) ?_
    refine X.load_e shp3 (by rfl) (by rfl) (by rfl) (by first | rfl | simp [setL] | omega) (A0b _ hv43) (by rfl) (by rfl) (by rfl) ?_
    obtain ⟨v44,hv44,h⟩:=bindE h
    refine X.cp (hg4 _ _ _ hv44) ?_
    refine X.bi ?_
    refine X.un (h:=?_)
    refine X.nil ?_
    refine R.cd (fun hc45=>?_) (fun hc45=>?_)
    ·replace h:=condT hc45 h
     refine Run.reg (X.mv ?_)
     refine X.addW (h:=?_)
     refine X.an ?_
     refine Run.blk ?_
     exact hag35 n35 ((W ((IntKind.i64.wrap (Int.fdiv (IntKind.u64.wrap (W (a37+a38))) (2 ^ min (Int.toNat 1) (IntKind.bits .u64))))+1)),a38) _ _ (by omega) h (by repeat (first | trivial | refine ⟨by first | rfl | simp [setL],?_⟩)) (by repeat (first | trivial | refine ⟨by first | rfl | simp [setL],?_⟩)) (by rfl) (by rfl)
    replace h:=condF hc45 h
    refine Run.reg (X.mv ?_)
    refine X.an ?_
    refine Run.blk ?_
    exact hag35 n35 (a37,(IntKind.i64.wrap (Int.fdiv (IntKind.u64.wrap (W (a37+a38))) (2 ^ min (Int.toNat 1) (IntKind.bits .u64))))) _ _ (by omega) h (by repeat (first | trivial | refine ⟨by first | rfl | simp [setL],?_⟩)) (by repeat (first | trivial | refine ⟨by first | rfl | simp [setL],?_⟩)) (by rfl) (by rfl)
   replace h:=condF hc41 h
   refine Run.exit (by rfl) ?_
   exact R.mt hmeet34 a37 (Option.some.inj h)
  rintro p46 rfl
  refine Run.seq (Run.sr (X.mv ?_))
  refine X.an ?_
  obtain ⟨o47,ho47,h⟩:=bindE h
  refine R.join2 (β:=(List Int)) [] [] (fun p60 S=>S) (fun p60 M=>(63,.obj true 3 1 (p60.map int))::M) (fun p60=>p60=o47) ?_ ?_
  ·intro JJ50 hmeet49
   have hup48:=h;clear h;have h:=ho47;clear ho47
   refine Run.block ?_
   refine R.lp (β:=Int×(List Int)) [(14,int p46)] [] (fun bb S=>(0,.own 63 (bb.2.map int).length)::(17,int bb.1)::S) (fun bb M=>(63,.obj true 3 1 (bb.2.map int))::M) (fun n bb=>B0u p46 n bb.1 bb.2=some o47) F0 (b2,b0) h ?_
   clear h
   rintro JJ50 n50 ⟨a52,a53⟩ hag50 h
   dsimp only at h
   obtain _ | n50:=n50
   ·exact absurd h (by simp [B0u])
   rw [B0u] at h
   refine Run.seq (Run.sr (X.mv ?_))
   refine X.mv ?_
   refine X.bi ?_
   refine X.nil ?_
   refine R.cd (fun hc56=>?_) (fun hc56=>?_)
   ·replace h:=condT hc56 h
    refine Run.skip (Run.seq (Run.block (Run.draw (D0a [(8,([],[],[63],[])),(9,([63],[],[],[])),(12,([],[],[63],[])),(13,([63],[],[],[])),(14,([],[],[63],[])),(15,([63],[],[],[63])),(16,([],[],[63],[])),(17,([63],[],[],[63]))]) mixed (by kernel_rfl) (by kernel_rfl) ?_)))
    refine X.mv ?_
    refine X.mv ?_
    refine X.mv ?_
    refine X.mv ?_
    refine X.subW (h:=?_)
    refine X.mv ?_
    refine X.mv ?_
    refine X.subW (h:=?_)
    obtain ⟨v57,hv57,h⟩:=bindE h
    refine X.index_xs elt25 (by rfl) (by rfl) (by first | rfl | simp [setL] | omega) (by rfl) (by exact (Int.toNat_of_nonneg (A0a hv57).1).symm) (by have:=A0o hv57;first | exact this | (rw [List.length_map];exact this)) (by rfl) (by rfl) ?_
    refine X.load_e shp3 (by rfl) (by rfl) (by rfl) (by first | rfl | simp [setL] | omega) (A0b _ hv57) (by rfl) (by rfl) (by rfl) ?_
    refine X.mv ?_
    refine X.mv ?_
    obtain ⟨v58,hv58,h⟩:=bindE h
    refine X.index_xs elt25 (by rfl) (by rfl) (by first | rfl | simp [setL] | omega) (by rfl) (by exact (Int.toNat_of_nonneg (A0a hv58).1).symm) (by have:=A0o hv58;first | exact this | (rw [List.length_map];exact this)) (by rfl) (by rfl) ?_
    refine X.load_e shp3 (by rfl) (by rfl) (by rfl) (by first | rfl | simp [setL] | omega) (A0b _ hv58) (by rfl) (by rfl) (by rfl) ?_
    refine X.index_xs elt25 (by rfl) (by rfl) (by first | rfl | simp [setL] | omega) (by rfl) (by exact (Int.toNat_of_nonneg (A0a hv58).1).symm) (by have:=A0o hv58;first | exact this | (rw [List.length_map];exact this)) (by rfl) (by rfl) ?_
    refine X.store_es shp3 (by rfl) (by rfl) (by first | rfl | simp [setL] | omega) (A0b _ hv58) (by rfl) (by rfl) (by repeat (first | trivial | refine ⟨by first | rfl | simp [setL],?_⟩)) (by rfl) (by rfl) (by rfl) (by rfl) (by exact C0w _ _ _ v57) ?_
    obtain ⟨v59,hv59,h⟩:=bindE h
    refine X.index_xs elt25 (by rfl) (by rfl) (by first | rfl | simp [setL] | omega) (by rfl) (by exact (Int.toNat_of_nonneg (A0a hv59).1).symm) (by have:=A0o hv59;first | exact this | (rw [List.length_map];exact this)) (by rfl) (by rfl) ?_
    refine X.store_es shp3 (by rfl) (by rfl) (by first | rfl | simp [setL] | omega) (A0b _ hv59) (by rfl) (by rfl) (by repeat (first | trivial | refine ⟨by first | rfl | simp [setL],?_⟩)) (by rfl) (by rfl) (by rfl) (by rfl) (by exact C0w _ _ _ v58) ?_
    refine X.nil (Run.blk (Run.reg (X.mv ?_)))
    refine X.subW (h:=?_)
    refine X.an ?_
    refine R.castS (t:=0) (.own 63 ((setL (setL a53 a52 v57) (W (a52 - 1)) v58).map int).length) (by rfl) (.inl (by first | rfl | simp [setL])) ?_
    exact hag50 n50 ((W (a52 - 1)),(setL (setL a53 a52 v57) (W (a52 - 1)) v58)) _ _ (by omega) h (by repeat (first | trivial | refine ⟨by first | rfl | simp [setL],?_⟩)) (by repeat (first | trivial | refine ⟨by first | rfl | simp [setL],?_⟩)) (by rfl) (by rfl)
   replace h:=condF hc56 h
   refine Run.exit (by rfl) ?_
   exact R.mt hmeet49 a53 (Option.some.inj h)
  rintro p60 rfl
  cases h
  exact R.finM0 Tryz.results155 (by repeat (first | exact trivial | refine ⟨by rfl,?_⟩)) rfl
 replace h:=condF hc31 h
 refine Run.skip (Run.sr (X.mv ?_))
 refine X.mv ?_
 refine X.addW (h:=?_)
 refine X.conv Tryz.underlying162 (by rw [Tryz.underlying3];rfl) (by rfl) (by rfl) ?_
 refine X.shr (by rfl) (by rfl) (by decide) (by rfl) ?_
 refine X.conv Tryz.underlying3 (by rw [Tryz.underlying162];rfl) (by rfl) (by rfl) ?_
 refine X.an ?_
 refine Run.sr (X.mv ?_)
 refine X.mv ?_
 refine X.addW (h:=?_)
 refine X.an ?_
 refine Run.sr (X.as ?_)
 refine X.an ?_
 refine Run.seq (Run.sr (X.mv ?_))
 refine X.mv ?_
 refine X.bi ?_
 refine X.nil ?_
 obtain ⟨o61,ho61,h⟩:=bindE h
 refine R.join2 (β:=Int×Int) [(1,int b1),(2,int b2),(3,int b3),(4,.fn g4id g4c),(18,int (IntKind.i64.wrap (Int.fdiv (IntKind.u64.wrap (W (b1+b3))) (2 ^ min (Int.toNat 1) (IntKind.bits .u64))))),(19,int (W ((IntKind.i64.wrap (Int.fdiv (IntKind.u64.wrap (W (b1+b3))) (2 ^ min (Int.toNat 1) (IntKind.bits .u64))))+b2)))] [(63,.obj true 3 1 (b0.map int))] (fun p66 S=>(0,.own 63 (b0.map int).length)::(20,int p66.1)::(21,int p66.2)::S) (fun p66 M=>M) (fun p66=>p66=o61) ?_ ?_
 ·intro JJ64 hmeet63
  have hup62:=h;clear h;have h:=ho61;clear ho61
  refine R.cd (fun hc65=>?_) (fun hc65=>?_)
  ·replace h:=condT hc65 h
   refine Run.sr (X.mv ?_)
   refine X.mv ?_
   refine X.subW (h:=?_)
   refine X.an ?_
   refine Run.reg (X.mv ?_)
   refine X.an ?_
   exact R.mt hmeet63 ((W ((W ((IntKind.i64.wrap (Int.fdiv (IntKind.u64.wrap (W (b1+b3))) (2 ^ min (Int.toNat 1) (IntKind.bits .u64))))+b2)) - b3)),(IntKind.i64.wrap (Int.fdiv (IntKind.u64.wrap (W (b1+b3))) (2 ^ min (Int.toNat 1) (IntKind.bits .u64))))) (Option.some.inj h)
  replace h:=condF hc65 h
  refine Run.sr (X.mv ?_)
  refine X.an ?_
  refine Run.reg (X.mv ?_)
  refine X.an ?_
  exact R.mt hmeet63 (b1,b2) (Option.some.inj h)
 rintro p66 rfl
 refine Run.sr (X.mv ?_)
 refine X.subW (h:=?_)
 refine X.an ?_
 refine Run.seq ?_
 obtain ⟨o67,ho67,h⟩:=bindE h
 refine R.join2 (β:=Int) [(1,int b1),(2,int b2),(3,int b3),(4,.fn g4id g4c),(18,int (IntKind.i64.wrap (Int.fdiv (IntKind.u64.wrap (W (b1+b3))) (2 ^ min (Int.toNat 1) (IntKind.bits .u64))))),(19,int (W ((IntKind.i64.wrap (Int.fdiv (IntKind.u64.wrap (W (b1+b3))) (2 ^ min (Int.toNat 1) (IntKind.bits .u64))))+b2)))] [(63,.obj true 3 1 (b0.map int))] (fun p81 S=>(0,.own 63 (b0.map int).length)::(20,int p81)::S) (fun p81 M=>M) (fun p81=>p81=o67) ?_ ?_
 ·intro JJ70 hmeet69
  have hup68:=h;clear h;have h:=ho67;clear ho67
  refine Run.block ?_
  refine R.lp (β:=Int×Int) [(1,int b1),(2,int b2),(3,int b3),(4,.fn g4id g4c),(18,int (IntKind.i64.wrap (Int.fdiv (IntKind.u64.wrap (W (b1+b3))) (2 ^ min (Int.toNat 1) (IntKind.bits .u64))))),(19,int (W ((IntKind.i64.wrap (Int.fdiv (IntKind.u64.wrap (W (b1+b3))) (2 ^ min (Int.toNat 1) (IntKind.bits .u64))))+b2))),(22,int (W ((W ((IntKind.i64.wrap (Int.fdiv (IntKind.u64.wrap (W (b1+b3))) (2 ^ min (Int.toNat 1) (IntKind.bits .u64))))+b2)) - 1)))] [(63,.obj true 3 1 (b0.map int))] (fun bb S=>(0,.own 63 (b0.map int).length)::(20,int bb.1)::(21,int bb.2)::S) (fun bb M=>M) (fun n bb=>B0k b0 b1 b2 b3 g4 n bb.1 bb.2=some o67) F0 (p66.1,p66.2) h ?_
  clear h
  rintro JJ70 n70 ⟨a72,a73⟩ hag70 h
  dsimp only at h
  obtain _ | n70:=n70
  ·exact absurd h (by simp [B0k])
  rw [B0k] at h
  refine Run.seq (Run.sr (X.mv ?_))
  refine X.mv ?_
  refine X.bi ?_
  refine X.nil ?_
  refine R.cd (fun hc76=>?_) (fun hc76=>?_)
  ·replace h:=condT hc76 h
   refine Run.skip (Run.block (Run.sr (X.mv ?_)))
   refine X.mv ?_
   refine X.addW (h:=?_)
   refine X.conv Tryz.underlying162 (by rw [Tryz.underlying3];rfl) (by rfl) (by rfl) ?_
   refine X.shr (by rfl) (by rfl) (by decide) (by rfl) ?_
   refine X.conv Tryz.underlying3 (by rw [Tryz.underlying162];rfl) (by rfl) (by rfl) ?_
   refine X.an ?_
   refine Run.seq (Run.draw (D0a [(5,([],[],[63],[])),(6,([63],[],[],[])),(9,([],[],[63],[])),(10,([63],[],[],[]))]) mixed (by kernel_rfl) (by kernel_rfl) ?_)
   refine X.mv ?_
   refine X.mv ?_
   refine X.mv ?_
   refine X.mv ?_
   refine X.subW (h:=?_)
   obtain ⟨v77,hv77,h⟩:=bindE h
   refine X.index_xs elt25 (by rfl) (by rfl) (by first | rfl | simp [setL] | omega) (by rfl) (by exact (Int.toNat_of_nonneg (A0a hv77).1).symm) (by have:=A0o hv77;first | exact this | (rw [List.length_map];exact this)) (by rfl) (by rfl) ?_
   refine X.load_e shp3 (by rfl) (by rfl) (by rfl) (by first | rfl | simp [setL] | omega) (A0b _ hv77) (by rfl) (by rfl) (by rfl) ?_
   refine X.mv ?_
   refine X.mv ?_
   obtain ⟨v78,hv78,h⟩:=bindE h
   refine X.index_xs elt25 (by rfl) (by rfl) (by first | rfl | simp [setL] | omega) (by rfl) (by exact (Int.toNat_of_nonneg (A0a hv78).1).symm) (by have:=A0o hv78;first | exact this | (rw [List.length_map];exact this)) (by rfl) (by rfl) ?_
   refine X.load_e shp3 (by rfl) (by rfl) (by rfl) (by first | rfl | simp [setL] | omega) (A0b _ hv78) (by rfl) (by rfl) (by rfl) ?_
   obtain ⟨v79,hv79,h⟩:=bindE h
   refine X.cp (hg4 _ _ _ hv79) ?_
   refine X.bi ?_
   refine X.un (h:=?_)
   refine X.nil ?_
   refine R.cd (fun hc80=>?_) (fun hc80=>?_)
   ·replace h:=condT hc80 h
    refine Run.reg (X.mv ?_)
    refine X.addW (h:=?_)
    refine X.an ?_
    refine Run.blk ?_
    exact hag70 n70 ((W ((IntKind.i64.wrap (Int.fdiv (IntKind.u64.wrap (W (a72+a73))) (2 ^ min (Int.toNat 1) (IntKind.bits .u64))))+1)),a73) _ _ (by omega) h (by repeat (first | trivial | refine ⟨by first | rfl | simp [setL],?_⟩)) (by repeat (first | trivial | refine ⟨by first | rfl | simp [setL],?_⟩)) (by rfl) (by rfl)
   replace h:=condF hc80 h
   refine Run.reg (X.mv ?_)
   refine X.an ?_
   refine Run.blk ?_
   exact hag70 n70 (a72,(IntKind.i64.wrap (Int.fdiv (IntKind.u64.wrap (W (a72+a73))) (2 ^ min (Int.toNat 1) (IntKind.bits .u64))))) _ _ (by omega) h (by repeat (first | trivial | refine ⟨by first | rfl | simp [setL],?_⟩)) (by repeat (first | trivial | refine ⟨by first | rfl | simp [setL],?_⟩)) (by rfl) (by rfl)
  replace h:=condF hc76 h
  refine Run.exit (by rfl) ?_
  exact R.mt hmeet69 a72 (Option.some.inj h)
 rintro p81 rfl
 refine Run.sr (X.mv ?_)
 refine X.mv ?_
 refine X.subW (h:=?_)
 refine X.an ?_
 refine Run.seq (Run.seq ?_)
 obtain ⟨e82,he82,h2⟩:=bindE h
 refine R.regG [(0,.own 63 (b0.map int).length),(1,int b1),(2,int b2),(3,int b3),(4,.fn g4id g4c),(18,int (IntKind.i64.wrap (Int.fdiv (IntKind.u64.wrap (W (b1+b3))) (2 ^ min (Int.toNat 1) (IntKind.bits .u64))))),(20,int p81),(24,int (W ((W ((IntKind.i64.wrap (Int.fdiv (IntKind.u64.wrap (W (b1+b3))) (2 ^ min (Int.toNat 1) (IntKind.bits .u64))))+b2)) - p81))),(185,bool e82)] [(63,.obj true 3 1 (b0.map int))] ?_ ?_
 ·clear h;have h:=he82;clear he82 h2
  refine X.mv ?_
  refine X.mv ?_
  refine X.bi ?_
  refine X.mv ?_
  refine X.iG (fun hb83=>?_) (fun hb83=>?_)
  ·replace h:=condT hb83 h
   refine X.mv ?_
   refine X.gy (X.mv ?_)
   refine X.gy (X.bi ?_)
   refine X.pT ?_
   cases h
   exact X.eG
  replace h:=condF hb83 h
  refine X.gn (X.gn (X.pF ?_))
  cases h
  exact X.eG
 replace h:=h2;clear h2
 obtain ⟨o84,ho84,h⟩:=bindE h
 refine R.join2 (β:=(List Int)) [(1,int b1),(3,int b3),(4,.fn g4id g4c),(18,int (IntKind.i64.wrap (Int.fdiv (IntKind.u64.wrap (W (b1+b3))) (2 ^ min (Int.toNat 1) (IntKind.bits .u64))))),(20,int p81),(24,int (W ((W ((IntKind.i64.wrap (Int.fdiv (IntKind.u64.wrap (W (b1+b3))) (2 ^ min (Int.toNat 1) (IntKind.bits .u64))))+b2)) - p81)))] [] (fun p90 S=>(0,.own 63 (p90.map int).length)::S) (fun p90 M=>(63,.obj true 3 1 (p90.map int))::M) (fun p90=>p90=o84) ?_ ?_
 ·intro JJ87 hmeet86
  have hup85:=h;clear h;have h:=ho84;clear ho84
  refine R.cd (fun hc88=>?_) (fun hc88=>?_)
  ·replace h:=condT hc88 h
   refine Run.reg (X.mv ?_)
   refine X.mv ?_
   refine X.mv ?_
   refine X.mv ?_
   refine X.mv ?_
   obtain ⟨v89,hv89,h⟩:=bindE h
   refine X.callR [(63,63)] [(63,(b0.map int).length)] [(63,(v89.map int).length)] (N0v _ _ _ _ g4 _ _ hg4 _ hv89) (by rfl) (by rfl) (.ownB 63 (by rfl) (by first | rfl | simp [setL] | omega) (by rfl) (.pureB (by rfl) (by repeat (first | trivial | refine ⟨by first | rfl | simp [setL],?_⟩)) (.pureB (by rfl) (by repeat (first | trivial | refine ⟨by first | rfl | simp [setL],?_⟩)) (.pureB (by rfl) (by repeat (first | trivial | refine ⟨by first | rfl | simp [setL],?_⟩)) (.pureB (by rfl) (by repeat (first | trivial | refine ⟨by first | rfl | simp [setL],?_⟩)) .nil))))) (by rfl) ⟨rfl,rfl,⟨_,by rfl,by constructor⟩,by constructor,trivial⟩ (by rfl) (by rfl) (by rfl) (by rfl) ⟨rfl,⟨_,_,_,_,by rfl,by rfl⟩,⟨_,_,_,_,by rfl,by rfl⟩,trivial⟩ (by rfl) (by repeat (first | trivial | refine ⟨by first | rfl | simp [setL],?_⟩)) (by rfl) (by rfl) (by rfl) (by rfl) (by rfl) ?_
   refine X.nil ?_
   exact R.mt hmeet86 v89 (Option.some.inj h)
  replace h:=condF hc88 h
  refine Run.skip ?_
  exact R.mt hmeet86 b0 (Option.some.inj h)
 rintro p90 rfl
 refine Run.seq (Run.seq ?_)
 obtain ⟨e91,he91,h2⟩:=bindE h
 refine R.regG [(0,.own 63 (p90.map int).length),(1,int b1),(3,int b3),(4,.fn g4id g4c),(18,int (IntKind.i64.wrap (Int.fdiv (IntKind.u64.wrap (W (b1+b3))) (2 ^ min (Int.toNat 1) (IntKind.bits .u64))))),(20,int p81),(24,int (W ((W ((IntKind.i64.wrap (Int.fdiv (IntKind.u64.wrap (W (b1+b3))) (2 ^ min (Int.toNat 1) (IntKind.bits .u64))))+b2)) - p81))),(199,bool e91)] [(63,.obj true 3 1 (p90.map int))] ?_ ?_
 ·clear h;have h:=he91;clear he91 h2
  refine X.mv ?_
  refine X.mv ?_
  refine X.bi ?_
  refine X.mv ?_
  refine X.iG (fun hb92=>?_) (fun hb92=>?_)
  ·replace h:=condT hb92 h
   refine X.mv ?_
   refine X.gy (X.mv ?_)
   refine X.gy (X.bi ?_)
   refine X.pT ?_
   cases h
   exact X.eG
  replace h:=condF hb92 h
  refine X.gn (X.gn (X.pF ?_))
  cases h
  exact X.eG
 replace h:=h2;clear h2
 obtain ⟨o93,ho93,h⟩:=bindE h
 refine R.join2 (β:=Unit) [(3,int b3),(4,.fn g4id g4c),(18,int (IntKind.i64.wrap (Int.fdiv (IntKind.u64.wrap (W (b1+b3))) (2 ^ min (Int.toNat 1) (IntKind.bits .u64))))),(24,int (W ((W ((IntKind.i64.wrap (Int.fdiv (IntKind.u64.wrap (W (b1+b3))) (2 ^ min (Int.toNat 1) (IntKind.bits .u64))))+b2)) - p81)))] [(63,.obj true 3 1 (p90.map int))] (fun p98 S=>(0,.own 63 (p90.map int).length)::S) (fun p98 M=>M) (fun p98=>p98=o93) ?_ ?_
 ·intro JJ96 hmeet95
  have hup94:=h;clear h;have h:=ho93;clear ho93
  refine R.cd (fun hc97=>?_) (fun hc97=>?_)
  ·replace h:=condT hc97 h
   exact absurd h (by simp)
  replace h:=condF hc97 h
  refine Run.skip ?_
  exact R.mt hmeet95 () (Option.some.inj h)
 rintro p98 rfl
 refine Run.seq ?_
 obtain ⟨e99,he99,h2⟩:=bindE h
 refine R.regG [(0,.own 63 (p90.map int).length),(3,int b3),(4,.fn g4id g4c),(18,int (IntKind.i64.wrap (Int.fdiv (IntKind.u64.wrap (W (b1+b3))) (2 ^ min (Int.toNat 1) (IntKind.bits .u64))))),(24,int (W ((W ((IntKind.i64.wrap (Int.fdiv (IntKind.u64.wrap (W (b1+b3))) (2 ^ min (Int.toNat 1) (IntKind.bits .u64))))+b2)) - p81))),(213,bool e99)] [(63,.obj true 3 1 (p90.map int))] ?_ ?_
 ·clear h;have h:=he99;clear he99 h2
  refine X.mv ?_
  refine X.mv ?_
  refine X.bi ?_
  refine X.mv ?_
  refine X.iG (fun hb100=>?_) (fun hb100=>?_)
  ·replace h:=condT hb100 h
   refine X.mv ?_
   refine X.gy (X.mv ?_)
   refine X.gy (X.bi ?_)
   refine X.pT ?_
   cases h
   exact X.eG
  replace h:=condF hb100 h
  refine X.gn (X.gn (X.pF ?_))
  cases h
  exact X.eG
 replace h:=h2;clear h2
 refine R.cd (fun hc101=>?_) (fun hc101=>?_)
 ·replace h:=condT hc101 h
  exact absurd h (by simp)
 replace h:=condF hc101 h
 refine Run.skip ?_
 cases h
 exact R.endM0 Tryz.results155 (by repeat (first | exact trivial | refine ⟨by rfl,?_⟩)) rfl
theorem P0b (b0:List Int)(b1:Int)(g2:Int→Int→Option Int)(g2id:Nat)(g2c:List PV)(hg2:∀(x0:Int) (x1:Int) v,g2 x0 x1=some v→PC Tryz.prog g2id ([int x0,int x1] ++ g2c) (int v))(r:(List Int))(h:E0r b0 b1 g2=some r):PCM Tryz.prog 136 [.own 63 (b0.map int).length,int b1,.fn g2id g2c] [(63,.obj true 3 1 (b0.map int))] (.tuple []) [(63,.obj true 3 1 (r.map int))]:=by
 unfold E0r at h
 refine PCM.start Tryz.func136 Tryz.ntmps136 rfl ok136 rfl (by rfl) (by rfl) (by rfl) (by rfl) (by rfl) ?_
 refine Run.sr (X.an ?_)
 refine Run.sr (X.mv ?_)
 refine X.as ?_
 refine X.an ?_
 refine Run.seq ?_
 obtain ⟨o1,ho1,h⟩:=bindE h
 refine R.join2 (β:=Int×(List Int)) [(1,int b1),(2,.fn g2id g2c),(6,int 20)] [] (fun p13 S=>(0,.own 63 (p13.2.map int).length)::(7,int p13.1)::S) (fun p13 M=>(63,.obj true 3 1 (p13.2.map int))::M) (fun p13=>p13=o1) ?_ ?_
 ·intro JJ4 hmeet3
  have hup2:=h;clear h;have h:=ho1;clear ho1
  refine Run.block ?_
  refine R.lp (β:=Int×Int×(List Int)) [(1,int b1),(2,.fn g2id g2c),(6,int 20)] [] (fun bb S=>(0,.own 63 (bb.2.2.map int).length)::(7,int bb.1)::(8,int bb.2.1)::S) (fun bb M=>(63,.obj true 3 1 (bb.2.2.map int))::M) (fun n bb=>B0g b1 g2 n bb.1 bb.2.1 bb.2.2=some o1) F0 (0,20,b0) h ?_
  clear h
  rintro JJ4 n4 ⟨a6,a7,a8⟩ hag4 h
  dsimp only at h
  obtain _ | n4:=n4
  ·exact absurd h (by simp [B0g])
  rw [B0g] at h
  refine Run.seq (Run.sr (X.mv ?_))
  refine X.mv ?_
  refine X.bi ?_
  refine X.nil ?_
  refine R.cd (fun hc11=>?_) (fun hc11=>?_)
  ·replace h:=condT hc11 h
   refine Run.skip (Run.block (Run.sr (X.mv ?_)))
   refine X.mv ?_
   refine X.mv ?_
   refine X.mv ?_
   obtain ⟨v12,hv12,h⟩:=bindE h
   refine X.callR [(63,63)] [(63,(a8.map int).length)] [(63,(v12.map int).length)] (F0v _ _ _ g2 _ _ hg2 _ hv12) (by rfl) (by rfl) (.ownB 63 (by rfl) (by first | rfl | simp [setL] | omega) (by rfl) (.pureB (by rfl) (by repeat (first | trivial | refine ⟨by first | rfl | simp [setL],?_⟩)) (.pureB (by rfl) (by repeat (first | trivial | refine ⟨by first | rfl | simp [setL],?_⟩)) (.pureB (by rfl) (by repeat (first | trivial | refine ⟨by first | rfl | simp [setL],?_⟩)) .nil)))) (by rfl) ⟨rfl,rfl,⟨_,by rfl,by constructor⟩,by constructor,trivial⟩ (by rfl) (by rfl) (by rfl) (by rfl) ⟨rfl,⟨_,_,_,_,by rfl,by rfl⟩,⟨_,_,_,_,by rfl,by rfl⟩,trivial⟩ (by rfl) (by repeat (first | trivial | refine ⟨by first | rfl | simp [setL],?_⟩)) (by rfl) (by rfl) (by rfl) (by rfl) (by rfl) ?_
   refine X.nil (Run.sr (X.mv ?_))
   refine X.an ?_
   refine Run.reg (X.mv ?_)
   refine X.mv ?_
   refine X.addW (h:=?_)
   refine X.an ?_
   refine Run.blk ?_
   exact hag4 n4 (a7,(W (a7+20)),v12) _ _ (by omega) h (by repeat (first | trivial | refine ⟨by first | rfl | simp [setL],?_⟩)) (by repeat (first | trivial | refine ⟨by first | rfl | simp [setL],?_⟩)) (by rfl) (by rfl)
  replace h:=condF hc11 h
  refine Run.exit (by rfl) ?_
  exact R.mt hmeet3 (a6,a8) (Option.some.inj h)
 rintro p13 rfl
 refine Run.sr (X.mv ?_)
 refine X.mv ?_
 refine X.mv ?_
 refine X.mv ?_
 obtain ⟨v14,hv14,h⟩:=bindE h
 refine X.callR [(63,63)] [(63,(p13.2.map int).length)] [(63,(v14.map int).length)] (F0v _ _ _ g2 _ _ hg2 _ hv14) (by rfl) (by rfl) (.ownB 63 (by rfl) (by first | rfl | simp [setL] | omega) (by rfl) (.pureB (by rfl) (by repeat (first | trivial | refine ⟨by first | rfl | simp [setL],?_⟩)) (.pureB (by rfl) (by repeat (first | trivial | refine ⟨by first | rfl | simp [setL],?_⟩)) (.pureB (by rfl) (by repeat (first | trivial | refine ⟨by first | rfl | simp [setL],?_⟩)) .nil)))) (by rfl) ⟨rfl,rfl,⟨_,by rfl,by constructor⟩,by constructor,trivial⟩ (by rfl) (by rfl) (by rfl) (by rfl) ⟨rfl,⟨_,_,_,_,by rfl,by rfl⟩,⟨_,_,_,_,by rfl,by rfl⟩,trivial⟩ (by rfl) (by repeat (first | trivial | refine ⟨by first | rfl | simp [setL],?_⟩)) (by rfl) (by rfl) (by rfl) (by rfl) (by rfl) ?_
 refine X.nil ?_
 obtain ⟨o15,ho15,h⟩:=bindE h
 refine R.join2 (β:=(List Int)) [] [] (fun p40 S=>S) (fun p40 M=>(63,.obj true 3 1 (p40.map int))::M) (fun p40=>p40=o15) ?_ ?_
 ·intro JJ18 hmeet17
  have hup16:=h;clear h;have h:=ho15;clear ho15
  refine Run.block ?_
  refine R.lp (β:=Int×(List Int)) [(1,int b1),(2,.fn g2id g2c)] [] (fun bb S=>(0,.own 63 (bb.2.map int).length)::(6,int bb.1)::S) (fun bb M=>(63,.obj true 3 1 (bb.2.map int))::M) (fun n bb=>B0b b1 g2 n bb.1 bb.2=some o15) F0 (20,v14) h ?_
  clear h
  rintro JJ18 n18 ⟨a20,a21⟩ hag18 h
  dsimp only at h
  obtain _ | n18:=n18
  ·exact absurd h (by simp [B0b])
  rw [B0b] at h
  refine Run.seq (Run.sr (X.mv ?_))
  refine X.mv ?_
  refine X.bi ?_
  refine X.nil ?_
  refine R.cd (fun hc24=>?_) (fun hc24=>?_)
  ·replace h:=condT hc24 h
   refine Run.skip (Run.block (Run.sr (X.mv ?_)))
   refine X.mulW (by rfl) (by rfl) (by rfl) ?_
   refine X.as ?_
   refine X.an ?_
   refine Run.seq ?_
   obtain ⟨o25,ho25,h⟩:=bindE h
   refine R.join2 (β:=Int×(List Int)) [(1,int b1),(2,.fn g2id g2c),(6,int a20)] [] (fun p37 S=>(0,.own 63 (p37.2.map int).length)::(7,int p37.1)::S) (fun p37 M=>(63,.obj true 3 1 (p37.2.map int))::M) (fun p37=>p37=o25) ?_ ?_
   ·intro JJ28 hmeet27
    have hup26:=h;clear h;have h:=ho25;clear ho25
    refine Run.block ?_
    refine R.lp (β:=Int×Int×(List Int)) [(1,int b1),(2,.fn g2id g2c),(6,int a20)] [] (fun bb S=>(0,.own 63 (bb.2.2.map int).length)::(7,int bb.1)::(8,int bb.2.1)::S) (fun bb M=>(63,.obj true 3 1 (bb.2.2.map int))::M) (fun n bb=>C0h b1 g2 a20 n bb.1 bb.2.1 bb.2.2=some o25) F0 (0,(W (2*a20)),a21) h ?_
    clear h
    rintro JJ28 n28 ⟨a30,a31,a32⟩ hag28 h
    dsimp only at h
    obtain _ | n28:=n28
    ·exact absurd h (by simp [C0h])
    rw [C0h] at h
    refine Run.seq (Run.sr (X.mv ?_))
    refine X.mv ?_
    refine X.bi ?_
    refine X.nil ?_
    refine R.cd (fun hc35=>?_) (fun hc35=>?_)
    ·replace h:=condT hc35 h
     refine Run.skip (Run.block (Run.sr (X.mv ?_)))
     refine X.mv ?_
     refine X.mv ?_
     refine X.mv ?_
     refine X.addW (h:=?_)
     refine X.mv ?_
     refine X.mv ?_
     obtain ⟨v36,hv36,h⟩:=bindE h
     refine X.callR [(63,63)] [(63,(a32.map int).length)] [(63,(v36.map int).length)] (H0u _ _ _ _ g2 _ _ hg2 _ hv36) (by rfl) (by rfl) (.ownB 63 (by rfl) (by first | rfl | simp [setL] | omega) (by rfl) (.pureB (by rfl) (by repeat (first | trivial | refine ⟨by first | rfl | simp [setL],?_⟩)) (.pureB (by rfl) (by repeat (first | trivial | refine ⟨by first | rfl | simp [setL],?_⟩)) (.pureB (by rfl) (by repeat (first | trivial | refine ⟨by first | rfl | simp [setL],?_⟩)) (.pureB (by rfl) (by repeat (first | trivial | refine ⟨by first | rfl | simp [setL],?_⟩)) .nil))))) (by rfl) ⟨rfl,rfl,⟨_,by rfl,by constructor⟩,by constructor,trivial⟩ (by rfl) (by rfl) (by rfl) (by rfl) ⟨rfl,⟨_,_,_,_,by rfl,by rfl⟩,⟨_,_,_,_,by rfl,by rfl⟩,trivial⟩ (by rfl) (by repeat (first | trivial | refine ⟨by first | rfl | simp [setL],?_⟩)) (by rfl) (by rfl) (by rfl) (by rfl) (by rfl) ?_
     refine X.nil (Run.sr (X.mv ?_))
     refine X.an ?_
     refine Run.reg (X.mv ?_)
     refine X.mv ?_
     refine X.mulW (by rfl) (by rfl) (by rfl) ?_
     refine X.addW (h:=?_)
     refine X.an ?_
     refine Run.blk ?_
     exact hag28 n28 (a31,(W (a31+(W (2*a20)))),v36) _ _ (by omega) h (by repeat (first | trivial | refine ⟨by first | rfl | simp [setL],?_⟩)) (by repeat (first | trivial | refine ⟨by first | rfl | simp [setL],?_⟩)) (by rfl) (by rfl)
    replace h:=condF hc35 h
    refine Run.exit (by rfl) ?_
    exact R.mt hmeet27 (a30,a32) (Option.some.inj h)
   rintro p37 rfl
   refine Run.seq (Run.sr (X.mv ?_))
   refine X.mv ?_
   refine X.addW (h:=?_)
   refine X.an ?_
   refine Run.sr (X.mv ?_)
   refine X.mv ?_
   refine X.bi ?_
   refine X.nil ?_
   refine R.cd (fun hc38=>?_) (fun hc38=>?_)
   ·replace h:=condT hc38 h
    refine Run.reg (X.mv ?_)
    refine X.mv ?_
    refine X.mv ?_
    refine X.mv ?_
    refine X.mv ?_
    obtain ⟨v39,hv39,h⟩:=bindE h
    refine X.callR [(63,63)] [(63,(p37.2.map int).length)] [(63,(v39.map int).length)] (H0u _ _ _ _ g2 _ _ hg2 _ hv39) (by rfl) (by rfl) (.ownB 63 (by rfl) (by first | rfl | simp [setL] | omega) (by rfl) (.pureB (by rfl) (by repeat (first | trivial | refine ⟨by first | rfl | simp [setL],?_⟩)) (.pureB (by rfl) (by repeat (first | trivial | refine ⟨by first | rfl | simp [setL],?_⟩)) (.pureB (by rfl) (by repeat (first | trivial | refine ⟨by first | rfl | simp [setL],?_⟩)) (.pureB (by rfl) (by repeat (first | trivial | refine ⟨by first | rfl | simp [setL],?_⟩)) .nil))))) (by rfl) ⟨rfl,rfl,⟨_,by rfl,by constructor⟩,by constructor,trivial⟩ (by rfl) (by rfl) (by rfl) (by rfl) ⟨rfl,⟨_,_,_,_,by rfl,by rfl⟩,⟨_,_,_,_,by rfl,by rfl⟩,trivial⟩ (by rfl) (by repeat (first | trivial | refine ⟨by first | rfl | simp [setL],?_⟩)) (by rfl) (by rfl) (by rfl) (by rfl) (by rfl) ?_
    refine X.nil (Run.reg (X.mv ?_))
    refine X.mulW (by rfl) (by rfl) (by rfl) ?_
    refine X.an ?_
    refine Run.blk ?_
    exact hag18 n18 ((W (a20*2)),v39) _ _ (by omega) h (by repeat (first | trivial | refine ⟨by first | rfl | simp [setL],?_⟩)) (by repeat (first | trivial | refine ⟨by first | rfl | simp [setL],?_⟩)) (by rfl) (by rfl)
   replace h:=condF hc38 h
   refine Run.skip (Run.reg (X.mv ?_))
   refine X.mulW (by rfl) (by rfl) (by rfl) ?_
   refine X.an ?_
   refine Run.blk ?_
   exact hag18 n18 ((W (a20*2)),p37.2) _ _ (by omega) h (by repeat (first | trivial | refine ⟨by first | rfl | simp [setL],?_⟩)) (by repeat (first | trivial | refine ⟨by first | rfl | simp [setL],?_⟩)) (by rfl) (by rfl)
  replace h:=condF hc24 h
  refine Run.exit (by rfl) ?_
  exact R.mt hmeet17 a21 (Option.some.inj h)
 rintro p40 rfl
 cases h
 exact R.endM0 Tryz.results136 (by repeat (first | exact trivial | refine ⟨by rfl,?_⟩)) rfl
theorem M0t (b0:List Int)(g1:Int→Int→Option Int)(g1id:Nat)(g1c:List PV)(hg1:∀(x0:Int) (x1:Int) v,g1 x0 x1=some v→PC Tryz.prog g1id ([int x0,int x1] ++ g1c) (int v))(r:(List Int))(h:C0s b0 g1=some r):PCM Tryz.prog 96 [.own 63 (b0.map int).length,.fn g1id g1c] [(63,.obj true 3 1 (b0.map int))] (.tuple []) [(63,.obj true 3 1 (r.map int))]:=by
 unfold C0s at h
 refine PCM.start Tryz.func96 Tryz.ntmps96 rfl ok96 rfl (by rfl) (by rfl) (by rfl) (by rfl) (by rfl) ?_
 refine Run.reg (X.mv ?_)
 refine X.mv ?_
 refine X.len_o elt25 (by rfl) (by rfl) (by first | rfl | simp [setL] | omega) (by first | exact List.length_map .. | rfl) (by rfl) (by rfl) ?_
 refine X.mv ?_
 obtain ⟨v1,hv1,h⟩:=bindE h
 refine X.callR [(63,63)] [(63,(b0.map int).length)] [(63,(v1.map int).length)] (P0b _ _ g1 _ _ hg1 _ hv1) (by rfl) (by rfl) (.ownB 63 (by rfl) (by first | rfl | simp [setL] | omega) (by rfl) (.pureB (by rfl) (by repeat (first | trivial | refine ⟨by first | rfl | simp [setL],?_⟩)) (.pureB (by rfl) (by repeat (first | trivial | refine ⟨by first | rfl | simp [setL],?_⟩)) .nil))) (by rfl) ⟨rfl,rfl,⟨_,by rfl,by constructor⟩,by constructor,trivial⟩ (by rfl) (by rfl) (by rfl) (by rfl) ⟨rfl,⟨_,_,_,_,by rfl,by rfl⟩,⟨_,_,_,_,by rfl,by rfl⟩,trivial⟩ (by rfl) (by repeat (first | trivial | refine ⟨by first | rfl | simp [setL],?_⟩)) (by rfl) (by rfl) (by rfl) (by rfl) (by rfl) ?_
 refine X.nil ?_
 cases h
 exact R.endM0 Tryz.results96 (by repeat (first | exact trivial | refine ⟨by rfl,?_⟩)) rfl
theorem J0b (b0:A0d)(g1:Int→Option Int)(g1id:Nat)(g1c:List PV)(hg1:∀(x0:Int) v,g1 x0=some v→PCx Tryz.prog g1id [int x0] g1c (int v))(r:List Int)(h:D0m b0 g1=some r):PC Tryz.prog 45 [A0v b0,.fn g1id g1c] (.fresh true 3 1 (r.map int)):=by
 unfold D0m at h
 refine PC.start Tryz.func45 Tryz.ntmps45 rfl ok45 rfl ?_
 refine Run.sr (X.bx ?_)
 refine X.bx ?_
 refine X.an ?_
 refine Run.sr (X.fl D0p ?_)
 refine X.ld shp30 ?_
 refine X.ls elt30 ?_
 obtain ⟨v1,hv1,h⟩:=bindE h
 refine X.callF (V0d _ _ hv1) (by rfl) (by rfl) (by rfl) (by trivial) (by rfl) (by rfl) (by rfl) (by rfl) ?_
 refine X.an ?_
 refine Run.seq ?_
 refine R.pubBlk (n:=192) (by rfl) (by rfl) (by repeat (first | trivial | refine ⟨by first | rfl | simp [setL],?_⟩)) ?_
 refine Run.reg (X.mv ?_)
 refine X.makeFunc (by rfl) (by rfl) (by repeat (first | trivial | refine ⟨by first | rfl | simp [setL],?_⟩)) (by rfl) (by rfl) ?_
 obtain ⟨v2,hv2,h⟩:=bindE h
 refine X.callR [(63,576)] [(576,(v1.map int).length)] [(576,(v2.map int).length)] (M0t _ (fun x0 x1=>E0v x0 x1 g1) _ _ (fun x0 x1 v hv=>R0s _ _ g1 _ _ hg1 _ hv) _ hv2) (by rfl) (by rfl) (.ownB 63 (by rfl) (by first | rfl | simp [setL] | omega) (by rfl) (.pureB (by rfl) (by repeat (first | trivial | refine ⟨by first | rfl | simp [setL],?_⟩)) .nil)) (by rfl) ⟨rfl,rfl,⟨_,by rfl,by constructor⟩,by constructor,trivial⟩ (by rfl) (by rfl) (by rfl) (by rfl) ⟨rfl,⟨_,_,_,_,by rfl,by rfl⟩,⟨_,_,_,_,by rfl,by rfl⟩,trivial⟩ (by rfl) (by repeat (first | trivial | refine ⟨by first | rfl | simp [setL],?_⟩)) (by rfl) (by rfl) (by rfl) (by rfl) (by rfl) ?_
 refine X.nil (Run.sr (X.mv ?_))
 refine X.an ?_
 cases h
 refine R.fin1o Tryz.results45 (by rfl) (by rfl) (by first | rfl | simp [setL] | omega) ?_
 rfl
theorem R0v (b0:Int)(r:Int)(h:G0j b0=some r):PC Tryz.prog 46 [int b0] (int r):=by
 unfold G0j at h
 refine PC.start Tryz.func46 Tryz.ntmps46 rfl ok46 rfl ?_
 refine Run.sr (X.an ?_)
 refine Run.sr (X.an ?_)
 cases h
 refine R.f1 Tryz.results46 ?_
 rfl
theorem W0p (b0:A0d)(b1:Int)(r:List Int)(h:J0x b0 b1=some r):PC Tryz.prog 47 [A0v b0,int b1] (.fresh false 3 1 (r.map int)):=by
 unfold J0x at h
 refine PC.start Tryz.func47 Tryz.ntmps47 rfl ok47 rfl ?_
 refine Run.sr (X.bx ?_)
 refine X.an ?_
 refine Run.sr ?_
 refine X.buildSlice false elt25 zer3 (by rfl) (by rfl) (by rfl) (by rfl) (by rfl) (by rfl) (by repeat (first | trivial | refine ⟨by first | rfl | simp [setL],?_⟩)) (A0w (by rfl)) (by rfl) (by rfl) (by rfl) ?_
 refine X.an ?_
 refine Run.seq (Run.sr (X.ld shp34 ?_))
 obtain ⟨v1,hv1,h⟩:=bindE h
 refine X.callTr (P0s _ _ hv1) (by rfl) (by rfl) (by rfl) (by trivial) (by rfl) (by rfl) (by rfl) (by rfl) ?_
 refine X.lenT (z:=(v1.length:Int)) elt59 (by rfl) (by rfl) (by first | rfl | simp [setL] | omega) (by simp) (by rfl) (by rfl) ?_
 refine X.mn ?_
 obtain ⟨o2,ho2,h⟩:=bindE h
 refine R.join2 (β:=(List Int)) [] [] (fun p34 S=>(5,.own 832 (p34.map int).length)::S) (fun p34 M=>(832,.obj false 3 1 (p34.map int))::M) (fun p34=>p34=o2) ?_ ?_
 ·intro JJ5 hmeet4
  have hup3:=h;clear h;have h:=ho2;clear ho2
  refine Run.block ?_
  refine R.lp (β:=Int×(List Int)) [(1,int b1),(2,.lptr 128 0),(16,int (v1.length:Int))] [(128,.blk true [int b0.Deadline,.slice (b0.Activities.map A0c),.slice (b0.Links.map A0k),.slice (b0.Resources.map A0e),.slice (b0.Stocks.map int)]),(960,.tre 25 1 (v1.map t_int))] (fun bb S=>(5,.own 832 (bb.2.map int).length)::(15,.tref 960 (v1.map t_int).length .out)::(17,int bb.1)::S) (fun bb M=>(832,.obj false 3 1 (bb.2.map int))::M) (fun n bb=>C0i b0 b1 v1 n bb.1 bb.2=some o2) F0 (0,([]:List Int)) h ?_
  clear h
  rintro JJ6 n6 ⟨a8,a9⟩ hag6 h
  dsimp only at h
  obtain _ | n6:=n6
  ·exact absurd h (by simp [C0i])
  rw [C0i] at h
  refine Run.sr (X.bi ?_)
  refine X.nil (Run.seq ?_)
  refine R.cd (fun hc12=>?_) (fun hc12=>?_)
  ·replace h:=condT hc12 h
   refine Run.skip (Run.seq (Run.block (Run.sr ?_)))
   obtain ⟨v13,hv13,h⟩:=bindE h
   refine X.idxT (l:=v1.map t_int) elt59 ⟨(A0a hv13).1,by have h0:=(A0a hv13).1;have h1:=A0o hv13;rw [List.length_map];(try dsimp only);omega⟩ (by first | rfl | simp [setL] | omega) ?_
   refine X.ldRow (sz:=1) shp25 (A0m (off:=0) (by exact A0h (f:=t_int) (fun _=>rfl)) (A0b t_int hv13) (by rfl)) (by first | rfl | simp [setL] | omega) ?_
   refine X.an ?_
   refine Run.sr (X.as ?_)
   refine X.an ?_
   refine Run.seq (Run.sr (X.mv ?_))
   refine X.lenR (l:=v1.map t_int) (rl:=v13.map int) (z:=(v13.length:Int)) elt25 (A0m (off:=0) (by exact A0h (f:=t_int) (fun _=>rfl)) (A0b t_int hv13) (by rfl)) (by simp) (by first | rfl | simp [setL] | omega) ?_
   refine X.mn ?_
   obtain ⟨o14,ho14,h⟩:=bindE h
   refine R.join2 (β:=Int) [(1,int b1),(2,.lptr 128 0),(16,int (v1.length:Int)),(17,int a8)] [(128,.blk true [int b0.Deadline,.slice (b0.Activities.map A0c),.slice (b0.Links.map A0k),.slice (b0.Resources.map A0e),.slice (b0.Stocks.map int)]),(832,.obj false 3 1 (a9.map int)),(960,.tre 25 1 (v1.map t_int))] (fun p32 S=>(5,.own 832 (a9.map int).length)::(8,int p32)::(15,.tref 960 (v1.map t_int).length .out)::S) (fun p32 M=>M) (fun p32=>p32=o14) ?_ ?_
   ·intro JJ17 hmeet16
    have hup15:=h;clear h;have h:=ho14;clear ho14
    refine Run.block ?_
    refine R.lp (β:=Int×Bool×Int) [(1,int b1),(2,.lptr 128 0),(16,int (v1.length:Int)),(17,int a8),(21,.tref 960 (v1.map t_int).length (.row ((a8).toNat*1+0))),(22,int (v13.length:Int))] [(128,.blk true [int b0.Deadline,.slice (b0.Activities.map A0c),.slice (b0.Links.map A0k),.slice (b0.Resources.map A0e),.slice (b0.Stocks.map int)]),(832,.obj false 3 1 (a9.map int)),(960,.tre 25 1 (v1.map t_int))] (fun bb S=>(5,.own 832 (a9.map int).length)::(8,int bb.1)::(9,bool bb.2.1)::(15,.tref 960 (v1.map t_int).length .out)::(23,int bb.2.2)::S) (fun bb M=>M) (fun n bb=>B0x b0 b1 v13 n bb.1 bb.2.1 bb.2.2=some o14) F0 (0,false,0) h ?_
    clear h
    rintro JJ18 n18 ⟨a20,a21,a22⟩ hag18 h
    dsimp only at h
    obtain _ | n18:=n18
    ·exact absurd h (by simp [B0x])
    rw [B0x] at h
    refine Run.sr (X.bi ?_)
    refine X.nil (Run.seq ?_)
    refine R.cd (fun hc25=>?_) (fun hc25=>?_)
    ·replace h:=condT hc25 h
     refine Run.skip (Run.seq (Run.block (Run.sr (X.mv ?_))))
     obtain ⟨v26,hv26,h⟩:=bindE h
     refine X.idxR (l:=v1.map t_int) (rl:=v13.map int) elt25 (A0m (off:=0) (by exact A0h (f:=t_int) (fun _=>rfl)) (A0b t_int hv13) (by rfl)) ⟨(A0a hv26).1,by have h0:=(A0a hv26).1;have h1:=A0o hv26;rw [List.length_map];(try dsimp only);omega⟩ (by first | rfl | simp [setL] | omega) ?_
     refine X.ldE (sz2:=1) shp3 (A0m (off:=0) (by exact A0h (f:=t_int) (fun _=>rfl)) (A0b t_int hv13) (by rfl)) (A0m (off:=0) (by exact A0h (f:=int) (fun _=>rfl)) (A0b int hv26) (by rfl)) (by first | rfl | simp [setL] | omega) ?_
     refine X.as ?_
     refine X.an ?_
     refine Run.sr (X.mv ?_)
     refine X.ld shp34 ?_
     refine X.mv ?_
     obtain ⟨v27,hv27,h⟩:=bindE h
     refine X.cp (G0f _ _ _ hv27) ?_
     refine X.subW (h:=?_)
     refine X.mv ?_
     refine X.subW (h:=?_)
     refine X.an ?_
     refine Run.seq ?_
     obtain ⟨e28,he28,h2⟩:=bindE h
     refine R.regG [(1,int b1),(2,.lptr 128 0),(5,.own 832 (a9.map int).length),(8,int a20),(9,bool a21),(12,int (W ((W (b1 - v27)) - v26))),(15,.tref 960 (v1.map t_int).length .out),(16,int (v1.length:Int)),(17,int a8),(21,.tref 960 (v1.map t_int).length (.row ((a8).toNat*1+0))),(22,int (v13.length:Int)),(23,int a22),(45,bool e28)] [(128,.blk true [int b0.Deadline,.slice (b0.Activities.map A0c),.slice (b0.Links.map A0k),.slice (b0.Resources.map A0e),.slice (b0.Stocks.map int)]),(832,.obj false 3 1 (a9.map int)),(960,.tre 25 1 (v1.map t_int))] ?_ ?_
     ·clear h;have h:=he28;clear he28 h2
      refine X.mv ?_
      refine X.bi ?_
      refine X.mv ?_
      refine X.iG (fun hb29=>?_) (fun hb29=>?_)
      ·replace h:=condT hb29 h
       refine X.mv ?_
       refine X.gy (X.un (h:=?_))
       refine X.gy (X.mv ?_)
       refine X.iG (fun hb30=>?_) (fun hb30=>?_)
       ·replace h:=condF hb30 h
        refine X.mv ?_
        refine X.gy (X.mv ?_)
        refine X.gy (X.bi ?_)
        refine X.gy (X.pF ?_)
        refine X.pT ?_
        cases h
        exact X.eG
       replace h:=condT hb30 h
       refine X.gn (X.gn (X.gy (X.pT ?_)))
       refine X.pT ?_
       cases h
       exact X.eG
      replace h:=condF hb29 h
      refine X.gn (X.gn (X.gU (h:=?_)))
      refine X.gU (h:=?_)
      refine X.gU (h:=?_)
      refine X.gn (X.pF ?_)
      cases h
      exact X.eG
     replace h:=h2;clear h2
     refine R.cd (fun hc31=>?_) (fun hc31=>?_)
     ·replace h:=condT hc31 h
      refine Run.reg (X.mv ?_)
      refine X.as ?_
      refine X.an ?_
      refine Run.blk (Run.reg (X.addW (h:=?_)))
      refine X.mn ?_
      exact hag18 n18 ((W ((W (b1 - v27)) - v26)),true,(W (a22+1))) _ _ (by omega) h (by repeat (first | trivial | refine ⟨by first | rfl | simp [setL],?_⟩)) (by repeat (first | trivial | refine ⟨by first | rfl | simp [setL],?_⟩)) (by rfl) (by rfl)
     replace h:=condF hc31 h
     refine Run.skip (Run.blk (Run.reg (X.addW (h:=?_))))
     refine X.mn ?_
     exact hag18 n18 (a20,a21,(W (a22+1))) _ _ (by omega) h (by repeat (first | trivial | refine ⟨by first | rfl | simp [setL],?_⟩)) (by repeat (first | trivial | refine ⟨by first | rfl | simp [setL],?_⟩)) (by rfl) (by rfl)
    replace h:=condF hc25 h
    refine Run.exit (by rfl) ?_
    exact R.mt hmeet16 a20 (Option.some.inj h)
   rintro p32 rfl
   refine Run.reg (X.mv ?_)
   refine X.mv ?_
   refine X.buildSlice false elt25 zer3 (by rfl) (by rfl) (by rfl) (by rfl) (by rfl) (by rfl) (by repeat (first | trivial | refine ⟨by first | rfl | simp [setL],?_⟩)) (A0w (by rfl)) (by rfl) (by rfl) (by rfl) ?_
   obtain ⟨v33,hv33,h⟩:=bindE h
   refine X.append elt25 zer3 (by rfl) (by rfl) (by first | rfl | simp [setL] | omega) (by rfl) (.own _ _ _ _ _ _ (A0f (by rfl)) (by first | rfl | simp [setL] | omega)) (A0w (by rfl)) (G0u int hv33) (G0t int hv33) (by rfl) (by rfl) (by rfl) (by rfl) ?_
   refine X.an ?_
   refine Run.blk (Run.reg (X.addW (h:=?_)))
   refine X.mn ?_
   exact hag6 n6 ((W (a8+1)),v33) _ _ (by omega) h (by repeat (first | trivial | refine ⟨by first | rfl | simp [setL],?_⟩)) (by repeat (first | trivial | refine ⟨by first | rfl | simp [setL],?_⟩)) (by rfl) (by rfl)
  replace h:=condF hc12 h
  refine Run.exit (by rfl) ?_
  exact R.mt hmeet4 a9 (Option.some.inj h)
 rintro p34 rfl
 refine Run.sr (X.mv ?_)
 refine X.an ?_
 cases h
 refine R.fin1o Tryz.results47 (by rfl) (by rfl) (by first | rfl | simp [setL] | omega) ?_
 rfl
theorem R0f (b0:Int)(c1:List Int)(r:Int)(h:E0s b0 c1=some r):PC Tryz.prog 48 [int b0,.cptr (.slice (c1.map int):PV).cells 0] (int r):=by
 unfold E0s at h
 refine PC.start Tryz.func48 Tryz.ntmps48 rfl ok48 rfl ?_
 refine Run.sr (X.an ?_)
 refine Run.sr (X.lc shp25 ?_)
 refine X.mv ?_
 obtain ⟨v1,hv1,h⟩:=bindE h
 refine X.ix elt25 (A0a hv1).1 (A0b int hv1) ?_
 refine X.lc shp3 ?_
 refine X.an ?_
 cases h
 refine R.f1 Tryz.results48 ?_
 rfl
theorem Y0t (b0:A0d)(b1:Int)(r:Int)(h:L0z b0 b1=some r):PC Tryz.prog 50 [A0v b0,int b1] (int r):=by
 unfold L0z at h
 refine PC.start Tryz.func50 Tryz.ntmps50 rfl ok50 rfl ?_
 refine Run.sr (X.bx ?_)
 refine X.an ?_
 refine Run.sr (X.ld shp34 ?_)
 obtain ⟨v1,hv1,h⟩:=bindE h
 refine X.callTr (P0s _ _ hv1) (by rfl) (by rfl) (by rfl) (by trivial) (by rfl) (by rfl) (by rfl) (by rfl) ?_
 refine X.an ?_
 refine Run.seq (Run.seq ?_)
 obtain ⟨e2,he2,h2⟩:=bindE h
 refine R.regG [(1,int b1),(2,.lptr 128 0),(5,.tref 640 (v1.map t_int).length .out),(19,bool e2)] [(128,.blk true [int b0.Deadline,.slice (b0.Activities.map A0c),.slice (b0.Links.map A0k),.slice (b0.Resources.map A0e),.slice (b0.Stocks.map int)]),(640,.tre 25 1 (v1.map t_int))] ?_ ?_
 ·clear h;have h:=he2;clear he2 h2
  refine X.mv ?_
  refine X.lenT (z:=(v1.length:Int)) elt59 (by rfl) (by rfl) (by first | rfl | simp [setL] | omega) (by simp) (by rfl) (by rfl) ?_
  refine X.bi ?_
  refine X.mv ?_
  refine X.iG (fun hb3=>?_) (fun hb3=>?_)
  ·replace h:=condF hb3 h
   refine X.ld shp34 ?_
   refine X.gy (X.mv ?_)
   refine X.gy ?_
   obtain ⟨v4,hv4,h⟩:=bindE h
   refine X.cp (G0w _ _ _ hv4) ?_
   refine X.gy (X.un (h:=?_))
   refine X.pF ?_
   cases h
   exact X.eG
  replace h:=condT hb3 h
  refine X.gn (X.gn (X.gn (X.pT ?_)))
  cases h
  exact X.eG
 replace h:=h2;clear h2
 refine R.cd (fun hc5=>?_) (fun hc5=>?_)
 ·replace h:=condT hc5 h
  refine Run.sr (X.an ?_)
  cases h
  refine R.f1 Tryz.results50 ?_
  rfl
 replace h:=condF hc5 h
 refine Run.skip (Run.sr (X.ld shp34 ?_))
 refine X.mv ?_
 obtain ⟨v6,hv6,h⟩:=bindE h
 refine X.cp (G0f _ _ _ hv6) ?_
 refine X.an ?_
 refine Run.seq (Run.sr (X.mv ?_))
 refine X.mv ?_
 obtain ⟨v7,hv7,h⟩:=bindE h
 refine X.idxT (l:=v1.map t_int) elt59 ⟨(A0a hv7).1,by have h0:=(A0a hv7).1;have h1:=A0o hv7;rw [List.length_map];(try dsimp only);omega⟩ (by first | rfl | simp [setL] | omega) ?_
 refine X.ldRow (sz:=1) shp25 (A0m (off:=0) (by exact A0h (f:=t_int) (fun _=>rfl)) (A0b t_int hv7) (by rfl)) (by first | rfl | simp [setL] | omega) ?_
 refine X.lenR (l:=v1.map t_int) (rl:=v7.map int) (z:=(v7.length:Int)) elt25 (A0m (off:=0) (by exact A0h (f:=t_int) (fun _=>rfl)) (A0b t_int hv7) (by rfl)) (by simp) (by first | rfl | simp [setL] | omega) ?_
 refine X.mn ?_
 obtain ⟨o8,ho8,h⟩:=bindE h
 refine R.join2 (β:=Int) [] [] (fun p22 S=>(6,int p22)::S) (fun p22 M=>M) (fun p22=>p22=o8) ?_ ?_
 ·intro JJ11 hmeet10
  have hup9:=h;clear h;have h:=ho8;clear ho8
  refine Run.block ?_
  refine R.lp (β:=Int×Int) [(2,.lptr 128 0),(26,.tref 640 (v1.map t_int).length (.row ((b1).toNat*1+0))),(27,int (v7.length:Int))] [(128,.blk true [int b0.Deadline,.slice (b0.Activities.map A0c),.slice (b0.Links.map A0k),.slice (b0.Resources.map A0e),.slice (b0.Stocks.map int)]),(640,.tre 25 1 (v1.map t_int))] (fun bb S=>(6,int bb.1)::(28,int bb.2)::S) (fun bb M=>M) (fun n bb=>C0u b0 v7 n bb.1 bb.2=some o8) F0 (v6,0) h ?_
  clear h
  rintro JJ12 n12 ⟨a14,a15⟩ hag12 h
  dsimp only at h
  obtain _ | n12:=n12
  ·exact absurd h (by simp [C0u])
  rw [C0u] at h
  refine Run.sr (X.bi ?_)
  refine X.nil (Run.seq ?_)
  refine R.cd (fun hc18=>?_) (fun hc18=>?_)
  ·replace h:=condT hc18 h
   refine Run.skip (Run.seq (Run.block (Run.sr (X.mv ?_))))
   obtain ⟨v19,hv19,h⟩:=bindE h
   refine X.idxR (l:=v1.map t_int) (rl:=v7.map int) elt25 (A0m (off:=0) (by exact A0h (f:=t_int) (fun _=>rfl)) (A0b t_int hv7) (by rfl)) ⟨(A0a hv19).1,by have h0:=(A0a hv19).1;have h1:=A0o hv19;rw [List.length_map];(try dsimp only);omega⟩ (by first | rfl | simp [setL] | omega) ?_
   refine X.ldE (sz2:=1) shp3 (A0m (off:=0) (by exact A0h (f:=t_int) (fun _=>rfl)) (A0b t_int hv7) (by rfl)) (A0m (off:=0) (by exact A0h (f:=int) (fun _=>rfl)) (A0b int hv19) (by rfl)) (by first | rfl | simp [setL] | omega) ?_
   refine X.as ?_
   refine X.an ?_
   refine Run.sr (X.mv ?_)
   refine X.bi ?_
   refine X.nil ?_
   refine R.cd (fun hc20=>?_) (fun hc20=>?_)
   ·replace h:=condT hc20 h
    refine Run.reg (X.mv ?_)
    refine X.mv ?_
    refine X.ld shp34 ?_
    refine X.mv ?_
    obtain ⟨v21,hv21,h⟩:=bindE h
    refine X.cp (G0f _ _ _ hv21) ?_
    refine X.addW (h:=?_)
    refine X.max2 (by rfl) (by rfl) (by rfl) ?_
    refine X.an ?_
    refine Run.blk (Run.reg (X.addW (h:=?_)))
    refine X.mn ?_
    exact hag12 n12 ((max a14 (W (v19+v21))),(W (a15+1))) _ _ (by omega) h (by repeat (first | trivial | refine ⟨by first | rfl | simp [setL],?_⟩)) (by repeat (first | trivial | refine ⟨by first | rfl | simp [setL],?_⟩)) (by rfl) (by rfl)
   replace h:=condF hc20 h
   refine Run.skip (Run.blk (Run.reg (X.addW (h:=?_))))
   refine X.mn ?_
   exact hag12 n12 (a14,(W (a15+1))) _ _ (by omega) h (by repeat (first | trivial | refine ⟨by first | rfl | simp [setL],?_⟩)) (by repeat (first | trivial | refine ⟨by first | rfl | simp [setL],?_⟩)) (by rfl) (by rfl)
  replace h:=condF hc18 h
  refine Run.exit (by rfl) ?_
  exact R.mt hmeet10 a14 (Option.some.inj h)
 rintro p22 rfl
 refine Run.sr (X.mv ?_)
 refine X.an ?_
 cases h
 refine R.f1 Tryz.results50 ?_
 rfl
theorem R0y (b0:Int)(c1:A0d)(r:Int)(h:E0t b0 c1=some r):PC Tryz.prog 49 [int b0,.cptr (A0v c1:PV).cells 0] (int r):=by
 unfold E0t at h
 refine PC.start Tryz.func49 Tryz.ntmps49 rfl ok49 rfl ?_
 refine Run.sr (X.an ?_)
 refine Run.sr (X.lc shp34 ?_)
 refine X.mv ?_
 obtain ⟨v1,hv1,h⟩:=bindE h
 refine X.cp (Y0t _ _ _ hv1) ?_
 refine X.un (h:=?_)
 refine X.an ?_
 cases h
 refine R.f1 Tryz.results49 ?_
 rfl
theorem P0f (b0:A0d)(b1:Int)(r:List Int)(h:F0o b0 b1=some r):PC Tryz.prog 12 [A0v b0,int b1] (.fresh true 3 1 (r.map int)):=by
 unfold F0o at h
 refine PC.start Tryz.func12 Tryz.ntmps12 rfl ok12 rfl ?_
 refine Run.sr (X.bx ?_)
 refine X.an ?_
 refine Run.seq (Run.sr (X.ld shp34 ?_))
 obtain ⟨v1,hv1,h⟩:=bindE h
 refine X.callTr (P0s _ _ hv1) (by rfl) (by rfl) (by rfl) (by trivial) (by rfl) (by rfl) (by rfl) (by rfl) ?_
 refine X.lenT (z:=(v1.length:Int)) elt59 (by rfl) (by rfl) (by first | rfl | simp [setL] | omega) (by simp) (by rfl) (by rfl) ?_
 refine X.bi ?_
 refine X.nil ?_
 refine R.cd (fun hc2=>?_) (fun hc2=>?_)
 ·replace h:=condT hc2 h
  refine Run.sr (X.an ?_)
  cases h
  refine R.fin1n (x:=true) (e:=3) (sz:=1) Tryz.results12 (by rfl) (by decide) ?_
  rfl
 replace h:=condF hc2 h
 refine Run.skip (Run.seq (Run.sr (X.mn ?_)))
 refine Run.block (Run.sr (X.bi ?_))
 refine X.an ?_
 refine R.cd (fun hc3=>?_) (fun hc3=>?_)
 ·replace h:=condT hc3 h
  refine Run.sr (X.ld shp34 ?_)
  obtain ⟨v4,hv4,h⟩:=bindE h
  refine X.callF (J0b _ (fun x0=>G0j x0) _ _ (fun x0 v hv=>PCx.of (R0v _ _ hv)) _ hv4) (by rfl) (by rfl) (by rfl) (by trivial) (by rfl) (by rfl) (by rfl) (by rfl) ?_
  refine X.an ?_
  cases h
  refine R.fin1o Tryz.results12 (by rfl) (by rfl) (by first | rfl | simp [setL] | omega) ?_
  rfl
 replace h:=condF hc3 h
 refine Run.sr (X.bi ?_)
 refine X.an ?_
 refine R.cd (fun hc5=>?_) (fun hc5=>?_)
 ·replace h:=condT hc5 h
  refine Run.sr (X.ld shp34 ?_)
  refine X.fl T0l ?_
  refine X.ld shp3 ?_
  obtain ⟨v6,hv6,h⟩:=bindE h
  refine X.callF (W0p _ _ _ hv6) (by rfl) (by rfl) (by rfl) (by trivial) (by rfl) (by rfl) (by rfl) (by rfl) ?_
  refine X.alloc zer25 (h:=?_)
  refine X.sl shp25 ?_
  refine X.nil (Run.seq ?_)
  refine R.pubBlk (n:=320) (by rfl) (by rfl) (by repeat (first | trivial | refine ⟨by first | rfl | simp [setL],?_⟩)) ?_
  refine Run.reg (X.ld shp34 ?_)
  refine X.makeFunc (by rfl) (by rfl) (by repeat (first | trivial | refine ⟨by first | rfl | simp [setL],?_⟩)) (by rfl) (by rfl) ?_
  obtain ⟨v7,hv7,h⟩:=bindE h
  refine X.callF (J0b _ (fun x0=>E0s x0 v6) _ _ (fun x0 v hv=>PCx.of (R0f _ _ _ hv)) _ hv7) (by rfl) (by rfl) (by rfl) (by trivial) (by rfl) (by rfl) (by rfl) (by rfl) ?_
  refine X.an ?_
  cases h
  refine R.fin1o Tryz.results12 (by rfl) (by rfl) (by first | rfl | simp [setL] | omega) ?_
  rfl
 replace h:=condF hc5 h
 refine Run.sr (X.bi ?_)
 refine X.an ?_
 refine R.cd (fun hc8=>?_) (fun hc8=>?_)
 ·replace h:=condT hc8 h
  refine Run.seq ?_
  refine R.pubBlk (n:=128) (by rfl) (by rfl) (by repeat (first | trivial | refine ⟨by first | rfl | simp [setL],?_⟩)) ?_
  refine Run.reg (X.ld shp34 ?_)
  refine X.makeFunc (by rfl) (by rfl) (by repeat (first | trivial | refine ⟨by first | rfl | simp [setL],?_⟩)) (by rfl) (by rfl) ?_
  obtain ⟨v9,hv9,h⟩:=bindE h
  refine X.callF (J0b _ (fun x0=>E0t x0 b0) _ _ (fun x0 v hv=>PCx.of (R0y _ _ _ hv)) _ hv9) (by rfl) (by rfl) (by rfl) (by trivial) (by rfl) (by rfl) (by rfl) (by rfl) ?_
  refine X.an ?_
  cases h
  refine R.fin1o Tryz.results12 (by rfl) (by rfl) (by first | rfl | simp [setL] | omega) ?_
  rfl
 replace h:=condF hc8 h
 refine Run.sr (X.bi ?_)
 refine X.an ?_
 refine R.cd (fun hc10=>?_) (fun hc10=>?_)
 ·replace h:=condT hc10 h
  refine Run.sr (X.ld shp34 ?_)
  refine X.ld shp34 ?_
  refine X.makeBound 1099511627827 (by kernel_rfl) (by rfl) (by rfl) (by repeat (first | trivial | refine ⟨by first | rfl | simp [setL],?_⟩)) (by rfl) (by rfl) ?_
  obtain ⟨v11,hv11,h⟩:=bindE h
  refine X.callF (J0b _ (fun x0=>B0o b0 x0) _ _ (fun x0 v hv=>PCx.bnd 1099511627827 [A0v b0] (G0f _ _ _ hv) (by kernel_rfl)) _ hv11) (by rfl) (by rfl) (by rfl) (by trivial) (by rfl) (by rfl) (by rfl) (by rfl) ?_
  refine X.an ?_
  cases h
  refine R.fin1o Tryz.results12 (by rfl) (by rfl) (by first | rfl | simp [setL] | omega) ?_
  rfl
 replace h:=condF hc10 h
 refine Run.skip (Run.blk (Run.sr (X.an ?_)))
 cases h
 refine R.fin1n (x:=true) (e:=3) (sz:=1) Tryz.results12 (by rfl) (by decide) ?_
 rfl
theorem B1p (b0:Int)(r:ByteArray)(h:N0i b0=some r):PC Tryz.prog 101 [int b0] (str r):=by
 unfold N0i at h
 refine PC.start Tryz.func101 Tryz.ntmps101 rfl ok101 rfl ?_
 refine Run.sr (X.an ?_)
 refine Run.seq (Run.sr (X.mv ?_))
 refine X.bi ?_
 refine X.nil ?_
 refine R.cd (fun hc1=>?_) (fun hc1=>?_)
 ·replace h:=condT hc1 h
  refine Run.sr (X.an ?_)
  cases h
  refine R.f1 Tryz.results101 ?_
  rfl
 replace h:=condF hc1 h
 refine Run.skip (Run.sr (X.an ?_))
 refine Run.seq ?_
 obtain ⟨o2,ho2,h⟩:=bindE h
 refine R.join2 (β:=ByteArray) [] [] (fun p13 S=>(3,str p13)::S) (fun p13 M=>M) (fun p13=>p13=o2) ?_ ?_
 ·intro JJ5 hmeet4
  have hup3:=h;clear h;have h:=ho2;clear ho2
  refine Run.block ?_
  refine R.lp (β:=Int×ByteArray) [] [] (fun bb S=>(0,int bb.1)::(3,str bb.2)::S) (fun bb M=>M) (fun n bb=>G0g n bb.1 bb.2=some o2) F0 (b0,ByteArray.empty) h ?_
  clear h
  rintro JJ5 n5 ⟨a7,a8⟩ hag5 h
  dsimp only at h
  obtain _ | n5:=n5
  ·exact absurd h (by simp [G0g])
  rw [G0g] at h
  refine Run.seq (Run.sr (X.mv ?_))
  refine X.bi ?_
  refine X.nil ?_
  refine R.cd (fun hc11=>?_) (fun hc11=>?_)
  ·replace h:=condT hc11 h
   refine Run.skip (Run.block (Run.sr (X.mv ?_)))
   refine X.bi ?_
   refine X.addW (h:=?_)
   refine X.conv Tryz.underlying5 (by rw [Tryz.underlying3];rfl) (by rfl) (by rfl) ?_
   refine X.buildSlice false M1o zer5 (by rfl) (by rfl) (by rfl) (by rfl) (by rfl) (by rfl) (by repeat (first | trivial | refine ⟨by first | rfl | simp [setL],?_⟩)) (A0w (by rfl)) (by rfl) (by rfl) (by rfl) ?_
   refine X.convBS ([(IntKind.u8.wrap (W (48+(a7.tmod 10))))]:List Int) Tryz.underlying143 Tryz.underlying5 Tryz.underlying9 (by rfl) (.own _ _ _ _ _ _ (A0f (by rfl)) (by first | rfl | simp [setL] | omega)) (by rfl) (by rfl) (by rfl) ?_
   refine X.mv ?_
   obtain ⟨v12,hv12,h⟩:=bindE h
   refine X.cat2 hv12 (by rfl) (by rfl) (by rfl) ?_
   refine X.an ?_
   refine Run.reg (X.mv ?_)
   refine X.bi ?_
   refine X.an ?_
   refine Run.blk ?_
   exact hag5 n5 ((W (a7.tdiv 10)),v12) _ _ (by omega) h (by repeat (first | trivial | refine ⟨by first | rfl | simp [setL],?_⟩)) (by repeat (first | trivial | refine ⟨by first | rfl | simp [setL],?_⟩)) (by rfl) (by rfl)
  replace h:=condF hc11 h
  refine Run.exit (by rfl) ?_
  exact R.mt hmeet4 a8 (Option.some.inj h)
 rintro p13 rfl
 refine Run.sr (X.mv ?_)
 obtain ⟨v14,hv14,h⟩:=bindE h
 refine X.cat2 hv14 (by rfl) (by rfl) (by rfl) ?_
 refine X.an ?_
 cases h
 refine R.f1 Tryz.results101 ?_
 rfl
theorem L0a (b0:List Int)(b1:Int)(r:Int)(h:H0m b0 b1=some r):PCM Tryz.prog 15 [.ysk 63 (.slice (b0.map int)),int b1] [(63,.yreg true true)] (int r) [(63,.yreg true true)]:=by
 unfold H0m at h
 refine PCM.start Tryz.func15 Tryz.ntmps15 rfl ok15 rfl (by rfl) (by rfl) (by rfl) (by rfl) (by rfl) ?_
 refine Run.sr (X.an ?_)
 refine Run.seq (Run.sr (X.an ?_))
 obtain ⟨o1,ho1,h⟩:=bindE h
 refine R.join2 (β:=Int) [] [(63,.yreg true true)] (fun p13 S=>(1,int p13)::S) (fun p13 M=>M) (fun p13=>p13=o1) ?_ ?_
 ·intro JJ4 hmeet3
  have hup2:=h;clear h;have h:=ho1;clear ho1
  refine Run.block ?_
  refine R.bndY true 63 (t:=0) (by rfl) (fun hbd7=>?_)
  replace hbd7:b0.length≤9223372036854775807:=by first | (rw [List.length_map] at hbd7;exact hbd7) | simp
  refine R.lp (β:=Int×Int) [(0,.ysk 63 (.slice (b0.map int)))] [(63,.yreg true true)] (fun bb S=>(1,int bb.2)::(5,int bb.1)::S) (fun bb M=>M) (fun n bb=>0≤bb.1∧bb.1+n=(b0.length:Int)∧E0q (b0.drop bb.1.toNat) bb.1 bb.2=some o1) b0.length (0,b1) ⟨Int.le_refl _,by simp,h⟩ ?_
  clear h
  rintro JJ7 n7 ⟨z8,a9⟩ hag7 ⟨hza7,hzb7,h⟩
  dsimp only at hza7 hzb7 h
  refine Run.seq (Run.sr (X.mv ?_))
  refine X.mv ?_
  refine X.lenY true 63 elt25 (by rfl) (by exact List.length_map ..) (by rfl) ?_
  refine X.bi ?_
  refine X.nil ?_
  refine R.cd (fun hc12=>?_) (fun hc12=>?_)
  ·obtain ⟨x10,xs11,hd7,hx7,hds7,hlt7⟩:=A0q hza7 hc12
   rw [hd7] at h
   rw [E0q] at h
   refine Run.skip (Run.seq (Run.block (Run.sr (X.mv ?_))))
   refine X.mv ?_
   refine X.mv ?_
   refine X.indexY true 63 elt25 (by rfl) (by rfl) (A0a hx7).1 (A0b int hx7) (by rfl) (by rfl) ?_
   refine X.storeY 63 shp3 (by rfl) (by rfl) (by rfl) (by rfl) (by rfl) (by rfl) (by rfl) ?_
   refine X.nil (Run.reg (X.mv ?_))
   refine X.addW (h:=?_)
   refine X.an ?_
   refine Run.blk (Run.reg (X.mv ?_))
   refine X.ad ?_
   refine X.an ?_
   exact R.ag hag7 (n7 - 1) (z8+1,(W (a9+1))) (R.n3 (by first | (rw [hds7];exact h) | (dsimp only;rw [hds7];exact h)))
  rw [A0j hza7 hc12] at h
  rw [E0q] at h
  refine Run.exit (by rfl) ?_
  exact R.mt hmeet3 a9 (Option.some.inj h)
 rintro p13 rfl
 refine Run.sr (X.mv ?_)
 refine X.an ?_
 cases h
 exact R.finM1 Tryz.results15 (by rfl) (by rfl) (by repeat (first | exact trivial | refine ⟨by rfl,?_⟩)) rfl
theorem X0m (b0:List TMode)(b1:Int)(r:Int)(h:L0j b0 b1=some r):PCM Tryz.prog 102 [.ysk 63 (.slice (b0.map B0l)),int b1] [(63,.yreg true true)] (int r) [(63,.yreg true true)]:=by
 unfold L0j at h
 refine PCM.start Tryz.func102 Tryz.ntmps102 rfl ok102 rfl (by rfl) (by rfl) (by rfl) (by rfl) (by rfl) ?_
 refine Run.sr (X.an ?_)
 refine Run.seq (Run.sr (X.an ?_))
 obtain ⟨o1,ho1,h⟩:=bindE h
 refine R.join2 (β:=Int) [] [(63,.yreg true true)] (fun p15 S=>(1,int p15)::S) (fun p15 M=>M) (fun p15=>p15=o1) ?_ ?_
 ·intro JJ4 hmeet3
  have hup2:=h;clear h;have h:=ho1;clear ho1
  refine Run.block ?_
  refine R.bndY true 63 (t:=0) (by rfl) (fun hbd7=>?_)
  replace hbd7:b0.length≤9223372036854775807:=by first | (rw [List.length_map] at hbd7;exact hbd7) | simp
  refine R.lp (β:=Int×Int) [(0,.ysk 63 (.slice (b0.map B0l)))] [(63,.yreg true true)] (fun bb S=>(1,int bb.2)::(5,int bb.1)::S) (fun bb M=>M) (fun n bb=>0≤bb.1∧bb.1+n=(b0.length:Int)∧D0x (b0.drop bb.1.toNat) bb.1 bb.2=some o1) b0.length (0,b1) ⟨Int.le_refl _,by simp,h⟩ ?_
  clear h
  rintro JJ7 n7 ⟨z8,a9⟩ hag7 ⟨hza7,hzb7,h⟩
  dsimp only at hza7 hzb7 h
  refine Run.seq (Run.sr (X.mv ?_))
  refine X.mv ?_
  refine X.lenY true 63 elt48 (by rfl) (by exact List.length_map ..) (by rfl) ?_
  refine X.bi ?_
  refine X.nil ?_
  refine R.cd (fun hc12=>?_) (fun hc12=>?_)
  ·obtain ⟨x10,xs11,hd7,hx7,hds7,hlt7⟩:=A0q hza7 hc12
   rw [hd7] at h
   rw [D0x] at h
   refine Run.skip (Run.seq (Run.block (Run.sr (X.mv ?_))))
   refine X.mv ?_
   refine X.mv ?_
   refine X.indexY true 63 elt48 (by rfl) (by rfl) (A0a hx7).1 (A0b B0l hx7) (by rfl) (by rfl) ?_
   refine X.fieldY true 63 L0t (by rfl) (by rfl) ?_
   refine X.storeY 63 shp3 (by rfl) (by rfl) (by rfl) (by rfl) (by rfl) (by rfl) (by rfl) ?_
   refine X.nil (Run.sr (X.mv ?_))
   refine X.addW (h:=?_)
   refine X.an ?_
   refine Run.sr (X.mv ?_)
   refine X.mv ?_
   refine X.indexY true 63 elt48 (by rfl) (by rfl) (A0a hx7).1 (A0b B0l hx7) (by rfl) (by rfl) ?_
   refine X.fieldY true 63 S0d (by rfl) (by rfl) ?_
   refine X.loadY true 63 shp25 (by rfl) (by rfl) (by rfl) (by rfl) ?_
   refine X.mv ?_
   obtain ⟨v13,hv13,h⟩:=bindE h
   refine X.callM [(63,63)] (L0a _ _ _ hv13) (by rfl) (by rfl) (.yskB 63 (by rfl) (by rfl) (.pureB (by rfl) (by repeat (first | trivial | refine ⟨by first | rfl | simp [setL],?_⟩)) .nil)) (by rfl) ⟨rfl,rfl,⟨_,by rfl,by constructor⟩,by constructor,trivial⟩ (by rfl) (by rfl) (by rfl) (by rfl) (by rfl) (by rfl) (by rfl) (by rfl) (by rfl) ?_
   refine X.an ?_
   refine Run.reg (X.mv ?_)
   refine X.mv ?_
   refine X.indexY true 63 elt48 (by rfl) (by rfl) (A0a hx7).1 (A0b B0l hx7) (by rfl) (by rfl) ?_
   refine X.fieldY true 63 S0g (by rfl) (by rfl) ?_
   refine X.loadY true 63 shp25 (by rfl) (by rfl) (by rfl) (by rfl) ?_
   refine X.mv ?_
   obtain ⟨v14,hv14,h⟩:=bindE h
   refine X.callM [(63,63)] (L0a _ _ _ hv14) (by rfl) (by rfl) (.yskB 63 (by rfl) (by rfl) (.pureB (by rfl) (by repeat (first | trivial | refine ⟨by first | rfl | simp [setL],?_⟩)) .nil)) (by rfl) ⟨rfl,rfl,⟨_,by rfl,by constructor⟩,by constructor,trivial⟩ (by rfl) (by rfl) (by rfl) (by rfl) (by rfl) (by rfl) (by rfl) (by rfl) (by rfl) ?_
   refine X.an ?_
   refine Run.blk (Run.reg (X.mv ?_))
   refine X.ad ?_
   refine X.an ?_
   exact R.ag hag7 (n7 - 1) (z8+1,v14) (R.n3 (by first | (rw [hds7];exact h) | (dsimp only;rw [hds7];exact h)))
  rw [A0j hza7 hc12] at h
  rw [D0x] at h
  refine Run.exit (by rfl) ?_
  exact R.mt hmeet3 a9 (Option.some.inj h)
 rintro p15 rfl
 refine Run.sr (X.mv ?_)
 refine X.an ?_
 cases h
 exact R.finM1 Tryz.results102 (by rfl) (by rfl) (by repeat (first | exact trivial | refine ⟨by rfl,?_⟩)) rfl
theorem S0o (b0:List A0g)(b1:Int)(r:Int)(h:G0y b0 b1=some r):PCM Tryz.prog 52 [.ysk 63 (.slice (b0.map A0c)),int b1] [(63,.yreg true true)] (int r) [(63,.yreg true true)]:=by
 unfold G0y at h
 refine PCM.start Tryz.func52 Tryz.ntmps52 rfl ok52 rfl (by rfl) (by rfl) (by rfl) (by rfl) (by rfl) ?_
 refine Run.sr (X.an ?_)
 refine Run.seq (Run.sr (X.an ?_))
 obtain ⟨o1,ho1,h⟩:=bindE h
 refine R.join2 (β:=Int) [] [(63,.yreg true true)] (fun p15 S=>(1,int p15)::S) (fun p15 M=>M) (fun p15=>p15=o1) ?_ ?_
 ·intro JJ4 hmeet3
  have hup2:=h;clear h;have h:=ho1;clear ho1
  refine Run.block ?_
  refine R.bndY true 63 (t:=0) (by rfl) (fun hbd7=>?_)
  replace hbd7:b0.length≤9223372036854775807:=by first | (rw [List.length_map] at hbd7;exact hbd7) | simp
  refine R.lp (β:=Int×Int) [(0,.ysk 63 (.slice (b0.map A0c)))] [(63,.yreg true true)] (fun bb S=>(1,int bb.2)::(5,int bb.1)::S) (fun bb M=>M) (fun n bb=>0≤bb.1∧bb.1+n=(b0.length:Int)∧B0y (b0.drop bb.1.toNat) bb.1 bb.2=some o1) b0.length (0,b1) ⟨Int.le_refl _,by simp,h⟩ ?_
  clear h
  rintro JJ7 n7 ⟨z8,a9⟩ hag7 ⟨hza7,hzb7,h⟩
  dsimp only at hza7 hzb7 h
  refine Run.seq (Run.sr (X.mv ?_))
  refine X.mv ?_
  refine X.lenY true 63 elt30 (by rfl) (by exact List.length_map ..) (by rfl) ?_
  refine X.bi ?_
  refine X.nil ?_
  refine R.cd (fun hc12=>?_) (fun hc12=>?_)
  ·obtain ⟨x10,xs11,hd7,hx7,hds7,hlt7⟩:=A0q hza7 hc12
   rw [hd7] at h
   rw [B0y] at h
   refine Run.skip (Run.seq (Run.block (Run.sr (X.mv ?_))))
   refine X.mv ?_
   refine X.mv ?_
   obtain ⟨v13,hv13,h⟩:=bindE h
   refine X.cp (B1p _ _ hv13) ?_
   refine X.indexY true 63 elt30 (by rfl) (by rfl) (A0a hx7).1 (A0b A0c hx7) (by rfl) (by rfl) ?_
   refine X.fieldY true 63 P0n (by rfl) (by rfl) ?_
   refine X.storeY 63 shp9 (by rfl) (by rfl) (by rfl) (by rfl) (by rfl) (by rfl) (by rfl) ?_
   refine X.nil (Run.sr (X.mv ?_))
   refine X.addW (h:=?_)
   refine X.an ?_
   refine Run.sr (X.mv ?_)
   refine X.mv ?_
   refine X.mv ?_
   refine X.indexY true 63 elt30 (by rfl) (by rfl) (A0a hx7).1 (A0b A0c hx7) (by rfl) (by rfl) ?_
   refine X.fieldY true 63 W0b (by rfl) (by rfl) ?_
   refine X.storeY 63 shp3 (by rfl) (by rfl) (by rfl) (by rfl) (by rfl) (by rfl) (by rfl) ?_
   refine X.nil (Run.sr (X.mv ?_))
   refine X.addW (h:=?_)
   refine X.an ?_
   refine Run.reg (X.mv ?_)
   refine X.mv ?_
   refine X.indexY true 63 elt30 (by rfl) (by rfl) (A0a hx7).1 (A0b A0c hx7) (by rfl) (by rfl) ?_
   refine X.fieldY true 63 M0k (by rfl) (by rfl) ?_
   refine X.loadY true 63 shp48 (by rfl) (by rfl) (by rfl) (by rfl) ?_
   refine X.mv ?_
   obtain ⟨v14,hv14,h⟩:=bindE h
   refine X.callM [(63,63)] (X0m _ _ _ hv14) (by rfl) (by rfl) (.yskB 63 (by rfl) (by rfl) (.pureB (by rfl) (by repeat (first | trivial | refine ⟨by first | rfl | simp [setL],?_⟩)) .nil)) (by rfl) ⟨rfl,rfl,⟨_,by rfl,by constructor⟩,by constructor,trivial⟩ (by rfl) (by rfl) (by rfl) (by rfl) (by rfl) (by rfl) (by rfl) (by rfl) (by rfl) ?_
   refine X.an ?_
   refine Run.blk (Run.reg (X.mv ?_))
   refine X.ad ?_
   refine X.an ?_
   exact R.ag hag7 (n7 - 1) (z8+1,v14) (R.n3 (by first | (rw [hds7];exact h) | (dsimp only;rw [hds7];exact h)))
  rw [A0j hza7 hc12] at h
  rw [B0y] at h
  refine Run.exit (by rfl) ?_
  exact R.mt hmeet3 a9 (Option.some.inj h)
 rintro p15 rfl
 refine Run.sr (X.mv ?_)
 refine X.an ?_
 cases h
 exact R.finM1 Tryz.results52 (by rfl) (by rfl) (by repeat (first | exact trivial | refine ⟨by rfl,?_⟩)) rfl
theorem X0i (b0:List TLink)(b1:Int)(r:Int)(h:L0i b0 b1=some r):PCM Tryz.prog 53 [.ysk 63 (.slice (b0.map A0k)),int b1] [(63,.yreg true true)] (int r) [(63,.yreg true true)]:=by
 unfold L0i at h
 refine PCM.start Tryz.func53 Tryz.ntmps53 rfl ok53 rfl (by rfl) (by rfl) (by rfl) (by rfl) (by rfl) ?_
 refine Run.sr (X.an ?_)
 refine Run.seq (Run.sr (X.an ?_))
 obtain ⟨o1,ho1,h⟩:=bindE h
 refine R.join2 (β:=Int) [] [(63,.yreg true true)] (fun p13 S=>(1,int p13)::S) (fun p13 M=>M) (fun p13=>p13=o1) ?_ ?_
 ·intro JJ4 hmeet3
  have hup2:=h;clear h;have h:=ho1;clear ho1
  refine Run.block ?_
  refine R.bndY true 63 (t:=0) (by rfl) (fun hbd7=>?_)
  replace hbd7:b0.length≤9223372036854775807:=by first | (rw [List.length_map] at hbd7;exact hbd7) | simp
  refine R.lp (β:=Int×Int) [(0,.ysk 63 (.slice (b0.map A0k)))] [(63,.yreg true true)] (fun bb S=>(1,int bb.2)::(5,int bb.1)::S) (fun bb M=>M) (fun n bb=>0≤bb.1∧bb.1+n=(b0.length:Int)∧D0v (b0.drop bb.1.toNat) bb.1 bb.2=some o1) b0.length (0,b1) ⟨Int.le_refl _,by simp,h⟩ ?_
  clear h
  rintro JJ7 n7 ⟨z8,a9⟩ hag7 ⟨hza7,hzb7,h⟩
  dsimp only at hza7 hzb7 h
  refine Run.seq (Run.sr (X.mv ?_))
  refine X.mv ?_
  refine X.lenY true 63 elt31 (by rfl) (by exact List.length_map ..) (by rfl) ?_
  refine X.bi ?_
  refine X.nil ?_
  refine R.cd (fun hc12=>?_) (fun hc12=>?_)
  ·obtain ⟨x10,xs11,hd7,hx7,hds7,hlt7⟩:=A0q hza7 hc12
   rw [hd7] at h
   rw [D0v] at h
   refine Run.skip (Run.seq (Run.block (Run.sr (X.mv ?_))))
   refine X.mv ?_
   refine X.mv ?_
   refine X.indexY true 63 elt31 (by rfl) (by rfl) (A0a hx7).1 (A0b A0k hx7) (by rfl) (by rfl) ?_
   refine X.fieldY true 63 G0x (by rfl) (by rfl) ?_
   refine X.storeY 63 shp3 (by rfl) (by rfl) (by rfl) (by rfl) (by rfl) (by rfl) (by rfl) ?_
   refine X.nil (Run.sr (X.mv ?_))
   refine X.addW (h:=?_)
   refine X.an ?_
   refine Run.sr (X.mv ?_)
   refine X.mv ?_
   refine X.mv ?_
   refine X.indexY true 63 elt31 (by rfl) (by rfl) (A0a hx7).1 (A0b A0k hx7) (by rfl) (by rfl) ?_
   refine X.fieldY true 63 J0c (by rfl) (by rfl) ?_
   refine X.storeY 63 shp3 (by rfl) (by rfl) (by rfl) (by rfl) (by rfl) (by rfl) (by rfl) ?_
   refine X.nil (Run.sr (X.mv ?_))
   refine X.addW (h:=?_)
   refine X.an ?_
   refine Run.sr (X.mv ?_)
   refine X.mv ?_
   refine X.mv ?_
   refine X.bi ?_
   refine X.bi ?_
   refine X.indexY true 63 elt31 (by rfl) (by rfl) (A0a hx7).1 (A0b A0k hx7) (by rfl) (by rfl) ?_
   refine X.fieldY true 63 W0e (by rfl) (by rfl) ?_
   refine X.storeY 63 shp4 (by rfl) (by rfl) (by rfl) (by rfl) (by rfl) (by rfl) (by rfl) ?_
   refine X.nil (Run.sr (X.mv ?_))
   refine X.addW (h:=?_)
   refine X.an ?_
   refine Run.sr (X.mv ?_)
   refine X.mv ?_
   refine X.mv ?_
   refine X.indexY true 63 elt31 (by rfl) (by rfl) (A0a hx7).1 (A0b A0k hx7) (by rfl) (by rfl) ?_
   refine X.fieldY true 63 P0o (by rfl) (by rfl) ?_
   refine X.storeY 63 shp3 (by rfl) (by rfl) (by rfl) (by rfl) (by rfl) (by rfl) (by rfl) ?_
   refine X.nil (Run.reg (X.mv ?_))
   refine X.addW (h:=?_)
   refine X.an ?_
   refine Run.blk (Run.reg (X.mv ?_))
   refine X.ad ?_
   refine X.an ?_
   exact R.ag hag7 (n7 - 1) (z8+1,(W ((W ((W ((W (a9+1))+1))+1))+1))) (R.n3 (by first | (rw [hds7];exact h) | (dsimp only;rw [hds7];exact h)))
  rw [A0j hza7 hc12] at h
  rw [D0v] at h
  refine Run.exit (by rfl) ?_
  exact R.mt hmeet3 a9 (Option.some.inj h)
 rintro p13 rfl
 refine Run.sr (X.mv ?_)
 refine X.an ?_
 cases h
 exact R.finM1 Tryz.results53 (by rfl) (by rfl) (by repeat (first | exact trivial | refine ⟨by rfl,?_⟩)) rfl
theorem X0t (b0:List TStep)(b1:Int)(r:Int)(h:L0d b0 b1=some r):PCM Tryz.prog 103 [.ysk 63 (.slice (b0.map B0m)),int b1] [(63,.yreg true true)] (int r) [(63,.yreg true true)]:=by
 unfold L0d at h
 refine PCM.start Tryz.func103 Tryz.ntmps103 rfl ok103 rfl (by rfl) (by rfl) (by rfl) (by rfl) (by rfl) ?_
 refine Run.sr (X.an ?_)
 refine Run.seq (Run.sr (X.an ?_))
 obtain ⟨o1,ho1,h⟩:=bindE h
 refine R.join2 (β:=Int) [] [(63,.yreg true true)] (fun p13 S=>(1,int p13)::S) (fun p13 M=>M) (fun p13=>p13=o1) ?_ ?_
 ·intro JJ4 hmeet3
  have hup2:=h;clear h;have h:=ho1;clear ho1
  refine Run.block ?_
  refine R.bndY true 63 (t:=0) (by rfl) (fun hbd7=>?_)
  replace hbd7:b0.length≤9223372036854775807:=by first | (rw [List.length_map] at hbd7;exact hbd7) | simp
  refine R.lp (β:=Int×Int) [(0,.ysk 63 (.slice (b0.map B0m)))] [(63,.yreg true true)] (fun bb S=>(1,int bb.2)::(5,int bb.1)::S) (fun bb M=>M) (fun n bb=>0≤bb.1∧bb.1+n=(b0.length:Int)∧D0y (b0.drop bb.1.toNat) bb.1 bb.2=some o1) b0.length (0,b1) ⟨Int.le_refl _,by simp,h⟩ ?_
  clear h
  rintro JJ7 n7 ⟨z8,a9⟩ hag7 ⟨hza7,hzb7,h⟩
  dsimp only at hza7 hzb7 h
  refine Run.seq (Run.sr (X.mv ?_))
  refine X.mv ?_
  refine X.lenY true 63 elt58 (by rfl) (by exact List.length_map ..) (by rfl) ?_
  refine X.bi ?_
  refine X.nil ?_
  refine R.cd (fun hc12=>?_) (fun hc12=>?_)
  ·obtain ⟨x10,xs11,hd7,hx7,hds7,hlt7⟩:=A0q hza7 hc12
   rw [hd7] at h
   rw [D0y] at h
   refine Run.skip (Run.seq (Run.block (Run.sr (X.mv ?_))))
   refine X.mv ?_
   refine X.mv ?_
   refine X.indexY true 63 elt58 (by rfl) (by rfl) (A0a hx7).1 (A0b B0m hx7) (by rfl) (by rfl) ?_
   refine X.fieldY true 63 J0a (by rfl) (by rfl) ?_
   refine X.storeY 63 shp3 (by rfl) (by rfl) (by rfl) (by rfl) (by rfl) (by rfl) (by rfl) ?_
   refine X.nil (Run.sr (X.mv ?_))
   refine X.addW (h:=?_)
   refine X.an ?_
   refine Run.sr (X.mv ?_)
   refine X.mv ?_
   refine X.mv ?_
   refine X.indexY true 63 elt58 (by rfl) (by rfl) (A0a hx7).1 (A0b B0m hx7) (by rfl) (by rfl) ?_
   refine X.fieldY true 63 S0j (by rfl) (by rfl) ?_
   refine X.storeY 63 shp3 (by rfl) (by rfl) (by rfl) (by rfl) (by rfl) (by rfl) (by rfl) ?_
   refine X.nil (Run.reg (X.mv ?_))
   refine X.addW (h:=?_)
   refine X.an ?_
   refine Run.blk (Run.reg (X.mv ?_))
   refine X.ad ?_
   refine X.an ?_
   exact R.ag hag7 (n7 - 1) (z8+1,(W ((W (a9+1))+1))) (R.n3 (by first | (rw [hds7];exact h) | (dsimp only;rw [hds7];exact h)))
  rw [A0j hza7 hc12] at h
  rw [D0y] at h
  refine Run.exit (by rfl) ?_
  exact R.mt hmeet3 a9 (Option.some.inj h)
 rintro p13 rfl
 refine Run.sr (X.mv ?_)
 refine X.an ?_
 cases h
 exact R.finM1 Tryz.results103 (by rfl) (by rfl) (by repeat (first | exact trivial | refine ⟨by rfl,?_⟩)) rfl
theorem X0a (b0:List (List Int))(b1:Int)(r:Int)(h:K0x b0 b1=some r):PCM Tryz.prog 104 [.ysk 63 (.slice (b0.map l_int)),int b1] [(63,.yreg true true)] (int r) [(63,.yreg true true)]:=by
 unfold K0x at h
 refine PCM.start Tryz.func104 Tryz.ntmps104 rfl ok104 rfl (by rfl) (by rfl) (by rfl) (by rfl) (by rfl) ?_
 refine Run.sr (X.an ?_)
 refine Run.seq (Run.sr (X.an ?_))
 obtain ⟨o1,ho1,h⟩:=bindE h
 refine R.join2 (β:=Int) [] [(63,.yreg true true)] (fun p14 S=>(1,int p14)::S) (fun p14 M=>M) (fun p14=>p14=o1) ?_ ?_
 ·intro JJ4 hmeet3
  have hup2:=h;clear h;have h:=ho1;clear ho1
  refine Run.block ?_
  refine R.bndY true 63 (t:=0) (by rfl) (fun hbd7=>?_)
  replace hbd7:b0.length≤9223372036854775807:=by first | (rw [List.length_map] at hbd7;exact hbd7) | simp
  refine R.lp (β:=Int×Int) [(0,.ysk 63 (.slice (b0.map l_int)))] [(63,.yreg true true)] (fun bb S=>(1,int bb.2)::(5,int bb.1)::S) (fun bb M=>M) (fun n bb=>0≤bb.1∧bb.1+n=(b0.length:Int)∧D0w (b0.drop bb.1.toNat) bb.1 bb.2=some o1) b0.length (0,b1) ⟨Int.le_refl _,by simp,h⟩ ?_
  clear h
  rintro JJ7 n7 ⟨z8,a9⟩ hag7 ⟨hza7,hzb7,h⟩
  dsimp only at hza7 hzb7 h
  refine Run.seq (Run.sr (X.mv ?_))
  refine X.mv ?_
  refine X.lenY true 63 elt59 (by rfl) (by exact List.length_map ..) (by rfl) ?_
  refine X.bi ?_
  refine X.nil ?_
  refine R.cd (fun hc12=>?_) (fun hc12=>?_)
  ·obtain ⟨x10,xs11,hd7,hx7,hds7,hlt7⟩:=A0q hza7 hc12
   rw [hd7] at h
   rw [D0w] at h
   refine Run.skip (Run.seq (Run.block (Run.reg (X.mv ?_))))
   refine X.mv ?_
   refine X.indexY true 63 elt59 (by rfl) (by rfl) (A0a hx7).1 (A0b l_int hx7) (by rfl) (by rfl) ?_
   refine X.loadY true 63 shp25 (by rfl) (by rfl) (by rfl) (by rfl) ?_
   refine X.mv ?_
   obtain ⟨v13,hv13,h⟩:=bindE h
   refine X.callM [(63,63)] (L0a _ _ _ hv13) (by rfl) (by rfl) (.yskB 63 (by rfl) (by rfl) (.pureB (by rfl) (by repeat (first | trivial | refine ⟨by first | rfl | simp [setL],?_⟩)) .nil)) (by rfl) ⟨rfl,rfl,⟨_,by rfl,by constructor⟩,by constructor,trivial⟩ (by rfl) (by rfl) (by rfl) (by rfl) (by rfl) (by rfl) (by rfl) (by rfl) (by rfl) ?_
   refine X.an ?_
   refine Run.blk (Run.reg (X.mv ?_))
   refine X.ad ?_
   refine X.an ?_
   exact R.ag hag7 (n7 - 1) (z8+1,v13) (R.n3 (by first | (rw [hds7];exact h) | (dsimp only;rw [hds7];exact h)))
  rw [A0j hza7 hc12] at h
  rw [D0w] at h
  refine Run.exit (by rfl) ?_
  exact R.mt hmeet3 a9 (Option.some.inj h)
 rintro p14 rfl
 refine Run.sr (X.mv ?_)
 refine X.an ?_
 cases h
 exact R.finM1 Tryz.results104 (by rfl) (by rfl) (by repeat (first | exact trivial | refine ⟨by rfl,?_⟩)) rfl
theorem S0p (b0:List A0n)(b1:Int)(r:Int)(h:H0a b0 b1=some r):PCM Tryz.prog 54 [.ysk 63 (.slice (b0.map A0e)),int b1] [(63,.yreg true true)] (int r) [(63,.yreg true true)]:=by
 unfold H0a at h
 refine PCM.start Tryz.func54 Tryz.ntmps54 rfl ok54 rfl (by rfl) (by rfl) (by rfl) (by rfl) (by rfl) ?_
 refine Run.sr (X.an ?_)
 refine Run.seq (Run.sr (X.an ?_))
 obtain ⟨o1,ho1,h⟩:=bindE h
 refine R.join2 (β:=Int) [] [(63,.yreg true true)] (fun p15 S=>(1,int p15)::S) (fun p15 M=>M) (fun p15=>p15=o1) ?_ ?_
 ·intro JJ4 hmeet3
  have hup2:=h;clear h;have h:=ho1;clear ho1
  refine Run.block ?_
  refine R.bndY true 63 (t:=0) (by rfl) (fun hbd7=>?_)
  replace hbd7:b0.length≤9223372036854775807:=by first | (rw [List.length_map] at hbd7;exact hbd7) | simp
  refine R.lp (β:=Int×Int) [(0,.ysk 63 (.slice (b0.map A0e)))] [(63,.yreg true true)] (fun bb S=>(1,int bb.2)::(5,int bb.1)::S) (fun bb M=>M) (fun n bb=>0≤bb.1∧bb.1+n=(b0.length:Int)∧B0z (b0.drop bb.1.toNat) bb.1 bb.2=some o1) b0.length (0,b1) ⟨Int.le_refl _,by simp,h⟩ ?_
  clear h
  rintro JJ7 n7 ⟨z8,a9⟩ hag7 ⟨hza7,hzb7,h⟩
  dsimp only at hza7 hzb7 h
  refine Run.seq (Run.sr (X.mv ?_))
  refine X.mv ?_
  refine X.lenY true 63 elt32 (by rfl) (by exact List.length_map ..) (by rfl) ?_
  refine X.bi ?_
  refine X.nil ?_
  refine R.cd (fun hc12=>?_) (fun hc12=>?_)
  ·obtain ⟨x10,xs11,hd7,hx7,hds7,hlt7⟩:=A0q hza7 hc12
   rw [hd7] at h
   rw [B0z] at h
   refine Run.skip (Run.seq (Run.block (Run.sr (X.mv ?_))))
   refine X.mv ?_
   refine X.indexY true 63 elt32 (by rfl) (by rfl) (A0a hx7).1 (A0b A0e hx7) (by rfl) (by rfl) ?_
   refine X.fieldY true 63 W0i (by rfl) (by rfl) ?_
   refine X.loadY true 63 shp58 (by rfl) (by rfl) (by rfl) (by rfl) ?_
   refine X.mv ?_
   obtain ⟨v13,hv13,h⟩:=bindE h
   refine X.callM [(63,63)] (X0t _ _ _ hv13) (by rfl) (by rfl) (.yskB 63 (by rfl) (by rfl) (.pureB (by rfl) (by repeat (first | trivial | refine ⟨by first | rfl | simp [setL],?_⟩)) .nil)) (by rfl) ⟨rfl,rfl,⟨_,by rfl,by constructor⟩,by constructor,trivial⟩ (by rfl) (by rfl) (by rfl) (by rfl) (by rfl) (by rfl) (by rfl) (by rfl) (by rfl) ?_
   refine X.an ?_
   refine Run.reg (X.mv ?_)
   refine X.mv ?_
   refine X.indexY true 63 elt32 (by rfl) (by rfl) (A0a hx7).1 (A0b A0e hx7) (by rfl) (by rfl) ?_
   refine X.fieldY true 63 P0m (by rfl) (by rfl) ?_
   refine X.loadY true 63 shp59 (by rfl) (by rfl) (by rfl) (by rfl) ?_
   refine X.mv ?_
   obtain ⟨v14,hv14,h⟩:=bindE h
   refine X.callM [(63,63)] (X0a _ _ _ hv14) (by rfl) (by rfl) (.yskB 63 (by rfl) (by rfl) (.pureB (by rfl) (by repeat (first | trivial | refine ⟨by first | rfl | simp [setL],?_⟩)) .nil)) (by rfl) ⟨rfl,rfl,⟨_,by rfl,by constructor⟩,by constructor,trivial⟩ (by rfl) (by rfl) (by rfl) (by rfl) (by rfl) (by rfl) (by rfl) (by rfl) (by rfl) ?_
   refine X.an ?_
   refine Run.blk (Run.reg (X.mv ?_))
   refine X.ad ?_
   refine X.an ?_
   exact R.ag hag7 (n7 - 1) (z8+1,v14) (R.n3 (by first | (rw [hds7];exact h) | (dsimp only;rw [hds7];exact h)))
  rw [A0j hza7 hc12] at h
  rw [B0z] at h
  refine Run.exit (by rfl) ?_
  exact R.mt hmeet3 a9 (Option.some.inj h)
 rintro p15 rfl
 refine Run.sr (X.mv ?_)
 refine X.an ?_
 cases h
 exact R.finM1 Tryz.results54 (by rfl) (by rfl) (by repeat (first | exact trivial | refine ⟨by rfl,?_⟩)) rfl
theorem U0x (b0:A0d)(b1:Int)(r:Int)(h:J0t b0 b1=some r):PCM Tryz.prog 14 [.agg [int b0.Deadline,.ysk 63 (.slice (b0.Activities.map A0c)),.ysk 63 (.slice (b0.Links.map A0k)),.ysk 63 (.slice (b0.Resources.map A0e)),.ysk 63 (.slice (b0.Stocks.map int))],int b1] [(63,.yreg true true)] (int r) [(63,.yreg true true)]:=by
 unfold J0t at h
 refine PCM.start Tryz.func14 Tryz.ntmps14 rfl ok14 rfl (by rfl) (by rfl) (by rfl) (by rfl) (by rfl) ?_
 refine Run.sr (X.bx ?_)
 refine X.an ?_
 refine Run.sr (X.fl D0p ?_)
 refine X.ld shp30 ?_
 refine X.mv ?_
 obtain ⟨v1,hv1,h⟩:=bindE h
 refine X.callM [(63,63)] (S0o _ _ _ hv1) (by rfl) (by rfl) (.yskB 63 (by rfl) (by rfl) (.pureB (by rfl) (by repeat (first | trivial | refine ⟨by first | rfl | simp [setL],?_⟩)) .nil)) (by rfl) ⟨rfl,rfl,⟨_,by rfl,by constructor⟩,by constructor,trivial⟩ (by rfl) (by rfl) (by rfl) (by rfl) (by rfl) (by rfl) (by rfl) (by rfl) (by rfl) ?_
 refine X.an ?_
 refine Run.sr (X.fl G0s ?_)
 refine X.ld shp31 ?_
 refine X.mv ?_
 obtain ⟨v2,hv2,h⟩:=bindE h
 refine X.callM [(63,63)] (X0i _ _ _ hv2) (by rfl) (by rfl) (.yskB 63 (by rfl) (by rfl) (.pureB (by rfl) (by repeat (first | trivial | refine ⟨by first | rfl | simp [setL],?_⟩)) .nil)) (by rfl) ⟨rfl,rfl,⟨_,by rfl,by constructor⟩,by constructor,trivial⟩ (by rfl) (by rfl) (by rfl) (by rfl) (by rfl) (by rfl) (by rfl) (by rfl) (by rfl) ?_
 refine X.an ?_
 refine Run.sr (X.fl P0k ?_)
 refine X.ld shp32 ?_
 refine X.mv ?_
 obtain ⟨v3,hv3,h⟩:=bindE h
 refine X.callM [(63,63)] (S0p _ _ _ hv3) (by rfl) (by rfl) (.yskB 63 (by rfl) (by rfl) (.pureB (by rfl) (by repeat (first | trivial | refine ⟨by first | rfl | simp [setL],?_⟩)) .nil)) (by rfl) ⟨rfl,rfl,⟨_,by rfl,by constructor⟩,by constructor,trivial⟩ (by rfl) (by rfl) (by rfl) (by rfl) (by rfl) (by rfl) (by rfl) (by rfl) (by rfl) ?_
 refine X.an ?_
 refine Run.sr (X.fl P0j ?_)
 refine X.ld shp25 ?_
 refine X.mv ?_
 obtain ⟨v4,hv4,h⟩:=bindE h
 refine X.callM [(63,63)] (L0a _ _ _ hv4) (by rfl) (by rfl) (.yskB 63 (by rfl) (by rfl) (.pureB (by rfl) (by repeat (first | trivial | refine ⟨by first | rfl | simp [setL],?_⟩)) .nil)) (by rfl) ⟨rfl,rfl,⟨_,by rfl,by constructor⟩,by constructor,trivial⟩ (by rfl) (by rfl) (by rfl) (by rfl) (by rfl) (by rfl) (by rfl) (by rfl) (by rfl) ?_
 refine X.an ?_
 refine Run.sr (X.mv ?_)
 refine X.an ?_
 cases h
 exact R.finM1 Tryz.results14 (by rfl) (by rfl) (by repeat (first | exact trivial | refine ⟨by rfl,?_⟩)) rfl
theorem B1j (b0:List Int)(b1:Int)(r:Int×(List Int))(h:Q0b b0 b1=some r):PCM Tryz.prog 15 [.own 63 (b0.map int).length,int b1] [(63,.obj true 3 1 (b0.map int))] (int r.1) [(63,.obj true 3 1 (r.2.map int))]:=by
 unfold Q0b at h
 refine PCM.start Tryz.func15 Tryz.ntmps15 rfl ok15 rfl (by rfl) (by rfl) (by rfl) (by rfl) (by rfl) ?_
 refine Run.sr (X.an ?_)
 refine Run.seq (Run.sr (X.an ?_))
 obtain ⟨o1,ho1,h⟩:=bindE h
 refine R.join2 (β:=Int×(List Int)) [] [] (fun p14 S=>(1,int p14.1)::S) (fun p14 M=>(63,.obj true 3 1 (p14.2.map int))::M) (fun p14=>p14=o1) ?_ ?_
 ·intro JJ4 hmeet3
  have hup2:=h;clear h;have h:=ho1;clear ho1
  refine Run.block ?_
  refine R.lp (β:=Int×Int×(List Int)) [] [] (fun bb S=>(0,.own 63 (bb.2.2.map int).length)::(1,int bb.1)::(5,int bb.2.1)::S) (fun bb M=>(63,.obj true 3 1 (bb.2.2.map int))::M) (fun n bb=>G0k n bb.1 bb.2.1 bb.2.2=some o1) F0 (b1,0,b0) h ?_
  clear h
  rintro JJ5 n5 ⟨a7,a8,a9⟩ hag5 h
  dsimp only at h
  obtain _ | n5:=n5
  ·exact absurd h (by simp [G0k])
  rw [G0k] at h
  refine Run.seq (Run.sr (X.mv ?_))
  refine X.mv ?_
  refine X.len_o elt25 (by rfl) (by rfl) (by first | rfl | simp [setL] | omega) (by first | exact List.length_map .. | rfl) (by rfl) (by rfl) ?_
  refine X.bi ?_
  refine X.nil ?_
  refine R.cd (fun hc12=>?_) (fun hc12=>?_)
  ·replace h:=condT hc12 h
   refine Run.skip (Run.seq (Run.block (Run.sr (X.mv ?_))))
   refine X.mv ?_
   refine X.mv ?_
   obtain ⟨v13,hv13,h⟩:=bindE h
   refine X.index_xs elt25 (by rfl) (by rfl) (by first | rfl | simp [setL] | omega) (by rfl) (by exact (Int.toNat_of_nonneg (A0a hv13).1).symm) (by have:=A0o hv13;first | exact this | (rw [List.length_map];exact this)) (by rfl) (by rfl) ?_
   refine X.store_es shp3 (by rfl) (by rfl) (by first | rfl | simp [setL] | omega) (A0b _ hv13) (by rfl) (by rfl) (by repeat (first | trivial | refine ⟨by first | rfl | simp [setL],?_⟩)) (by rfl) (by rfl) (by rfl) (by rfl) (by exact C0w _ _ _ a7) ?_
   refine X.nil (Run.reg (X.mv ?_))
   refine X.addW (h:=?_)
   refine X.an ?_
   refine Run.blk (Run.reg (X.mv ?_))
   refine X.addW (h:=?_)
   refine X.an ?_
   refine R.castS (t:=0) (.own 63 ((setL a9 a8 a7).map int).length) (by rfl) (.inl (by first | rfl | simp [setL])) ?_
   exact hag5 n5 ((W (a7+1)),(W (a8+1)),(setL a9 a8 a7)) _ _ (by omega) h (by repeat (first | trivial | refine ⟨by first | rfl | simp [setL],?_⟩)) (by repeat (first | trivial | refine ⟨by first | rfl | simp [setL],?_⟩)) (by rfl) (by rfl)
  replace h:=condF hc12 h
  refine Run.exit (by rfl) ?_
  exact R.mt hmeet3 (a7,a9) (Option.some.inj h)
 rintro p14 rfl
 refine Run.sr (X.mv ?_)
 refine X.an ?_
 cases h
 exact R.finM1 Tryz.results15 (by rfl) (by rfl) (by repeat (first | exact trivial | refine ⟨by rfl,?_⟩)) rfl
theorem U0e (b0:List Int)(b1:Int)(r:Int)(h:N0k b0 b1=some r):PC Tryz.prog 16 [.slice (b0.map int),int b1] (int r):=by
 unfold N0k at h
 refine PC.start Tryz.func16 Tryz.ntmps16 rfl ok16 rfl ?_
 refine Run.sr (X.an ?_)
 refine Run.seq (Run.sr (X.an ?_))
 obtain ⟨o1,ho1,h⟩:=bindE h
 refine R.join2 (β:=Int) [] [] (fun p14 S=>(1,int p14)::S) (fun p14 M=>M) (fun p14=>(Sum.inl p14)=o1) ?_ ?_
 ·intro JJ4 hmeet3
  have hup2:=h;clear h;have h:=ho1;clear ho1
  refine Run.block ?_
  refine R.bndS (t:=0) (by rfl) (fun hbd7=>?_)
  replace hbd7:b0.length≤9223372036854775807:=by first | (rw [List.length_map] at hbd7;exact hbd7) | simp
  refine R.lp (β:=Int×Int) [(0,.slice (b0.map int))] [] (fun bb S=>(1,int bb.2)::(5,int bb.1)::S) (fun bb M=>M) (fun n bb=>0≤bb.1∧bb.1+n=(b0.length:Int)∧H0r (b0.drop bb.1.toNat) bb.1 bb.2=some o1) b0.length (0,b1) ⟨Int.le_refl _,by simp,h⟩ ?_
  clear h
  rintro JJ7 n7 ⟨z8,a9⟩ hag7 ⟨hza7,hzb7,h⟩
  dsimp only at hza7 hzb7 h
  refine Run.seq (Run.sr (X.mv ?_))
  refine X.mv ?_
  refine X.ls elt25 ?_
  refine X.bi ?_
  refine X.nil ?_
  refine R.cd (fun hc12=>?_) (fun hc12=>?_)
  ·obtain ⟨x10,xs11,hd7,hx7,hds7,hlt7⟩:=A0q hza7 hc12
   rw [hd7] at h
   rw [H0r] at h
   refine Run.skip (Run.seq (Run.block (Run.seq (Run.sr (X.mv ?_)))))
   refine X.mv ?_
   refine X.ix elt25 (A0a hx7).1 (A0b int hx7) ?_
   refine X.lc shp3 ?_
   refine X.mv ?_
   refine X.bi ?_
   refine X.nil ?_
   refine R.cd (fun hc13=>?_) (fun hc13=>?_)
   ·replace h:=condT hc13 h
    refine Run.sr (X.an ?_)
    cases h
    have h:=hup2
    replace h:=elimR h
    cases h
    refine R.f1 Tryz.results16 ?_
    rfl
   replace h:=condF hc13 h
   refine Run.skip (Run.reg (X.mv ?_))
   refine X.addW (h:=?_)
   refine X.an ?_
   refine Run.blk (Run.reg (X.mv ?_))
   refine X.ad ?_
   refine X.an ?_
   exact R.ag hag7 (n7 - 1) (z8+1,(W (a9+1))) (R.n3 (by first | (rw [hds7];exact h) | (dsimp only;rw [hds7];exact h)))
  rw [A0j hza7 hc12] at h
  rw [H0r] at h
  refine Run.exit (by rfl) ?_
  exact R.mt hmeet3 a9 (Option.some.inj h)
 rintro p14 rfl
 replace h:=elimL h
 refine Run.sr (X.mv ?_)
 refine X.an ?_
 cases h
 refine R.f1 Tryz.results16 ?_
 rfl
end Go.Px.YtimegoembedagaaGreat
