/-
  PROVED: contracts of functions of the program over pure values. No condition beyond those that each theorem names.
-/
import Derived.Test.YtncedeembfcakaaGreatProg
import Derived.Test.YtncedeembfcakaaGreatD1
import Derived.Test.YtncedeembfcakaaGreatC2
namespace Go.Px.YtncedeembfcakaaGreat
set_option linter.unusedSimpArgs false
set_option linter.unusedVariables false
open Go.Px Go.Proofs
theorem T0y (b0:List Int)(b1:Int)(r:Int)(h:N0c b0 b1=some r):PC Tryz.prog 19 [.slice (b0.map e_u8),int b1] (int r):=by
 unfold N0c at h
 refine PC.start Tryz.func19 Tryz.ntmps19 rfl (by kernel_rfl) rfl ?_
 refine Run.sr (X.an ?_)
 refine Run.sr (X.mv ?_)
 obtain ⟨v1,hv1,h⟩:=bindE h
 refine X.callB (N0w _ _ hv1) (by rfl) (by rfl) (by rfl) (by rfl) (by rfl) (by rfl) ?_
 refine X.an ?_
 refine Run.sr (X.mv ?_)
 refine X.mv ?_
 refine X.nilChk (by rfl) (by rfl) (by rfl) ?_
 refine X.fl M0l ?_
 refine X.ld shp3 ?_
 refine X.addW (h:=?_)
 refine X.nilChk (by rfl) (by rfl) (by rfl) ?_
 refine X.fl M0l ?_
 refine X.sl shp3 ?_
 refine X.nil (Run.sr (X.mv ?_))
 refine X.mv ?_
 obtain ⟨v2,hv2,h⟩:=bindE h
 refine X.callM [(63,448)] (A0v _ _ _ hv2) (by rfl) (by rfl) (.lptrB 63 (by rfl) (by rfl) (.pureB (by rfl) (by repeat (first | trivial | refine ⟨by first | rfl | simp [setL],?_⟩)) .nil)) (by rfl) ⟨rfl,rfl,⟨_,by rfl,by constructor⟩,by constructor,trivial⟩ (by rfl) (by rfl) (by rfl) (by rfl) (by rfl) (by rfl) (by rfl) (by rfl) (by rfl) ?_
 refine X.an ?_
 cases h
 refine R.f1 Tryz.results19 ?_
 rfl
theorem P0u (b0:Int)(b1:Int)(b2:Int)(b3:Int)(r:Int)(h:L0z b0 b1 b2 b3=some r):PC Tryz.prog 21 [int b0,int b1,int b2,int b3] (int r):=by
 unfold L0z at h
 refine PC.start Tryz.func21 Tryz.ntmps21 rfl (by kernel_rfl) rfl ?_
 refine Run.sr (X.an ?_)
 refine Run.seq (Run.sr (X.mv ?_))
 refine X.mv ?_
 refine X.mv ?_
 refine X.mv ?_
 refine X.buildSlice false elt26 zer3 (by rfl) (by rfl) (by rfl) (by rfl) (by rfl) (by rfl) (by repeat (first | trivial | refine ⟨by first | rfl | simp [setL],?_⟩)) (A0j (by rfl)) (by rfl) (by rfl) (by rfl) ?_
 refine X.len_o elt26 (by rfl) (by rfl) (by first | rfl | simp [setL] | omega) (by first | exact List.length_map .. | rfl) (by rfl) (by rfl) ?_
 refine X.mn ?_
 obtain ⟨o1,ho1,h⟩:=bindE h
 refine R.join2 (β:=Unit) [(0,int b0),(1,int b1),(2,int b2),(3,int b3)] [] (fun p14 S=>S) (fun p14 M=>M) (fun p14=>(Sum.inl p14)=o1) ?_ ?_
 ·intro JJ4 hmeet3
  have hup2:=h;clear h;have h:=ho1;clear ho1
  refine Run.block ?_
  refine R.bndO (n:=960) (by rfl) (fun hbd7=>?_)
  replace hbd7:([b0,b1,b2,b3]:List Int).length≤9223372036854775807:=by first | (rw [List.length_map] at hbd7;exact hbd7) | simp
  refine R.lp (β:=Int) [(0,int b0),(1,int b1),(2,int b2),(3,int b3),(16,int (([b0,b1,b2,b3]:List Int).length:Int))] [(960,.obj false 3 1 (([b0,b1,b2,b3]:List Int).map int))] (fun bb S=>(15,.own 960 (([b0,b1,b2,b3]:List Int).map int).length)::(17,int bb)::S) (fun bb M=>M) (fun n bb=>0≤bb∧bb+n=(([b0,b1,b2,b3]:List Int).length:Int)∧H0d (([b0,b1,b2,b3]:List Int).drop bb.toNat) bb=some o1) ([b0,b1,b2,b3]:List Int).length (0:Int) ⟨Int.le_refl _,by simp,h⟩ ?_
  clear h
  rintro JJ7 n7 z8 hag7 ⟨hza7,hzb7,h⟩
  refine Run.sr (X.bi ?_)
  refine X.nil (Run.seq ?_)
  refine R.cd (fun hc11=>?_) (fun hc11=>?_)
  ·obtain ⟨x9,xs10,hd7,hx7,hds7,hlt7⟩:=B0c hza7 hc11
   rw [hd7] at h
   rw [H0d] at h
   refine Run.skip (Run.seq (Run.block (Run.sr (X.index_o elt26 (by rfl) (by rfl) (by first | rfl | simp [setL] | omega) (by rfl) (A0d hx7).1 (A0e int hx7) (by rfl) (by rfl) (by rfl) ?_))))
   refine X.lc shp3 ?_
   refine X.an ?_
   refine Run.sr (X.mv ?_)
   obtain ⟨v12,hv12,h⟩:=bindE h
   refine X.cp (B0m _ _ _ _ hv12) ?_
   refine X.un (h:=?_)
   refine X.nil ?_
   refine R.cd (fun hc13=>?_) (fun hc13=>?_)
   ·replace h:=condT hc13 h
    refine Run.sr (X.an ?_)
    cases h
    have h:=hup2
    replace h:=elimR h
    cases h
    refine R.f1 Tryz.results21 ?_
    rfl
   replace h:=condF hc13 h
   refine Run.skip (Run.blk (Run.reg (X.ad ?_)))
   refine X.mn ?_
   exact R.ag hag7 (n7 - 1) (z8+1) (R.n3 (by first | (rw [hds7];exact h) | (dsimp only;rw [hds7];exact h)))
  rw [A0w hza7 hc11] at h
  rw [H0d] at h
  refine Run.exit (by rfl) ?_
  exact R.mt hmeet3 () (Option.some.inj h)
 rintro p14 rfl
 replace h:=elimL h
 refine Run.seq (Run.sr (X.mv ?_))
 refine X.bi ?_
 refine X.nil ?_
 refine R.cd (fun hc16=>?_) (fun hc16=>?_)
 ·replace h:=condT hc16 h
  refine Run.sr (X.an ?_)
  cases h
  refine R.f1 Tryz.results21 ?_
  rfl
 replace h:=condF hc16 h
 refine Run.skip (Run.sr (X.mv ?_))
 refine X.mv ?_
 refine X.addW (h:=?_)
 refine X.mv ?_
 refine X.min2 (by rfl) (by rfl) (by rfl) ?_
 refine X.mv ?_
 refine X.mv ?_
 refine X.max2 (by rfl) (by rfl) (by rfl) ?_
 refine X.subW (h:=?_)
 refine X.max2 (by rfl) (by rfl) (by rfl) ?_
 refine X.an ?_
 cases h
 refine R.f1 Tryz.results21 ?_
 rfl
theorem L0d (b0:A0a)(b1:A0f)(b2:Int)(b3:Int)(b4:Int)(b5:Int)(r:Int)(h:E0p b0 b1 b2 b3 b4 b5=some r):PC Tryz.prog 49 [A0u b0,D0c b1,int b2,int b3,int b4,int b5] (int r):=by
 unfold E0p at h
 refine PC.start Tryz.func49 Tryz.ntmps49 rfl (by kernel_rfl) rfl ?_
 refine Run.sr (X.bx ?_)
 refine X.bx ?_
 refine X.an ?_
 refine Run.sr (X.as ?_)
 refine X.an ?_
 refine Run.seq (Run.sr (X.fl H0n ?_))
 refine X.ld shp30 ?_
 refine X.mv ?_
 obtain ⟨v1,hv1,h⟩:=bindE h
 refine X.ix elt30 (A0d hv1).1 (A0e l_int hv1) ?_
 refine X.lc shp26 ?_
 refine X.ls elt26 ?_
 refine X.mn ?_
 obtain ⟨o2,ho2,h⟩:=bindE h
 refine R.join2 (β:=Int) [] [] (fun p25 S=>(13,int p25)::S) (fun p25 M=>M) (fun p25=>p25=o2) ?_ ?_
 ·intro JJ5 hmeet4
  have hup3:=h;clear h;have h:=ho2;clear ho2
  refine Run.block ?_
  refine R.bndS (t:=23) (by rfl) (fun hbd8=>?_)
  replace hbd8:v1.length≤9223372036854775807:=by first | (rw [List.length_map] at hbd8;exact hbd8) | simp
  refine R.lp (β:=Int×Int×Bool) [(2,int b2),(3,int b3),(4,int b4),(5,int b5),(6,.lptr 384 0),(7,.lptr 448 0),(23,.slice (v1.map int)),(24,int (v1.length:Int))] [(384,.blk true [int b0.Deadline,.slice (b0.Activities.map A0b),.slice (b0.Links.map A0o),.slice (b0.Resources.map A0c),.slice (b0.Stocks.map int)]),(448,.blk true [.slice (b1.MinStart.map int),.slice (b1.MaxStart.map int),.slice (b1.Modes.map l_int)])] (fun bb S=>(13,int bb.2.1)::(14,bool bb.2.2)::(25,int bb.1)::S) (fun bb M=>M) (fun n bb=>0≤bb.1∧bb.1+n=(v1.length:Int)∧B0w b0 b1 b2 b3 b4 b5 (v1.drop bb.1.toNat) bb.1 bb.2.1 bb.2.2=some o2) v1.length (0,0,false) ⟨Int.le_refl _,by simp,h⟩ ?_
  clear h
  rintro JJ8 n8 ⟨z9,a10,a11⟩ hag8 ⟨hza8,hzb8,h⟩
  dsimp only at hza8 hzb8 h
  refine Run.sr (X.bi ?_)
  refine X.nil (Run.seq ?_)
  refine R.cd (fun hc14=>?_) (fun hc14=>?_)
  ·obtain ⟨x12,xs13,hd8,hx8,hds8,hlt8⟩:=B0c hza8 hc14
   rw [hd8] at h
   rw [B0w] at h
   refine Run.skip (Run.seq (Run.block (Run.sr (X.ix elt26 (A0d hx8).1 (A0e int hx8) ?_))))
   refine X.lc shp3 ?_
   refine X.an ?_
   refine Run.sr (X.fl B0z ?_)
   refine X.ld shp23 ?_
   refine X.mv ?_
   obtain ⟨v15,hv15,h⟩:=bindE h
   refine X.ix elt23 (A0d hv15).1 (A0e A0b hv15) ?_
   refine X.fieldAddr_c H0v (by rfl) (by rfl) ?_
   refine X.lc shp48 ?_
   refine X.mv ?_
   obtain ⟨v16,hv16,h⟩:=bindE h
   refine X.ix elt48 (A0d hv16).1 (A0e B0o hv16) ?_
   refine X.lc shp47 ?_
   refine X.alloc zer47 (h:=?_)
   refine X.sl shp47 ?_
   refine X.nil (Run.seq (Run.draw (B0r [(1,([448],[],[],[])),(6,([1088],[],[],[])),(11,([448],[],[],[])),(16,([1088],[],[],[])),(22,([1088],[],[],[]))]) mixed (by kernel_rfl) (by kernel_rfl) ?_))
   refine X.fl H0a ?_
   refine X.ld shp26 ?_
   refine X.mv ?_
   obtain ⟨v17,hv17,h⟩:=bindE h
   refine X.ix elt26 (A0d hv17).1 (A0e int hv17) ?_
   refine X.lc shp3 ?_
   refine X.fl R0f ?_
   refine X.ld shp3 ?_
   refine X.mv ?_
   refine X.mv ?_
   obtain ⟨v18,hv18,h⟩:=bindE h
   refine X.cp (P0u _ _ _ _ _ hv18) ?_
   refine X.fl G0b ?_
   refine X.ld shp26 ?_
   refine X.mv ?_
   obtain ⟨v19,hv19,h⟩:=bindE h
   refine X.ix elt26 (A0d hv19).1 (A0e int hv19) ?_
   refine X.lc shp3 ?_
   refine X.fl R0f ?_
   refine X.ld shp3 ?_
   refine X.mv ?_
   refine X.mv ?_
   obtain ⟨v20,hv20,h⟩:=bindE h
   refine X.cp (P0u _ _ _ _ _ hv20) ?_
   refine X.min2 (by rfl) (by rfl) (by rfl) ?_
   refine X.fl N0n ?_
   refine X.ld shp26 ?_
   refine X.mv ?_
   obtain ⟨v21,hv21,h⟩:=bindE h
   refine X.ix elt26 (A0d hv21).1 (A0e int hv21) ?_
   refine X.lc shp3 ?_
   refine X.mulW (by rfl) (by rfl) (by rfl) ?_
   refine X.an ?_
   refine Run.seq ?_
   obtain ⟨e22,he22,h2⟩:=bindE h
   refine R.regG [(2,int b2),(3,int b3),(4,int b4),(5,int b5),(6,.lptr 384 0),(7,.lptr 448 0),(13,int a10),(14,bool a11),(18,int (W ((min v18 v20)*v21))),(23,.slice (v1.map int)),(24,int (v1.length:Int)),(25,int z9),(71,bool e22)] [(384,.blk true [int b0.Deadline,.slice (b0.Activities.map A0b),.slice (b0.Links.map A0o),.slice (b0.Resources.map A0c),.slice (b0.Stocks.map int)]),(448,.blk true [.slice (b1.MinStart.map int),.slice (b1.MaxStart.map int),.slice (b1.Modes.map l_int)])] ?_ ?_
   ·clear h;have h:=he22;clear he22 h2
    refine X.mv ?_
    refine X.un (h:=?_)
    refine X.mv ?_
    refine X.iG (fun hb23=>?_) (fun hb23=>?_)
    ·replace h:=condF hb23 h
     refine X.mv ?_
     refine X.gy (X.mv ?_)
     refine X.gy (X.bi ?_)
     refine X.pF ?_
     cases h
     exact X.eG
    replace h:=condT hb23 h
    refine X.gn (X.gn (X.pT ?_))
    cases h
    exact X.eG
   replace h:=h2;clear h2
   refine R.cd (fun hc24=>?_) (fun hc24=>?_)
   ·replace h:=condT hc24 h
    refine Run.reg (X.mv ?_)
    refine X.as ?_
    refine X.an ?_
    refine Run.blk (Run.reg (X.ad ?_))
    refine X.mn ?_
    exact R.ag hag8 (n8 - 1) (z9+1,(W ((min v18 v20)*v21)),true) (R.n3 (by first | (rw [hds8];exact h) | (dsimp only;rw [hds8];exact h)))
   replace h:=condF hc24 h
   refine Run.skip (Run.blk (Run.reg (X.ad ?_)))
   refine X.mn ?_
   exact R.ag hag8 (n8 - 1) (z9+1,a10,a11) (R.n3 (by first | (rw [hds8];exact h) | (dsimp only;rw [hds8];exact h)))
  rw [A0w hza8 hc14] at h
  rw [B0w] at h
  refine Run.exit (by rfl) ?_
  exact R.mt hmeet4 a10 (Option.some.inj h)
 rintro p25 rfl
 refine Run.sr (X.mv ?_)
 refine X.an ?_
 cases h
 refine R.f1 Tryz.results49 ?_
 rfl
theorem W0k (b0:A0a)(b1:A0f)(b2:Int)(b3:Int)(b4:Int)(b5:Int)(r:Int)(h:M0g b0 b1 b2 b3 b4 b5=some r):PC Tryz.prog 20 [A0u b0,D0c b1,int b2,int b3,int b4,int b5] (int r):=by
 unfold M0g at h
 refine PC.start Tryz.func20 Tryz.ntmps20 rfl (by kernel_rfl) rfl ?_
 refine Run.sr (X.bx ?_)
 refine X.bx ?_
 refine X.an ?_
 refine Run.seq (Run.seq ?_)
 obtain ⟨v1,hv1,h⟩:=bindE h
 obtain ⟨e2,he2,h2⟩:=bindE h
 refine R.regG [(2,int b2),(3,int b3),(4,int b4),(5,int b5),(6,.lptr 384 0),(7,.lptr 448 0),(28,bool e2)] [(384,.blk true [int b0.Deadline,.slice (b0.Activities.map A0b),.slice (b0.Links.map A0o),.slice (b0.Resources.map A0c),.slice (b0.Stocks.map int)]),(448,.blk true [.slice (b1.MinStart.map int),.slice (b1.MaxStart.map int),.slice (b1.Modes.map l_int)])] ?_ ?_
 ·clear h;have h:=he2;clear he2 h2
  refine X.ld shp28 ?_
  refine X.ld shp32 ?_
  refine X.cp (E0k _ _ _ hv1) ?_
  refine X.un (h:=?_)
  refine X.mv ?_
  refine X.iG (fun hb3=>?_) (fun hb3=>?_)
  ·replace h:=condF hb3 h
   refine X.ld shp28 ?_
   refine X.gy (X.mv ?_)
   refine X.gy ?_
   obtain ⟨v4,hv4,h⟩:=bindE h
   refine X.cp (A0z _ _ _ hv4) ?_
   refine X.gy (X.un (h:=?_))
   refine X.pF ?_
   refine X.mv ?_
   refine X.iG (fun hb5=>?_) (fun hb5=>?_)
   ·replace h:=condF hb5 h
    refine X.ld shp28 ?_
    refine X.gy (X.mv ?_)
    refine X.gy ?_
    obtain ⟨v6,hv6,h⟩:=bindE h
    refine X.cp (A0y _ _ _ hv6) ?_
    refine X.gy (X.un (h:=?_))
    refine X.pF ?_
    cases h
    exact X.eG
   replace h:=condT hb5 h
   refine X.gn (X.gn (X.gn (X.pT ?_)))
   cases h
   exact X.eG
  replace h:=condT hb3 h
  refine X.gn (X.gn (X.gn (X.pT ?_)))
  refine X.mv ?_
  refine X.gn (X.gn (X.gn (X.gn (X.pT ?_))))
  cases h
  exact X.eG
 replace h:=h2;clear h2
 refine R.cd (fun hc7=>?_) (fun hc7=>?_)
 ·replace h:=condT hc7 h
  refine Run.sr (X.an ?_)
  cases h
  refine R.f1 Tryz.results20 ?_
  rfl
 replace h:=condF hc7 h
 refine Run.skip (Run.sr (X.ld shp28 ?_))
 refine X.ld shp32 ?_
 refine X.mv ?_
 refine X.mv ?_
 refine X.mv ?_
 refine X.mv ?_
 obtain ⟨v8,hv8,h⟩:=bindE h
 refine X.cp (L0d _ _ _ _ _ _ _ hv8) ?_
 refine X.an ?_
 cases h
 refine R.f1 Tryz.results20 ?_
 rfl
theorem R0e (b0:A0a)(b1:A0f)(b2:Int)(b3:Int)(b4:Int)(r:Int)(h:G0v b0 b1 b2 b3 b4=some r):PC Tryz.prog 22 [A0u b0,D0c b1,int b2,int b3,int b4] (int r):=by
 unfold G0v at h
 refine PC.start Tryz.func22 Tryz.ntmps22 rfl (by kernel_rfl) rfl ?_
 refine Run.sr (X.bx ?_)
 refine X.bx ?_
 refine X.an ?_
 refine Run.seq (Run.seq ?_)
 obtain ⟨v1,hv1,h⟩:=bindE h
 obtain ⟨e2,he2,h2⟩:=bindE h
 refine R.regG [(2,int b2),(3,int b3),(4,int b4),(5,.lptr 320 0),(6,.lptr 384 0),(32,bool e2)] [(320,.blk true [int b0.Deadline,.slice (b0.Activities.map A0b),.slice (b0.Links.map A0o),.slice (b0.Resources.map A0c),.slice (b0.Stocks.map int)]),(384,.blk true [.slice (b1.MinStart.map int),.slice (b1.MaxStart.map int),.slice (b1.Modes.map l_int)])] ?_ ?_
 ·clear h;have h:=he2;clear he2 h2
  refine X.ld shp28 ?_
  refine X.ld shp32 ?_
  refine X.cp (E0k _ _ _ hv1) ?_
  refine X.un (h:=?_)
  refine X.mv ?_
  refine X.iG (fun hb3=>?_) (fun hb3=>?_)
  ·replace h:=condF hb3 h
   refine X.ld shp28 ?_
   refine X.gy (X.mv ?_)
   refine X.gy ?_
   obtain ⟨v4,hv4,h⟩:=bindE h
   refine X.cp (A0y _ _ _ hv4) ?_
   refine X.gy (X.un (h:=?_))
   refine X.pF ?_
   refine X.mv ?_
   refine X.iG (fun hb5=>?_) (fun hb5=>?_)
   ·replace h:=condF hb5 h
    refine X.mv ?_
    refine X.gy ?_
    obtain ⟨v6,hv6,h⟩:=bindE h
    refine X.cp (E0t _ _ hv6) ?_
    refine X.gy (X.un (h:=?_))
    refine X.pF ?_
    refine X.mv ?_
    refine X.iG (fun hb7=>?_) (fun hb7=>?_)
    ·replace h:=condF hb7 h
     refine X.mv ?_
     refine X.gy ?_
     obtain ⟨v8,hv8,h⟩:=bindE h
     refine X.cp (E0t _ _ hv8) ?_
     refine X.gy (X.un (h:=?_))
     refine X.pF ?_
     cases h
     exact X.eG
    replace h:=condT hb7 h
    refine X.gn (X.gn (X.pT ?_))
    cases h
    exact X.eG
   replace h:=condT hb5 h
   refine X.gn (X.gn (X.pT ?_))
   refine X.mv ?_
   refine X.gn (X.gn (X.gn (X.pT ?_)))
   cases h
   exact X.eG
  replace h:=condT hb3 h
  refine X.gn (X.gn (X.gn (X.pT ?_)))
  refine X.mv ?_
  refine X.gn (X.gn (X.gn (X.pT ?_)))
  refine X.mv ?_
  refine X.gn (X.gn (X.gn (X.pT ?_)))
  cases h
  exact X.eG
 replace h:=h2;clear h2
 refine R.cd (fun hc9=>?_) (fun hc9=>?_)
 ·replace h:=condT hc9 h
  refine Run.sr (X.an ?_)
  cases h
  refine R.f1 Tryz.results22 ?_
  rfl
 replace h:=condF hc9 h
 refine Run.skip (Run.sr (X.an ?_))
 refine Run.seq (Run.sr (X.mv ?_))
 refine X.an ?_
 obtain ⟨o10,ho10,h⟩:=bindE h
 refine R.join2 (β:=Int) [] [] (fun p21 S=>(11,int p21)::S) (fun p21 M=>M) (fun p21=>p21=o10) ?_ ?_
 ·intro JJ13 hmeet12
  have hup11:=h;clear h;have h:=ho10;clear ho10
  refine Run.block ?_
  refine R.lp (β:=Int×Int) [(2,int b2),(4,int b4),(5,.lptr 320 0),(6,.lptr 384 0)] [(320,.blk true [int b0.Deadline,.slice (b0.Activities.map A0b),.slice (b0.Links.map A0o),.slice (b0.Resources.map A0c),.slice (b0.Stocks.map int)]),(384,.blk true [.slice (b1.MinStart.map int),.slice (b1.MaxStart.map int),.slice (b1.Modes.map l_int)])] (fun bb S=>(11,int bb.1)::(12,int bb.2)::S) (fun bb M=>M) (fun n bb=>C0f b0 b1 b2 b4 n bb.1 bb.2=some o10) F0 (0,b3) h ?_
  clear h
  rintro JJ13 n13 ⟨a15,a16⟩ hag13 h
  dsimp only at h
  obtain _ | n13:=n13
  ·exact absurd h (by simp [C0f])
  rw [C0f] at h
  refine Run.seq (Run.sr (X.mv ?_))
  refine X.mv ?_
  refine X.bi ?_
  refine X.nil ?_
  refine R.cd (fun hc19=>?_) (fun hc19=>?_)
  ·replace h:=condT hc19 h
   refine Run.skip (Run.seq (Run.block (Run.reg (X.mv ?_))))
   refine X.ld shp28 ?_
   refine X.ld shp32 ?_
   refine X.mv ?_
   refine X.mv ?_
   obtain ⟨v20,hv20,h⟩:=bindE h
   refine X.cp (E0j _ _ _ _ _ hv20) ?_
   refine X.addW (h:=?_)
   refine X.an ?_
   refine Run.blk (Run.reg (X.mv ?_))
   refine X.addW (h:=?_)
   refine X.an ?_
   exact hag13 n13 ((W (a15+v20)),(W (a16+1))) _ _ (by omega) h (by trivial) (by trivial) (by rfl) (by rfl)
  replace h:=condF hc19 h
  refine Run.exit (by rfl) ?_
  exact R.mt hmeet12 a15 (Option.some.inj h)
 rintro p21 rfl
 refine Run.sr (X.mv ?_)
 refine X.an ?_
 cases h
 refine R.f1 Tryz.results22 ?_
 rfl
theorem K0b (b0:A0a)(b1:A0f)(b2:Int)(b3:Int)(b4:Int)(r:Int)(h:D0p b0 b1 b2 b3 b4=some r):PC Tryz.prog 52 [A0u b0,D0c b1,int b2,int b3,int b4] (int r):=by
 unfold D0p at h
 refine PC.start Tryz.func52 Tryz.ntmps52 rfl (by kernel_rfl) rfl ?_
 refine Run.sr (X.bx ?_)
 refine X.bx ?_
 refine X.an ?_
 refine Run.sr (X.an ?_)
 refine Run.seq (Run.sr (X.fl B0z ?_))
 refine X.ld shp23 ?_
 refine X.ls elt23 ?_
 refine X.mn ?_
 obtain ⟨o1,ho1,h⟩:=bindE h
 refine R.join2 (β:=Int) [] [] (fun p14 S=>(11,int p14)::S) (fun p14 M=>M) (fun p14=>p14=o1) ?_ ?_
 ·intro JJ4 hmeet3
  have hup2:=h;clear h;have h:=ho1;clear ho1
  refine Run.block ?_
  refine R.bndS (t:=14) (by rfl) (fun hbd7=>?_)
  replace hbd7:b0.Activities.length≤9223372036854775807:=by first | (rw [List.length_map] at hbd7;exact hbd7) | simp
  refine R.lp (β:=Int×Int) [(2,int b2),(3,int b3),(4,int b4),(5,.lptr 320 0),(6,.lptr 384 0),(15,int (b0.Activities.length:Int))] [(320,.blk true [int b0.Deadline,.slice (b0.Activities.map A0b),.slice (b0.Links.map A0o),.slice (b0.Resources.map A0c),.slice (b0.Stocks.map int)]),(384,.blk true [.slice (b1.MinStart.map int),.slice (b1.MaxStart.map int),.slice (b1.Modes.map l_int)])] (fun bb S=>(11,int bb.2)::(16,int bb.1)::S) (fun bb M=>M) (fun n bb=>0≤bb.1∧bb.1+n=(b0.Activities.length:Int)∧B0y b0 b1 b2 b3 b4 (b0.Activities.drop bb.1.toNat) bb.1 bb.2=some o1) b0.Activities.length (0,0) ⟨Int.le_refl _,by simp,h⟩ ?_
  clear h
  rintro JJ7 n7 ⟨z8,a9⟩ hag7 ⟨hza7,hzb7,h⟩
  dsimp only at hza7 hzb7 h
  refine Run.sr (X.bi ?_)
  refine X.nil (Run.seq ?_)
  refine R.cd (fun hc12=>?_) (fun hc12=>?_)
  ·obtain ⟨x10,xs11,hd7,hx7,hds7,hlt7⟩:=B0c hza7 hc12
   rw [hd7] at h
   rw [B0y] at h
   refine Run.skip (Run.seq (Run.block (Run.sr (X.mv ?_))))
   refine X.an ?_
   refine Run.reg (X.mv ?_)
   refine X.ld shp28 ?_
   refine X.ld shp32 ?_
   refine X.mv ?_
   refine X.mv ?_
   refine X.mv ?_
   refine X.mv ?_
   obtain ⟨v13,hv13,h⟩:=bindE h
   refine X.cp (L0d _ _ _ _ _ _ _ hv13) ?_
   refine X.addW (h:=?_)
   refine X.an ?_
   refine Run.blk (Run.reg (X.ad ?_))
   refine X.mn ?_
   exact R.ag hag7 (n7 - 1) (z8+1,(W (a9+v13))) (R.n3 (by first | (rw [hds7];exact h) | (dsimp only;rw [hds7];exact h)))
  rw [A0w hza7 hc12] at h
  rw [B0y] at h
  refine Run.exit (by rfl) ?_
  exact R.mt hmeet3 a9 (Option.some.inj h)
 rintro p14 rfl
 refine Run.sr (X.mv ?_)
 refine X.an ?_
 cases h
 refine R.f1 Tryz.results52 ?_
 rfl
theorem U0l (b0:A0a)(b1:A0f)(b2:Int)(b3:Int)(b4:Int)(r:Int)(h:J0o b0 b1 b2 b3 b4=some r):PC Tryz.prog 23 [A0u b0,D0c b1,int b2,int b3,int b4] (int r):=by
 unfold J0o at h
 refine PC.start Tryz.func23 Tryz.ntmps23 rfl (by kernel_rfl) rfl ?_
 refine Run.sr (X.bx ?_)
 refine X.bx ?_
 refine X.an ?_
 refine Run.seq (Run.seq ?_)
 obtain ⟨v1,hv1,h⟩:=bindE h
 obtain ⟨e2,he2,h2⟩:=bindE h
 refine R.regG [(2,int b2),(3,int b3),(4,int b4),(5,.lptr 320 0),(6,.lptr 384 0),(20,bool e2)] [(320,.blk true [int b0.Deadline,.slice (b0.Activities.map A0b),.slice (b0.Links.map A0o),.slice (b0.Resources.map A0c),.slice (b0.Stocks.map int)]),(384,.blk true [.slice (b1.MinStart.map int),.slice (b1.MaxStart.map int),.slice (b1.Modes.map l_int)])] ?_ ?_
 ·clear h;have h:=he2;clear he2 h2
  refine X.ld shp28 ?_
  refine X.ld shp32 ?_
  refine X.cp (E0k _ _ _ hv1) ?_
  refine X.un (h:=?_)
  refine X.mv ?_
  refine X.iG (fun hb3=>?_) (fun hb3=>?_)
  ·replace h:=condF hb3 h
   refine X.ld shp28 ?_
   refine X.gy (X.mv ?_)
   refine X.gy ?_
   obtain ⟨v4,hv4,h⟩:=bindE h
   refine X.cp (A0y _ _ _ hv4) ?_
   refine X.gy (X.un (h:=?_))
   refine X.pF ?_
   cases h
   exact X.eG
  replace h:=condT hb3 h
  refine X.gn (X.gn (X.gn (X.pT ?_)))
  cases h
  exact X.eG
 replace h:=h2;clear h2
 refine R.cd (fun hc5=>?_) (fun hc5=>?_)
 ·replace h:=condT hc5 h
  refine Run.sr (X.an ?_)
  cases h
  refine R.f1 Tryz.results23 ?_
  rfl
 replace h:=condF hc5 h
 refine Run.skip (Run.sr (X.ld shp28 ?_))
 refine X.ld shp32 ?_
 refine X.mv ?_
 refine X.mv ?_
 refine X.mv ?_
 obtain ⟨v6,hv6,h⟩:=bindE h
 refine X.cp (K0b _ _ _ _ _ _ hv6) ?_
 refine X.an ?_
 cases h
 refine R.f1 Tryz.results23 ?_
 rfl
theorem T0n (b0:A0a)(b1:A0f)(b2:Int)(b3:Int)(b4:Int)(r:Bool)(h:H0q b0 b1 b2 b3 b4=some r):PC Tryz.prog 24 [A0u b0,D0c b1,int b2,int b3,int b4] (bool r):=by
 unfold H0q at h
 refine PC.start Tryz.func24 Tryz.ntmps24 rfl (by kernel_rfl) rfl ?_
 refine Run.sr (X.bx ?_)
 refine X.bx ?_
 refine X.an ?_
 refine Run.seq (Run.seq ?_)
 obtain ⟨v1,hv1,h⟩:=bindE h
 obtain ⟨e2,he2,h2⟩:=bindE h
 refine R.regG [(2,int b2),(3,int b3),(4,int b4),(5,.lptr 320 0),(6,.lptr 384 0),(35,bool e2)] [(320,.blk true [int b0.Deadline,.slice (b0.Activities.map A0b),.slice (b0.Links.map A0o),.slice (b0.Resources.map A0c),.slice (b0.Stocks.map int)]),(384,.blk true [.slice (b1.MinStart.map int),.slice (b1.MaxStart.map int),.slice (b1.Modes.map l_int)])] ?_ ?_
 ·clear h;have h:=he2;clear he2 h2
  refine X.ld shp28 ?_
  refine X.ld shp32 ?_
  refine X.cp (E0k _ _ _ hv1) ?_
  refine X.un (h:=?_)
  refine X.mv ?_
  refine X.iG (fun hb3=>?_) (fun hb3=>?_)
  ·replace h:=condF hb3 h
   refine X.ld shp28 ?_
   refine X.gy (X.mv ?_)
   refine X.gy ?_
   obtain ⟨v4,hv4,h⟩:=bindE h
   refine X.cp (A0y _ _ _ hv4) ?_
   refine X.gy (X.un (h:=?_))
   refine X.pF ?_
   refine X.mv ?_
   refine X.iG (fun hb5=>?_) (fun hb5=>?_)
   ·replace h:=condF hb5 h
    refine X.mv ?_
    refine X.gy ?_
    obtain ⟨v6,hv6,h⟩:=bindE h
    refine X.cp (E0t _ _ hv6) ?_
    refine X.gy (X.un (h:=?_))
    refine X.pF ?_
    refine X.mv ?_
    refine X.iG (fun hb7=>?_) (fun hb7=>?_)
    ·replace h:=condF hb7 h
     refine X.mv ?_
     refine X.gy ?_
     obtain ⟨v8,hv8,h⟩:=bindE h
     refine X.cp (E0t _ _ hv8) ?_
     refine X.gy (X.un (h:=?_))
     refine X.pF ?_
     refine X.mv ?_
     refine X.iG (fun hb9=>?_) (fun hb9=>?_)
     ·replace h:=condF hb9 h
      refine X.mv ?_
      refine X.gy (X.mv ?_)
      refine X.gy (X.bi ?_)
      refine X.pF ?_
      cases h
      exact X.eG
     replace h:=condT hb9 h
     refine X.gn (X.gn (X.pT ?_))
     cases h
     exact X.eG
    replace h:=condT hb7 h
    refine X.gn (X.gn (X.pT ?_))
    refine X.mv ?_
    refine X.gn (X.gn (X.gn (X.pT ?_)))
    cases h
    exact X.eG
   replace h:=condT hb5 h
   refine X.gn (X.gn (X.pT ?_))
   refine X.mv ?_
   refine X.gn (X.gn (X.gn (X.pT ?_)))
   refine X.mv ?_
   refine X.gn (X.gn (X.gn (X.pT ?_)))
   cases h
   exact X.eG
  replace h:=condT hb3 h
  refine X.gn (X.gn (X.gn (X.pT ?_)))
  refine X.mv ?_
  refine X.gn (X.gn (X.gn (X.pT ?_)))
  refine X.mv ?_
  refine X.gn (X.gn (X.gn (X.pT ?_)))
  refine X.mv ?_
  refine X.gn (X.gn (X.gn (X.pT ?_)))
  cases h
  exact X.eG
 replace h:=h2;clear h2
 refine R.cd (fun hc10=>?_) (fun hc10=>?_)
 ·replace h:=condT hc10 h
  refine Run.sr (X.an ?_)
  cases h
  refine R.f1 Tryz.results24 ?_
  rfl
 replace h:=condF hc10 h
 refine Run.skip (Run.seq (Run.draw (B0r [(0,([320],[],[],[])),(1,([384],[],[],[])),(7,([320],[],[],[]))]) mixed (by kernel_rfl) (by kernel_rfl) ?_))
 refine X.ld shp28 ?_
 refine X.ld shp32 ?_
 refine X.mv ?_
 refine X.mv ?_
 refine X.mv ?_
 obtain ⟨v11,hv11,h⟩:=bindE h
 refine X.cp (K0b _ _ _ _ _ _ hv11) ?_
 refine X.fl G0s ?_
 refine X.ld shp25 ?_
 refine X.mv ?_
 obtain ⟨v12,hv12,h⟩:=bindE h
 refine X.ix elt25 (A0d hv12).1 (A0e A0c hv12) ?_
 refine X.fieldAddr_c N0g (by rfl) (by rfl) ?_
 refine X.lc shp62 ?_
 refine X.mv ?_
 refine X.mv ?_
 obtain ⟨v13,hv13,h⟩:=bindE h
 refine X.cp (F0g _ _ _ _ hv13) ?_
 refine X.bi ?_
 refine X.an ?_
 cases h
 refine R.f1 Tryz.results24 ?_
 rfl
theorem P0r (b0:A0a)(b1:Int)(b2:Int)(b3:Int)(r:Int)(h:J0g b0 b1 b2 b3=some r):PC Tryz.prog 25 [A0u b0,int b1,int b2,int b3] (int r):=by
 unfold J0g at h
 refine PC.start Tryz.func25 Tryz.ntmps25 rfl (by kernel_rfl) rfl ?_
 refine Run.sr (X.bx ?_)
 refine X.an ?_
 refine Run.seq (Run.seq ?_)
 obtain ⟨v1,hv1,h⟩:=bindE h
 obtain ⟨e2,he2,h2⟩:=bindE h
 refine R.regG [(1,int b1),(2,int b2),(3,int b3),(4,.lptr 256 0),(17,bool e2)] [(256,.blk true [int b0.Deadline,.slice (b0.Activities.map A0b),.slice (b0.Links.map A0o),.slice (b0.Resources.map A0c),.slice (b0.Stocks.map int)])] ?_ ?_
 ·clear h;have h:=he2;clear he2 h2
  refine X.ld shp28 ?_
  refine X.cp (H0p _ _ hv1) ?_
  refine X.un (h:=?_)
  refine X.mv ?_
  refine X.iG (fun hb3=>?_) (fun hb3=>?_)
  ·replace h:=condF hb3 h
   refine X.ld shp28 ?_
   refine X.gy (X.mv ?_)
   refine X.gy ?_
   obtain ⟨v4,hv4,h⟩:=bindE h
   refine X.cp (A0y _ _ _ hv4) ?_
   refine X.gy (X.un (h:=?_))
   refine X.pF ?_
   cases h
   exact X.eG
  replace h:=condT hb3 h
  refine X.gn (X.gn (X.gn (X.pT ?_)))
  cases h
  exact X.eG
 replace h:=h2;clear h2
 refine R.cd (fun hc5=>?_) (fun hc5=>?_)
 ·replace h:=condT hc5 h
  refine Run.sr (X.an ?_)
  cases h
  refine R.f1 Tryz.results25 ?_
  rfl
 replace h:=condF hc5 h
 refine Run.skip (Run.sr (X.fl G0s ?_))
 refine X.ld shp25 ?_
 refine X.mv ?_
 obtain ⟨v6,hv6,h⟩:=bindE h
 refine X.ix elt25 (A0d hv6).1 (A0e A0c hv6) ?_
 refine X.fieldAddr_c N0g (by rfl) (by rfl) ?_
 refine X.lc shp62 ?_
 refine X.mv ?_
 refine X.mv ?_
 obtain ⟨v7,hv7,h⟩:=bindE h
 refine X.cp (F0g _ _ _ _ hv7) ?_
 refine X.an ?_
 cases h
 refine R.f1 Tryz.results25 ?_
 rfl
theorem w_FnWork_pc (b0:List Int)(r:Bool)(h:w_FnWork b0=some r):PC Tryz.prog 4 [.slice (b0.map e_u8)] (bool r):=by
 unfold w_FnWork at h
 refine PC.start Tryz.func4 Tryz.ntmps4 rfl (by kernel_rfl) rfl ?_
 refine Run.sr (X.an ?_)
 refine Run.seq (Run.sr (X.mv ?_))
 refine X.ls elt22 ?_
 refine X.bi ?_
 refine X.nil ?_
 refine R.cd (fun hc1=>?_) (fun hc1=>?_)
 ·replace h:=condT hc1 h
  refine Run.sr (X.an ?_)
  cases h
  refine R.f1 Tryz.results4 ?_
  rfl
 replace h:=condF hc1 h
 refine Run.skip (Run.sr (X.mv ?_))
 obtain ⟨v2,hv2,h⟩:=bindE h
 refine X.callA (P0a _ _ hv2) (by rfl) (by rfl) (by rfl) (by trivial) (by rfl) (by rfl) (by rfl) (by rfl) (by rfl) (by rfl) ?_
 refine X.alloc zer28 (h:=?_)
 refine X.sl shp28 ?_
 refine X.nil (Run.sr (X.mv ?_))
 refine X.ld shp28 ?_
 obtain ⟨v3,hv3,h⟩:=bindE h
 refine X.callA (T0v _ _ _ hv3) (by rfl) (by rfl) (by rfl) (by repeat (first | trivial | refine ⟨by first | rfl | simp [setL],?_⟩)) (by rfl) (by rfl) (by rfl) (by rfl) (by rfl) (by rfl) ?_
 refine X.alloc zer32 (h:=?_)
 refine X.sl shp32 ?_
 refine X.nil (Run.sr (X.mv ?_))
 refine X.ld shp28 ?_
 obtain ⟨v4,hv4,h⟩:=bindE h
 refine X.callA (R0a _ _ _ hv4) (by rfl) (by rfl) (by rfl) (by repeat (first | trivial | refine ⟨by first | rfl | simp [setL],?_⟩)) (by rfl) (by rfl) (by rfl) (by rfl) (by rfl) (by rfl) ?_
 refine X.alloc zer35 (h:=?_)
 refine X.sl shp35 ?_
 refine X.nil (R.pubObj (n:=1665) (by rfl) ?_)
 refine Run.seq (Run.sr (X.fl B0z ?_))
 refine X.ld shp23 ?_
 refine X.len_o elt23 (by rfl) (by rfl) (by first | rfl | simp [setL] | omega) (by first | exact List.length_map .. | rfl) (by rfl) (by rfl) ?_
 refine X.mn ?_
 obtain ⟨o5,ho5,h⟩:=bindE h
 refine R.join2 (β:=(List Int)) [(0,.slice (b0.map e_u8)),(3,.lptr 192 0),(4,.lptr 256 0),(5,.lptr 320 0)] [(1280,.obj false 50 3 (v2.Activities.map A0b)),(1281,.obj false 101 4 (v2.Links.map A0o)),(1282,.obj false 64 2 (v2.Resources.map A0c)),(1283,.obj false 3 1 (v2.Stocks.map int)),(256,.blk true [.slice (v3.MinStart.map int),.slice (v3.MaxStart.map int),.slice (v3.Modes.map l_int)]),(1665,.obj false 3 1 (v4.Modes.map int))] (fun p28 S=>S) (fun p28 M=>(192,.blk true [int v2.Deadline,.own 1280 (v2.Activities.map A0b).length,.own 1281 (v2.Links.map A0o).length,.own 1282 (v2.Resources.map A0c).length,.own 1283 (v2.Stocks.map int).length])::(320,.blk true [.own 1664 (p28.map int).length,.own 1665 (v4.Modes.map int).length])::(1664,.obj true 3 1 (p28.map int))::M) (fun p28=>p28=o5) ?_ ?_
 ·intro JJ8 hmeet7
  have hup6:=h;clear h;have h:=ho5;clear ho5
  refine Run.block ?_
  refine R.bndO (n:=1280) (by rfl) (fun hbd11=>?_)
  replace hbd11:v2.Activities.length≤9223372036854775807:=by first | (rw [List.length_map] at hbd11;exact hbd11) | simp
  refine R.lp (β:=Int×(List Int)) [(0,.slice (b0.map e_u8)),(3,.lptr 192 0),(4,.lptr 256 0),(5,.lptr 320 0),(29,int (v2.Activities.length:Int))] [(1280,.obj false 50 3 (v2.Activities.map A0b)),(1281,.obj false 101 4 (v2.Links.map A0o)),(1282,.obj false 64 2 (v2.Resources.map A0c)),(1283,.obj false 3 1 (v2.Stocks.map int)),(256,.blk true [.slice (v3.MinStart.map int),.slice (v3.MaxStart.map int),.slice (v3.Modes.map l_int)]),(1665,.obj false 3 1 (v4.Modes.map int))] (fun bb S=>(30,int bb.1)::S) (fun bb M=>(192,.blk true [int v2.Deadline,.own 1280 (v2.Activities.map A0b).length,.own 1281 (v2.Links.map A0o).length,.own 1282 (v2.Resources.map A0c).length,.own 1283 (v2.Stocks.map int).length])::(320,.blk true [.own 1664 (bb.2.map int).length,.own 1665 (v4.Modes.map int).length])::(1664,.obj true 3 1 (bb.2.map int))::M) (fun n bb=>0≤bb.1∧bb.1+n=(v2.Activities.length:Int)∧w_FnWork_L1 v3 (v2.Activities.drop bb.1.toNat) bb.1 bb.2=some o5) v2.Activities.length (0,v4.Starts) ⟨Int.le_refl _,by simp,h⟩ ?_
  clear h
  rintro JJ11 n11 ⟨z12,a13⟩ hag11 ⟨hza11,hzb11,h⟩
  dsimp only at hza11 hzb11 h
  refine Run.sr (X.bi ?_)
  refine X.nil (Run.seq ?_)
  refine R.cd (fun hc16=>?_) (fun hc16=>?_)
  ·obtain ⟨x14,xs15,hd11,hx11,hds11,hlt11⟩:=B0c hza11 hc16
   rw [hd11] at h
   rw [w_FnWork_L1] at h
   refine Run.skip (Run.seq (Run.block (Run.sr (X.mv ?_))))
   refine X.an ?_
   refine Run.seq (Run.seq (Run.draw (B0r [(1,([320],[],[],[])),(3,([],[],[1664],[])),(4,([1664],[],[],[])),(6,([256],[],[],[]))]) mixed (by kernel_rfl) (by kernel_rfl) ?_))
   refine X.fl F0b ?_
   refine X.ld shp26 ?_
   refine X.mv ?_
   obtain ⟨v17,hv17,h⟩:=bindE h
   refine X.index_xs elt26 (by rfl) (by rfl) (by first | rfl | simp [setL] | omega) (by rfl) (by exact (Int.toNat_of_nonneg (A0d hv17).1).symm) (by have:=M0b hv17;first | exact this | (rw [List.length_map];exact this)) (by rfl) (by rfl) ?_
   refine X.load_e shp3 (by rfl) (by rfl) (by rfl) (by first | rfl | simp [setL] | omega) (A0e _ hv17) (by rfl) (by rfl) (by rfl) ?_
   refine X.fl H0a ?_
   refine X.ld shp26 ?_
   refine X.mv ?_
   obtain ⟨v18,hv18,h⟩:=bindE h
   refine X.ix elt26 (A0d hv18).1 (A0e int hv18) ?_
   refine X.lc shp3 ?_
   refine X.bi ?_
   refine X.nil ?_
   obtain ⟨o19,ho19,h⟩:=bindE h
   refine R.join2 (β:=(List Int)) [(0,.slice (b0.map e_u8)),(3,.lptr 192 0),(4,.lptr 256 0),(5,.lptr 320 0),(6,int z12),(29,int (v2.Activities.length:Int)),(30,int z12)] [(1280,.obj false 50 3 (v2.Activities.map A0b)),(1281,.obj false 101 4 (v2.Links.map A0o)),(1282,.obj false 64 2 (v2.Resources.map A0c)),(1283,.obj false 3 1 (v2.Stocks.map int)),(256,.blk true [.slice (v3.MinStart.map int),.slice (v3.MaxStart.map int),.slice (v3.Modes.map l_int)]),(1665,.obj false 3 1 (v4.Modes.map int))] (fun p24 S=>S) (fun p24 M=>(192,.blk true [int v2.Deadline,.own 1280 (v2.Activities.map A0b).length,.own 1281 (v2.Links.map A0o).length,.own 1282 (v2.Resources.map A0c).length,.own 1283 (v2.Stocks.map int).length])::(320,.blk true [.own 1664 (p24.map int).length,.own 1665 (v4.Modes.map int).length])::(1664,.obj true 3 1 (p24.map int))::M) (fun p24=>p24=o19) ?_ ?_
   ·intro JJ22 hmeet21
    have hup20:=h;clear h;have h:=ho19;clear ho19
    refine R.cd (fun hc23=>?_) (fun hc23=>?_)
    ·replace h:=condT hc23 h
     refine Run.draw (B0r [(1,([320],[],[],[])),(4,([256],[],[],[])),(8,([],[],[1664],[])),(9,([1664],[],[],[1664]))]) mixed (by kernel_rfl) (by kernel_rfl) ?_
     refine X.fl F0b ?_
     refine X.ld shp26 ?_
     refine X.mv ?_
     refine X.fl H0a ?_
     refine X.ld shp26 ?_
     refine X.mv ?_
     refine X.ix elt26 (A0d hv18).1 (A0e int hv18) ?_
     refine X.lc shp3 ?_
     refine X.index_xs elt26 (by rfl) (by rfl) (by first | rfl | simp [setL] | omega) (by rfl) (by exact (Int.toNat_of_nonneg (A0d hv17).1).symm) (by have:=M0b hv17;first | exact this | (rw [List.length_map];exact this)) (by rfl) (by rfl) ?_
     refine X.store_es shp3 (by rfl) (by rfl) (by first | rfl | simp [setL] | omega) (A0e _ hv17) (by rfl) (by rfl) (by repeat (first | trivial | refine ⟨by first | rfl | simp [setL],?_⟩)) (by rfl) (by rfl) (by rfl) (by rfl) (by exact Q0k _ _ _ v18) ?_
     refine X.nil (R.castB (n:=320) [.own 1664 ((setL a13 z12 v18).map int).length,.own 1665 (v4.Modes.map int).length] (by rfl) (.cons (.inl (by first | rfl | simp [setL])) (.cons (.inl (by first | rfl | simp [setL])) .nil)) ?_)
     exact R.mt hmeet21 (setL a13 z12 v18) (Option.some.inj h)
    replace h:=condF hc23 h
    refine Run.skip ?_
    exact R.mt hmeet21 a13 (Option.some.inj h)
   rintro p24 rfl
   refine Run.seq (Run.draw (B0r [(1,([320],[],[],[])),(3,([],[],[1664],[])),(4,([1664],[],[],[])),(6,([256],[],[],[]))]) mixed (by kernel_rfl) (by kernel_rfl) ?_)
   refine X.fl F0b ?_
   refine X.ld shp26 ?_
   refine X.mv ?_
   obtain ⟨v25,hv25,h⟩:=bindE h
   refine X.index_xs elt26 (by rfl) (by rfl) (by first | rfl | simp [setL] | omega) (by rfl) (by exact (Int.toNat_of_nonneg (A0d hv25).1).symm) (by have:=M0b hv25;first | exact this | (rw [List.length_map];exact this)) (by rfl) (by rfl) ?_
   refine X.load_e shp3 (by rfl) (by rfl) (by rfl) (by first | rfl | simp [setL] | omega) (A0e _ hv25) (by rfl) (by rfl) (by rfl) ?_
   refine X.fl G0b ?_
   refine X.ld shp26 ?_
   refine X.mv ?_
   obtain ⟨v26,hv26,h⟩:=bindE h
   refine X.ix elt26 (A0d hv26).1 (A0e int hv26) ?_
   refine X.lc shp3 ?_
   refine X.bi ?_
   refine X.nil ?_
   refine R.cd (fun hc27=>?_) (fun hc27=>?_)
   ·replace h:=condT hc27 h
    refine Run.draw (B0r [(1,([320],[],[],[])),(4,([256],[],[],[])),(8,([],[],[1664],[])),(9,([1664],[],[],[1664]))]) mixed (by kernel_rfl) (by kernel_rfl) ?_
    refine X.fl F0b ?_
    refine X.ld shp26 ?_
    refine X.mv ?_
    refine X.fl G0b ?_
    refine X.ld shp26 ?_
    refine X.mv ?_
    refine X.ix elt26 (A0d hv26).1 (A0e int hv26) ?_
    refine X.lc shp3 ?_
    refine X.index_xs elt26 (by rfl) (by rfl) (by first | rfl | simp [setL] | omega) (by rfl) (by exact (Int.toNat_of_nonneg (A0d hv25).1).symm) (by have:=M0b hv25;first | exact this | (rw [List.length_map];exact this)) (by rfl) (by rfl) ?_
    refine X.store_es shp3 (by rfl) (by rfl) (by first | rfl | simp [setL] | omega) (A0e _ hv25) (by rfl) (by rfl) (by repeat (first | trivial | refine ⟨by first | rfl | simp [setL],?_⟩)) (by rfl) (by rfl) (by rfl) (by rfl) (by exact Q0k _ _ _ v26) ?_
    refine X.nil (Run.blk (Run.reg (X.ad ?_)))
    refine X.mn ?_
    refine R.castB (n:=320) [.own 1664 ((setL p24 z12 v26).map int).length,.own 1665 (v4.Modes.map int).length] (by rfl) (.cons (.inl (by first | rfl | simp [setL])) (.cons (.inl (by first | rfl | simp [setL])) .nil)) ?_
    exact R.ag hag11 (n11 - 1) (z12+1,(setL p24 z12 v26)) (R.n3 (by first | (rw [hds11];exact h) | (dsimp only;rw [hds11];exact h)))
   replace h:=condF hc27 h
   refine Run.skip (Run.blk (Run.reg (X.ad ?_)))
   refine X.mn ?_
   exact R.ag hag11 (n11 - 1) (z12+1,p24) (R.n3 (by first | (rw [hds11];exact h) | (dsimp only;rw [hds11];exact h)))
  rw [A0w hza11 hc16] at h
  rw [w_FnWork_L1] at h
  refine Run.exit (by rfl) ?_
  exact R.mt hmeet7 a13 (Option.some.inj h)
 rintro p28 rfl
 refine Run.sr (X.mv ?_)
 obtain ⟨v29,hv29,h⟩:=bindE h
 refine X.cp (T0y _ _ _ hv29) ?_
 refine X.an ?_
 refine Run.sr (X.mv ?_)
 refine X.addW (h:=?_)
 refine X.mv ?_
 obtain ⟨v30,hv30,h⟩:=bindE h
 refine X.cp (T0y _ _ _ hv30) ?_
 refine X.addW (h:=?_)
 refine X.an ?_
 refine Run.sr (X.an ?_)
 refine Run.seq (Run.sr (X.mv ?_))
 refine X.an ?_
 obtain ⟨o31,ho31,h⟩:=bindE h
 refine R.join2 (β:=Int×(List Int)) [(3,.lptr 192 0),(4,.lptr 256 0),(5,.lptr 320 0),(7,int v29),(8,int (W ((W (v29+1))+v30)))] [(1280,.obj false 50 3 (v2.Activities.map A0b)),(1281,.obj false 101 4 (v2.Links.map A0o)),(1282,.obj false 64 2 (v2.Resources.map A0c)),(1283,.obj false 3 1 (v2.Stocks.map int)),(256,.blk true [.slice (v3.MinStart.map int),.slice (v3.MaxStart.map int),.slice (v3.Modes.map l_int)]),(1665,.obj false 3 1 (v4.Modes.map int))] (fun p43 S=>(9,int p43.1)::S) (fun p43 M=>(192,.blk true [int v2.Deadline,.own 1280 (v2.Activities.map A0b).length,.own 1281 (v2.Links.map A0o).length,.own 1282 (v2.Resources.map A0c).length,.own 1283 (v2.Stocks.map int).length])::(320,.blk true [.own 1664 (p43.2.map int).length,.own 1665 (v4.Modes.map int).length])::(1664,.obj false 3 1 (p43.2.map int))::M) (fun p43=>p43=o31) ?_ ?_
 ·intro JJ34 hmeet33
  have hup32:=h;clear h;have h:=ho31;clear ho31
  refine Run.block (R.pubObj (n:=1664) (by rfl) ?_)
  refine R.lp (β:=Int×Int×(List Int)) [(3,.lptr 192 0),(4,.lptr 256 0),(5,.lptr 320 0),(7,int v29),(8,int (W ((W (v29+1))+v30)))] [(1280,.obj false 50 3 (v2.Activities.map A0b)),(1281,.obj false 101 4 (v2.Links.map A0o)),(1282,.obj false 64 2 (v2.Resources.map A0c)),(1283,.obj false 3 1 (v2.Stocks.map int)),(256,.blk true [.slice (v3.MinStart.map int),.slice (v3.MaxStart.map int),.slice (v3.Modes.map l_int)]),(1665,.obj false 3 1 (v4.Modes.map int))] (fun bb S=>(9,int bb.1)::(10,int bb.2.1)::S) (fun bb M=>(192,.blk true [int v2.Deadline,.own 1280 (v2.Activities.map A0b).length,.own 1281 (v2.Links.map A0o).length,.own 1282 (v2.Resources.map A0c).length,.own 1283 (v2.Stocks.map int).length])::(320,.blk true [.own 1664 (bb.2.2.map int).length,.own 1665 (v4.Modes.map int).length])::(1664,.obj false 3 1 (bb.2.2.map int))::M) (fun n bb=>w_FnWork_L2 v2 v4 v29 v30 n bb.1 bb.2.1 bb.2.2=some o31) F0 (0,v29,p28) h ?_
  clear h
  rintro JJ34 n34 ⟨a36,a37,a38⟩ hag34 h
  dsimp only at h
  obtain _ | n34:=n34
  ·exact absurd h (by simp [w_FnWork_L2])
  rw [w_FnWork_L2] at h
  refine Run.seq (Run.sr (X.mv ?_))
  refine X.mv ?_
  refine X.bi ?_
  refine X.nil ?_
  refine R.cd (fun hc41=>?_) (fun hc41=>?_)
  ·replace h:=condT hc41 h
   refine Run.skip (Run.seq (Run.block (Run.reg (X.mv ?_))))
   refine X.ld shp28 ?_
   refine X.ld shp35 ?_
   refine X.mv ?_
   obtain ⟨v42,hv42,h⟩:=bindE h
   refine X.cp (T0x _ _ _ _ _ hv42) ?_
   refine X.addW (h:=?_)
   refine X.an ?_
   refine Run.blk (Run.reg (X.mv ?_))
   refine X.addW (h:=?_)
   refine X.an ?_
   exact hag34 n34 ((W (a36+v42)),(W (a37+1)),a38) _ _ (by omega) h (by repeat (first | trivial | refine ⟨by first | rfl | simp [setL],?_⟩)) (by repeat (first | trivial | refine ⟨by first | rfl | simp [setL],?_⟩)) (by rfl) (by rfl)
  replace h:=condF hc41 h
  refine Run.exit (by rfl) ?_
  exact R.mt hmeet33 (a36,a38) (Option.some.inj h)
 rintro p43 rfl
 refine Run.sr (X.an ?_)
 refine Run.seq (Run.sr (X.fl B0z ?_))
 refine X.ld shp23 ?_
 refine X.len_o elt23 (by rfl) (by rfl) (by first | rfl | simp [setL] | omega) (by first | exact List.length_map .. | rfl) (by rfl) (by rfl) ?_
 refine X.mn ?_
 obtain ⟨o44,ho44,h⟩:=bindE h
 refine R.join2 (β:=Int) [(3,.lptr 192 0),(4,.lptr 256 0),(5,.lptr 320 0),(7,int v29),(8,int (W ((W (v29+1))+v30))),(9,int p43.1)] [(1280,.obj false 50 3 (v2.Activities.map A0b)),(1281,.obj false 101 4 (v2.Links.map A0o)),(1282,.obj false 64 2 (v2.Resources.map A0c)),(1283,.obj false 3 1 (v2.Stocks.map int)),(256,.blk true [.slice (v3.MinStart.map int),.slice (v3.MaxStart.map int),.slice (v3.Modes.map l_int)]),(1664,.obj false 3 1 (p43.2.map int)),(1665,.obj false 3 1 (v4.Modes.map int))] (fun p63 S=>(11,int p63)::S) (fun p63 M=>(192,.blk true [int v2.Deadline,.own 1280 (v2.Activities.map A0b).length,.own 1281 (v2.Links.map A0o).length,.own 1282 (v2.Resources.map A0c).length,.own 1283 (v2.Stocks.map int).length])::(320,.blk true [.own 1664 (p43.2.map int).length,.own 1665 (v4.Modes.map int).length])::M) (fun p63=>(Sum.inl p63)=o44) ?_ ?_
 ·intro JJ47 hmeet46
  have hup45:=h;clear h;have h:=ho44;clear ho44
  refine Run.block ?_
  refine R.bndO (n:=1280) (by rfl) (fun hbd50=>?_)
  replace hbd50:v2.Activities.length≤9223372036854775807:=by first | (rw [List.length_map] at hbd50;exact hbd50) | simp
  refine R.lp (β:=Int×Int) [(3,.lptr 192 0),(4,.lptr 256 0),(5,.lptr 320 0),(7,int v29),(8,int (W ((W (v29+1))+v30))),(9,int p43.1),(95,int (v2.Activities.length:Int))] [(1280,.obj false 50 3 (v2.Activities.map A0b)),(1281,.obj false 101 4 (v2.Links.map A0o)),(1282,.obj false 64 2 (v2.Resources.map A0c)),(1283,.obj false 3 1 (v2.Stocks.map int)),(256,.blk true [.slice (v3.MinStart.map int),.slice (v3.MaxStart.map int),.slice (v3.Modes.map l_int)]),(1664,.obj false 3 1 (p43.2.map int)),(1665,.obj false 3 1 (v4.Modes.map int))] (fun bb S=>(11,int bb.2)::(96,int bb.1)::S) (fun bb M=>(192,.blk true [int v2.Deadline,.own 1280 (v2.Activities.map A0b).length,.own 1281 (v2.Links.map A0o).length,.own 1282 (v2.Resources.map A0c).length,.own 1283 (v2.Stocks.map int).length])::(320,.blk true [.own 1664 (p43.2.map int).length,.own 1665 (v4.Modes.map int).length])::M) (fun n bb=>0≤bb.1∧bb.1+n=(v2.Activities.length:Int)∧w_FnWork_L3 v2 v3 v4 v29 v30 p43 (v2.Activities.drop bb.1.toNat) bb.1 bb.2=some o44) v2.Activities.length (0,0) ⟨Int.le_refl _,by simp,h⟩ ?_
  clear h
  rintro JJ50 n50 ⟨z51,a52⟩ hag50 ⟨hza50,hzb50,h⟩
  dsimp only at hza50 hzb50 h
  refine Run.sr (X.bi ?_)
  refine X.nil (Run.seq ?_)
  refine R.cd (fun hc55=>?_) (fun hc55=>?_)
  ·obtain ⟨x53,xs54,hd50,hx50,hds50,hlt50⟩:=B0c hza50 hc55
   rw [hd50] at h
   rw [w_FnWork_L3] at h
   refine Run.skip (Run.seq (Run.block (Run.sr (X.mv ?_))))
   refine X.an ?_
   refine Run.sr (X.ld shp28 ?_)
   refine X.ld shp32 ?_
   refine X.mv ?_
   refine X.mv ?_
   refine X.mv ?_
   obtain ⟨v56,hv56,h⟩:=bindE h
   refine X.cp (W0k _ _ _ _ _ _ _ hv56) ?_
   refine X.an ?_
   refine Run.seq (Run.draw2 (B0r [(1,([192],[],[],[])),(3,([1280],[],[],[])),(7,([320],[],[],[])),(9,([1665],[],[],[])),(13,([896],[896],[],[])),(14,([896],[896],[],[]))]) mixed (by kernel_rfl) (by kernel_rfl) ?_)
   refine X.fl B0z ?_
   refine X.ld shp23 ?_
   refine X.mv ?_
   refine X.index_o elt23 (by rfl) (by rfl) (by first | rfl | simp [setL] | omega) (by rfl) (A0d hx50).1 (A0e A0b hx50) (by rfl) (by rfl) (by rfl) ?_
   refine X.fieldAddr_c H0v (by rfl) (by rfl) ?_
   refine X.lc shp48 ?_
   refine X.fl N0f ?_
   refine X.ld shp26 ?_
   refine X.mv ?_
   obtain ⟨v57,hv57,h⟩:=bindE h
   refine X.index_o elt26 (by rfl) (by rfl) (by first | rfl | simp [setL] | omega) (by rfl) (A0d hv57).1 (A0e int hv57) (by rfl) (by rfl) (by rfl) ?_
   refine X.lc shp3 ?_
   obtain ⟨v58,hv58,h⟩:=bindE h
   refine X.ix elt48 (A0d hv58).1 (A0e B0o hv58) ?_
   refine X.lc shp47 ?_
   refine X.alloc zer47 (h:=?_)
   refine X.sl shp47 ?_
   refine X.nil (Run.seq (Run.seq (Run.draw (B0r [(2,([896],[],[],[])),(6,([320],[],[],[])),(8,([1664],[],[],[])),(11,([896],[],[],[]))]) mixed (by kernel_rfl) (by kernel_rfl) ?_)))
   refine X.mv ?_
   refine X.fl N0n ?_
   refine X.ld shp26 ?_
   obtain ⟨v59,hv59,h⟩:=bindE h
   refine X.ix elt26 (A0d hv59).1 (A0e int hv59) ?_
   refine X.lc shp3 ?_
   refine X.fl F0b ?_
   refine X.ld shp26 ?_
   refine X.mv ?_
   obtain ⟨v60,hv60,h⟩:=bindE h
   refine X.index_o elt26 (by rfl) (by rfl) (by first | rfl | simp [setL] | omega) (by rfl) (A0d hv60).1 (A0e int hv60) (by rfl) (by rfl) (by rfl) ?_
   refine X.lc shp3 ?_
   refine X.fl R0f ?_
   refine X.ld shp3 ?_
   refine X.mv ?_
   refine X.mv ?_
   obtain ⟨v61,hv61,h⟩:=bindE h
   refine X.cp (P0u _ _ _ _ _ hv61) ?_
   refine X.mulW (by rfl) (by rfl) (by rfl) ?_
   refine X.bi ?_
   refine X.nil ?_
   refine R.cd (fun hc62=>?_) (fun hc62=>?_)
   ·replace h:=condT hc62 h
    refine Run.sr (X.an ?_)
    cases h
    have h:=hup45
    replace h:=elimR h
    cases h
    refine R.f1 Tryz.results4 ?_
    rfl
   replace h:=condF hc62 h
   refine Run.skip (Run.reg (X.mv ?_))
   refine X.mv ?_
   refine X.addW (h:=?_)
   refine X.an ?_
   refine Run.blk (Run.reg (X.ad ?_))
   refine X.mn ?_
   exact R.ag hag50 (n50 - 1) (z51+1,(W (a52+v56))) (R.n3 (by first | (rw [hds50];exact h) | (dsimp only;rw [hds50];exact h)))
  rw [A0w hza50 hc55] at h
  rw [w_FnWork_L3] at h
  refine Run.exit (by rfl) ?_
  exact R.mt hmeet46 a52 (Option.some.inj h)
 rintro p63 rfl
 replace h:=elimL h
 refine Run.sr (X.ld shp28 ?_)
 refine X.ld shp32 ?_
 refine X.mv ?_
 refine X.mv ?_
 obtain ⟨v65,hv65,h⟩:=bindE h
 refine X.cp (R0e _ _ _ _ _ _ hv65) ?_
 refine X.an ?_
 refine Run.seq ?_
 obtain ⟨v66,hv66,h⟩:=bindE h
 obtain ⟨e67,he67,h2⟩:=bindE h
 refine R.drawG [(2,bool e67)] [] (B0r [(0,([256],[],[],[])),(1,([320],[],[],[])),(2,([1664,1665],[],[],[])),(4,([192],[],[],[])),(5,([256],[],[],[])),(8,([1280,1281,1282,1283],[],[],[])),(23,([192],[],[],[])),(24,([256],[],[],[])),(27,([1280,1281,1282,1283],[],[],[])),(30,([192],[],[],[])),(31,([320],[],[],[])),(35,([1280,1281,1282,1283,1664,1665],[],[],[])),(39,([192],[],[],[])),(42,([1280,1281,1282,1283],[],[],[])),(44,([192],[],[],[])),(45,([1282],[],[],[]))]) mixed (by kernel_rfl) (by kernel_rfl) ?_ ?_
 ·clear h;have h:=he67;clear he67 h2
  refine X.ld shp32 ?_
  refine X.ld shp35 ?_
  refine X.cp (S0y _ _ _ hv66) ?_
  refine X.mv ?_
  refine X.iG (fun hb68=>?_) (fun hb68=>?_)
  ·replace h:=condT hb68 h
   refine X.ld shp28 ?_
   refine X.gy (X.ld shp32 ?_)
   refine X.gy (X.mv ?_)
   refine X.gy (X.mv ?_)
   refine X.gy ?_
   obtain ⟨v69,hv69,h⟩:=bindE h
   refine X.cp (U0l _ _ _ _ _ _ hv69) ?_
   refine X.gy (X.mv ?_)
   refine X.gy (X.bi ?_)
   refine X.pT ?_
   refine X.mv ?_
   refine X.iG (fun hb70=>?_) (fun hb70=>?_)
   ·replace h:=condT hb70 h
    refine X.mv ?_
    refine X.gy (X.mv ?_)
    refine X.gy (X.bi ?_)
    refine X.pT ?_
    refine X.mv ?_
    refine X.iG (fun hb71=>?_) (fun hb71=>?_)
    ·replace h:=condT hb71 h
     refine X.mv ?_
     refine X.gy (X.mv ?_)
     refine X.gy (X.bi ?_)
     refine X.pT ?_
     refine X.mv ?_
     refine X.iG (fun hb72=>?_) (fun hb72=>?_)
     ·replace h:=condT hb72 h
      refine X.ld shp28 ?_
      refine X.gy (X.ld shp32 ?_)
      refine X.gy (X.mv ?_)
      refine X.gy (X.mv ?_)
      refine X.gy ?_
      obtain ⟨v73,hv73,h⟩:=bindE h
      refine X.cp (T0n _ _ _ _ _ _ hv73) ?_
      refine X.gy (X.un (h:=?_))
      refine X.gy (X.mv ?_)
      refine X.iG (fun hb74=>?_) (fun hb74=>?_)
      ·replace h:=condF hb74 h
       refine X.ld shp28 ?_
       refine X.gy (X.ld shp35 ?_)
       refine X.gy (X.mv ?_)
       refine X.gy (X.mv ?_)
       refine X.gy ?_
       refine X.build zer53 pl53 (by rfl) (by rfl) (by repeat (first | trivial | refine ⟨by first | rfl | simp [setL],?_⟩)) (by rfl) (by rfl) (by rfl) ?_
       refine X.gy ?_
       obtain ⟨v75,hv75,h⟩:=bindE h
       refine X.cp (R0s _ _ _ _ hv75) ?_
       refine X.gy (X.pF ?_)
       refine X.pT ?_
       refine X.mv ?_
       refine X.iG (fun hb76=>?_) (fun hb76=>?_)
       ·replace h:=condT hb76 h
        refine X.ld shp28 ?_
        refine X.gy (X.mv ?_)
        refine X.gy (X.mv ?_)
        refine X.gy ?_
        obtain ⟨v77,hv77,h⟩:=bindE h
        refine X.cp (P0r _ _ _ _ _ hv77) ?_
        refine X.gy (X.fl G0s ?_)
        refine X.gy (X.ld shp25 ?_)
        refine X.gy ?_
        obtain ⟨v78,hv78,h⟩:=bindE h
        refine X.index_o elt25 (by rfl) (by rfl) (by first | rfl | simp [setL] | omega) (by rfl) (A0d hv78).1 (A0e A0c hv78) (by rfl) (by rfl) (by rfl) ?_
        refine X.gy (X.fieldAddr_c N0g (by rfl) (by rfl) ?_)
        refine X.gy (X.lc shp62 ?_)
        refine X.gy (X.mv ?_)
        refine X.gy (X.mv ?_)
        refine X.gy ?_
        obtain ⟨v79,hv79,h⟩:=bindE h
        refine X.cp (F0g _ _ _ _ hv79) ?_
        refine X.gy (X.bi ?_)
        refine X.pT ?_
        refine X.as ?_
        cases h
        exact X.eG
       replace h:=condF hb76 h
       refine X.gn (X.gn (X.gn (X.gn (X.gn (X.gn (X.gn (X.gn ?_)))))))
       refine X.gn (X.gn (X.gn (X.gn (X.pF ?_))))
       refine X.as ?_
       cases h
       exact X.eG
      replace h:=condT hb74 h
      refine X.gn (X.gn (X.gn (X.gn (X.gn (X.gy (X.pT ?_))))))
      refine X.pT ?_
      refine X.mv ?_
      refine X.gy (X.ld shp28 ?_)
      refine X.gy (X.mv ?_)
      refine X.gy (X.mv ?_)
      refine X.gy ?_
      obtain ⟨v80,hv80,h⟩:=bindE h
      refine X.cp (P0r _ _ _ _ _ hv80) ?_
      refine X.gy (X.fl G0s ?_)
      refine X.gy (X.ld shp25 ?_)
      refine X.gy ?_
      obtain ⟨v81,hv81,h⟩:=bindE h
      refine X.index_o elt25 (by rfl) (by rfl) (by first | rfl | simp [setL] | omega) (by rfl) (A0d hv81).1 (A0e A0c hv81) (by rfl) (by rfl) (by rfl) ?_
      refine X.gy (X.fieldAddr_c N0g (by rfl) (by rfl) ?_)
      refine X.gy (X.lc shp62 ?_)
      refine X.gy (X.mv ?_)
      refine X.gy (X.mv ?_)
      refine X.gy ?_
      obtain ⟨v82,hv82,h⟩:=bindE h
      refine X.cp (F0g _ _ _ _ hv82) ?_
      refine X.gy (X.bi ?_)
      refine X.pT ?_
      refine X.as ?_
      cases h
      exact X.eG
     replace h:=condF hb72 h
     refine X.gn (X.gn (X.gn (X.gn (X.gn (X.gn (X.gU (h:=?_)))))))
     refine X.gU (h:=?_)
     refine X.gU (h:=?_)
     refine X.gU (h:=?_)
     refine X.gU (h:=?_)
     refine X.gU (h:=?_)
     refine X.gn (X.pF ?_)
     refine X.mv ?_
     refine X.gn (X.gn (X.gn (X.gn (X.gn (X.gn (X.gn (X.gn ?_)))))))
     refine X.gn (X.gn (X.gn (X.gn (X.gn (X.pF ?_)))))
     refine X.as ?_
     cases h
     exact X.eG
    replace h:=condF hb71 h
    refine X.gn (X.gn (X.pF ?_))
    refine X.mv ?_
    refine X.gn (X.gn (X.gn (X.gn (X.gn (X.gn (X.gn (X.gU (h:=?_))))))))
    refine X.gU (h:=?_)
    refine X.gU (h:=?_)
    refine X.gU (h:=?_)
    refine X.gU (h:=?_)
    refine X.gU (h:=?_)
    refine X.gn (X.pF ?_)
    refine X.mv ?_
    refine X.gn (X.gn (X.gn (X.gn (X.gn (X.gn (X.gn (X.gn ?_)))))))
    refine X.gn (X.gn (X.gn (X.gn (X.gn (X.pF ?_)))))
    refine X.as ?_
    cases h
    exact X.eG
   replace h:=condF hb70 h
   refine X.gn (X.gn (X.pF ?_))
   refine X.mv ?_
   refine X.gn (X.gn (X.gn (X.pF ?_)))
   refine X.mv ?_
   refine X.gn (X.gn (X.gn (X.gn (X.gn (X.gn (X.gn (X.gU (h:=?_))))))))
   refine X.gU (h:=?_)
   refine X.gU (h:=?_)
   refine X.gU (h:=?_)
   refine X.gU (h:=?_)
   refine X.gU (h:=?_)
   refine X.gn (X.pF ?_)
   refine X.mv ?_
   refine X.gn (X.gn (X.gn (X.gn (X.gn (X.gn (X.gn (X.gn ?_)))))))
   refine X.gn (X.gn (X.gn (X.gn (X.gn (X.pF ?_)))))
   refine X.as ?_
   cases h
   exact X.eG
  replace h:=condF hb68 h
  refine X.gn (X.gn (X.gn (X.gn (X.gn (X.gn (X.pF ?_))))))
  refine X.mv ?_
  refine X.gn (X.gn (X.gn (X.pF ?_)))
  refine X.mv ?_
  refine X.gn (X.gn (X.gn (X.pF ?_)))
  refine X.mv ?_
  refine X.gn (X.gn (X.gn (X.gn (X.gn (X.gn (X.gn (X.gU (h:=?_))))))))
  refine X.gU (h:=?_)
  refine X.gU (h:=?_)
  refine X.gU (h:=?_)
  refine X.gU (h:=?_)
  refine X.gU (h:=?_)
  refine X.gn (X.pF ?_)
  refine X.mv ?_
  refine X.gn (X.gn (X.gn (X.gn (X.gn (X.gn (X.gn (X.gn ?_)))))))
  refine X.gn (X.gn (X.gn (X.gn (X.gn (X.pF ?_)))))
  refine X.as ?_
  cases h
  exact X.eG
 replace h:=h2;clear h2
 cases h
 refine R.f1 Tryz.results4 ?_
 rfl
end Go.Px.YtncedeembfcakaaGreat
